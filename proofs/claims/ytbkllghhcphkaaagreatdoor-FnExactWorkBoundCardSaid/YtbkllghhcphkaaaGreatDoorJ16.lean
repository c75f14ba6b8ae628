import Derived.Test.YtbkllghhcphkaaaGreatDoorCt7
set_option linter.unusedSimpArgs false
set_option linter.unusedVariables false
namespace Go.Proofs.YtbkllghhcphkaaaGreatDoor
open Go.RowKit Am
set_option maxHeartbeats 4000000
set_option maxRecDepth 100000
theorem ZgD:∀(k:Nat),(∀(a0:Zb) (r:Int) (hM:QZ k a0=some r),Ctr Tryz.prog 136 [.agg (Zb.c a0)] true [.one (.int .i64 r)]):=by
 intro k
 induction k with
 | zero=>intro a0 r hM;simp [QZ] at hM
 | succ k ih_i_NodeCount=>
  ·intro a0 r hM;haveI:HC 136 _:=⟨ih_i_NodeCount⟩;rw [QZ] at hM;refine Zn Tryz.func136 Tryz.ntmps136 Tryz.results136 fun N w0 hbad F=> ?_;refine S1 ?_;refine S1 ?_;refine mj (ι:=Int) [] [] [] (fun i=>[(3,oI i)]) hM ?_ ?_
   ·intro e1 hM K3 hK3;refine S1 ?_;refine Zc ?_;refine lp (ι:=Int×Int) [7,8] [] [] (fun i=>[(3,oI i.1),(9,oI i.2)]) (fun n i=>Qd (QZ k) a0 n i.1 i.2=some e1) k (1,0) hM (by simp [Qd]) ?_;intro KL4 nL4 ⟨x2,x3⟩ hL4 hM _;have hM:Qd (QZ k) a0 (nL4+1) x2 x3=some e1:=hM;rw [Qd] at hM;exact au
   ·intro x1 hM;(try dsimp only at hM);exact au
theorem ZbO (k:Nat):∀(a0:Zb) (r:Int) (hM:QZ k a0=some r),Ctr Tryz.prog 136 [.agg (Zb.c a0)] true [.one (.int .i64 r)]:=(ZgD k)
instance:HC 136 (Ty @ZbO):=⟨ZbO⟩
theorem ZgE:∀(k:Nat),(∀(a0:Zb) (r:Int) (hM:Qw k a0=some r),Ctr Tryz.prog 137 [.agg (Zb.c a0)] true [.one (.int .i64 r)]):=by
 intro k
 induction k with
 | zero=>intro a0 r hM;simp [Qw] at hM
 | succ k ih_i_NestingOf=>
  ·intro a0 r hM;haveI:HC 137 _:=⟨ih_i_NestingOf⟩;rw [Qw] at hM;refine Zn Tryz.func137 Tryz.ntmps137 Tryz.results137 fun N w0 hbad F=> ?_;refine S1 ?_;refine S1 ?_;refine mj (ι:=Int) [] [] [] (fun i=>[(3,oI i)]) hM ?_ ?_
   ·intro e1 hM K3 hK3;refine S1 ?_;refine Zc ?_;refine lp (ι:=Int×Int) [7,8] [] [] (fun i=>[(3,oI i.1),(9,oI i.2)]) (fun n i=>Qe (Qw k) a0 n i.1 i.2=some e1) k (0,0) hM (by simp [Qe]) ?_;intro KL4 nL4 ⟨x2,x3⟩ hL4 hM _;have hM:Qe (Qw k) a0 (nL4+1) x2 x3=some e1:=hM;rw [Qe] at hM;exact au
   ·intro x1 hM;(try dsimp only at hM);exact au
theorem ZbP (k:Nat):∀(a0:Zb) (r:Int) (hM:Qw k a0=some r),Ctr Tryz.prog 137 [.agg (Zb.c a0)] true [.one (.int .i64 r)]:=(ZgE k)
instance:HC 137 (Ty @ZbP):=⟨ZbP⟩
theorem Zfs (k:Nat) (a0:Zb) (r:Bool) (hM:Zaz k a0=some r):Ctr Tryz.prog 186 [.agg (Zb.c a0)] true [.one (.bool r)]:=by
 unfold Zaz at hM;refine Zn Tryz.func186 Tryz.ntmps186 Tryz.results186 fun N w0 hbad F=> ?_;refine S1 ?_;refine S1 ?_;refine Ze fun K1 hK1=> ?_;refine S1 ?_;refine Zc ?_;refine S1 ?_;refine Zj hM (fun h2 hM=> ?_) (fun h2 hM=> ?_)
 ·have F:=nf F h2;refine mj (ι:=Bool) [] [] [] (fun i=>[(2,oB i)]) hM ?_ ?_
  ·intro e3 hM K5 hK5;exact au
  ·intro x1 hM;(try dsimp only at hM);exact au
 ·have F:=nf F h2;refine S1 ?_;refine Zj hM (fun h9 hM=> ?_) (fun h9 hM=> ?_)
  ·have F:=nf F h9;refine mj (ι:=Bool) [] [] [] (fun i=>[(2,oB i)]) hM ?_ ?_
   ·intro e10 hM K12 hK12;exact au
   ·intro x3 hM;(try dsimp only at hM);exact au
  ·have F:=nf F h9;refine S1 ?_;refine Zj hM (fun h16 hM=> ?_) (fun h16 hM=> ?_)
   ·have F:=nf F h16;refine mj (ι:=Bool) [] [] [] (fun i=>[(2,oB i)]) hM ?_ ?_
    ·intro e17 hM K19 hK19;exact au
    ·intro x5 hM;(try dsimp only at hM);exact au
   ·have F:=nf F h16;refine S1 ?_;refine Zj hM (fun h23 hM=> ?_) (fun h23 hM=> ?_)
    ·have F:=nf F h23;refine mj (ι:=Bool) [] [] [] (fun i=>[(2,oB i)]) hM ?_ ?_
     ·intro e24 hM K26 hK26;exact au
     ·intro x7 hM;(try dsimp only at hM);exact au
    ·have F:=nf F h23;refine S1 ?_;refine Zj hM (fun h29 hM=> ?_) (fun h29 hM=> ?_)
     ·have F:=nf F h29;refine mj (ι:=Bool) [] [] [] (fun i=>[(2,oB i)]) hM ?_ ?_
      ·intro e30 hM K32 hK32;exact au
      ·intro x8 hM;(try dsimp only at hM);exact au
     ·have F:=nf F h29;refine S1 ?_;refine Zj hM (fun h35 hM=> ?_) (fun h35 hM=> ?_)
      ·have F:=nf F h35;refine mj (ι:=Bool) [] [] [] (fun i=>[(2,oB i)]) hM ?_ ?_
       ·intro e36 hM K38 hK38;exact au
       ·intro x10 hM;(try dsimp only at hM);exact au
      ·have F:=nf F h35;refine mj (ι:=Bool) [1,3,8] [1] [] (fun i=>[(91,oB i)]) hM ?_ ?_
       ·intro e42 hM K44 hK44;exact au
       ·intro x12 hM;(try dsimp only at hM);refine Zj hM (fun h46 hM=> ?_) (fun h46 hM=> ?_)
        ·have F:=nf F h46;refine mj (ι:=Bool) [] [] [] (fun i=>[(2,oB i)]) hM ?_ ?_
         ·intro e47 hM K49 hK49;exact au
         ·intro x13 hM;(try dsimp only at hM);exact au
        ·have F:=nf F h46;refine S1 ?_;refine Zj hM (fun h53 hM=> ?_) (fun h53 hM=> ?_)
         ·have F:=nf F h53;refine mj (ι:=Bool) [] [] [] (fun i=>[(2,oB i)]) hM ?_ ?_
          ·intro e54 hM K56 hK56;exact au
          ·intro x15 hM;(try dsimp only at hM);exact au
         ·have F:=nf F h53;exact au
instance:HC 186 (Ty @Zfs):=⟨Zfs⟩
theorem Zhj:∀(k:Nat),(∀(a0:Zb) (r:Bool) (hM:Qt k a0=some r),Ctr Tryz.prog 138 [.agg (Zb.c a0)] true [.one (.bool r)]):=by
 intro k
 induction k with
 | zero=>intro a0 r hM;simp [Qt] at hM
 | succ k ih_i_areNodes=>
  ·intro a0 r hM;haveI:HC 138 _:=⟨ih_i_areNodes⟩;rw [Qt] at hM;refine Zn Tryz.func138 Tryz.ntmps138 Tryz.results138 fun N w0 hbad F=> ?_;refine S1 ?_;refine mjE (ι:=Unit) [1] [1] [] (fun i=>[]) hM ?_ ?_
   ·intro e1 hM hR1 K3 hK3;refine S1 ?_;refine Zc ?_;refine lp (ι:=Int) [1,6,7] [1] [] (fun i=>[(8,oI i)]) (fun n i=>Xm (Qt k) a0 n i=some e1) k 0 hM (by simp [Xm]) ?_;intro KL4 nL4 x1 hL4 hM _;have hM:Xm (Qt k) a0 (nL4+1) x1=some e1:=hM;rw [Xm] at hM;exact au
   ·intro _ hM;dsimp only at hM;exact au
theorem ZcF (k:Nat):∀(a0:Zb) (r:Bool) (hM:Qt k a0=some r),Ctr Tryz.prog 138 [.agg (Zb.c a0)] true [.one (.bool r)]:=(Zhj k)
instance:HC 138 (Ty @ZcF):=⟨ZcF⟩
theorem KS (k:Nat) (a0:Zb) (r:Bool) (hM:W0 k a0=some r):Ctr Tryz.prog 83 [.agg (Zb.c a0)] true [.one (.bool r)]:=by
 unfold W0 at hM;refine Zn Tryz.func83 Tryz.ntmps83 Tryz.results83 fun N w0 hbad F=> ?_;refine S1 ?_;refine mj (ι:=Bool) [] [] [] (fun i=>[(2,oB i)]) hM ?_ ?_
 ·intro e1 hM K3 hK3;exact au
 ·intro x1 hM;(try dsimp only at hM);exact au
instance:HC 83 (Ty @KS):=⟨KS⟩
theorem JC (k:Nat) (a0:ByteArray) (r:Zb×Int) (hM:WM k a0=some r):Ctr Tryz.prog 128 [.one (.str a0)] false [.agg (Zb.c r.1),.one (.int .i64 r.2)]:=by
 unfold WM at hM;refine Zn Tryz.func128 Tryz.ntmps128 Tryz.results128 fun N w0 hbad F=> ?_;refine S1 ?_;obtain ⟨x1,e1,hM⟩:=bind_some hM;refine Zv fun K h=> ?_;simp [go_sem,F];refine Yl false (Kn k a0 x1 e1) ?_;simp [go_sem,F];refine h _ ?_;refine Ze fun K2 hK2=> ?_;refine S1 ?_;refine Zj hM (fun h3 hM=> ?_) (fun h3 hM=> ?_)
 ·have F:=Zyn (nf F h3) (eT h3);exact au
 ·have F:=Zyn (nf F h3) (eF h3);refine Zh ?_;refine hK2 _ ?_;refine S1 ?_;refine le1 [0,2,6] [2] [] ?_ (ch:=[(4,oL Zi.c x1.1)]) (cb:=[(19,[cL Zi.c x1.1,cI 0,cI (-1)])]);obtain ⟨x2,e4,hM⟩:=bind_some hM;refine Zv fun K h=> ?_;simp [go_sem,F];refine ZF 0 (V1 k (Zg.mk x1.1 0 (-1)) x2 e4) ?_;simp [go_sem,F];refine h _ ?_;refine mj (ι:=Int) [0,2,4,6,7] [2,7] [] (fun i=>[]) hM ?_ ?_ (cb:=fun i=>[(19,[cL Zi.c x2.2.list,cI x2.2.at_,cI i])])
  ·intro e5 hM K7 hK7;refine mj (ι:=Bool) [0,2,4,6,7] [2,7,19] [] (fun i=>[(35,oB i)]) hM ?_ ?_
   ·intro e8 hM K10 hK10;exact au
   ·intro x4 hM;(try dsimp only at hM);exact au
  ·intro x3 hM;(try dsimp only at hM);refine Ze fun K13 hK13=> ?_;refine S1 ?_;refine Zj hM (fun h14 hM=> ?_) (fun h14 hM=> ?_)
   ·have F:=Zyn (nf F h14) (eT h14);exact au
   ·have F:=Zyn (nf F h14) (eF h14);refine Zh ?_;refine hK13 _ ?_;refine Ze fun K15 hK15=> ?_;refine S1 ?_;refine Zj hM (fun h16 hM=> ?_) (fun h16 hM=> ?_)
    ·have F:=Zyn (nf F h16) (eT h16);refine Ze fun K17 hK17=> ?_;refine le1 [2,4,6] [2,19] [] ?_;obtain ⟨x5,e18,hM⟩:=bind_some hM;have F:=Zyn F (Xy e18);refine ZE [[],[1000002],[1000002],[2,1000002],[2,3,1000002],[2,3,4,1000002],[1,2,3,4,5,1000002],[1,2,3,4,5,6,1000002],[1,2,3,4,5,6,7,1000002],[0],[0,1,2,3,4,5,6,7,8,9]] mixed (by kernel_rfl) ?_;simp [go_sem,F];refine ⟨Zp (by kernel_rfl), ?_⟩;exact au
    ·have F:=Zyn (nf F h16) (eF h16);exact au
instance:HC 128 (Ty @JC):=⟨JC⟩
theorem Vc (a0:Int) (r:Za) (hM:Uz a0=some r):Ctr Tryz.prog 77 [.one (.int .i64 a0)] true [.agg (Za.c r)]:=by
 unfold Uz at hM;refine Zn Tryz.func77 Tryz.ntmps77 Tryz.results77 fun N w0 hbad F=> ?_;exact au
instance:HC 77 (Ty @Vc):=⟨Vc⟩
theorem WL (a0:ByteArray) (a1:Int) (r:List ByteArray) (hM:Vh a0 a1=some r):Ctr Tryz.prog 181 [.one (.str a0),.one (.int .u8 a1)] true [.one (.sl (r.map sC))]:=by
 unfold Vh at hM;refine Zn Tryz.func181 Tryz.ntmps181 Tryz.results181 fun N w0 hbad F=> ?_;exact au
instance:HC 181 (Ty @WL):=⟨WL⟩
theorem ZaB (k:Nat) (a0:ByteArray) (a1:Int) (r:(List Int)×Bool) (hM:Uv k a0 a1=some r):Ctr Tryz.prog 182 [.one (.str a0),.one (.int .i64 a1)] true [.one (.sl (r.1.map iC)),.one (.bool r.2)]:=by
 unfold Uv at hM;refine Zn Tryz.func182 Tryz.ntmps182 Tryz.results182 fun N w0 hbad F=> ?_;refine S1 ?_;obtain ⟨x1,e1,hM⟩:=bind_some hM;refine Zv fun K h=> ?_;simp [go_sem,F];refine Yl false (WL a0 32 x1 e1) ?_;simp [go_sem,F];refine h _ ?_;refine S1 ?_;refine mjE (ι:=List Int) [1] [] [] (fun i=>[(7,oO 896 i.length)]) hM ?_ ?_ (ca:=fun i=>[(896,aT iC i)])
 ·intro e2 hM hR1 K4 hK4;refine S1 ?_;refine Zc ?_;refine lp (ι:=(List Int)×Int) [1,15,16] [] [832] (fun i=>[(7,oO 896 i.1.length),(17,oI i.2)]) (fun n i=>Ym x1 n i.1 i.2=some e2) k (([]:List Int),0) hM (by simp [Ym]) ?_ (ca:=fun i=>[(896,aT iC i.1)]);intro KL5 nL5 ⟨x3,x4⟩ hL5 hM _;have hM:Ym x1 (nL5+1) x3 x4=some e2:=hM;rw [Ym] at hM;exact au
 ·intro x2 hM;dsimp only at hM;exact au
instance:HC 182 (Ty @ZaB):=⟨ZaB⟩
theorem ZcE (a0:Int) (r:Bool) (hM:We a0=some r):Ctr Tryz.prog 229 [.one (.int .i64 a0)] true [.one (.bool r)]:=by
 unfold We at hM;refine Zn Tryz.func229 Tryz.ntmps229 Tryz.results229 fun N w0 hbad F=> ?_;exact au
instance:HC 229 (Ty @ZcE):=⟨ZcE⟩
theorem Zej (k:Nat) (a0:List ByteArray) (a1:ByteArray) (r:Int) (hM:VC k a0 a1=some r):Ctr Tryz.prog 56 [.one (.sl (a0.map sC)),.one (.str a1)] true [.one (.int .i64 r)]:=by
 unfold VC at hM;refine Zn Tryz.func56 Tryz.ntmps56 Tryz.results56 fun N w0 hbad F=> ?_;refine S1 ?_;refine mjE (ι:=Unit) [] [] [] (fun i=>[]) hM ?_ ?_
 ·intro e1 hM hR1 K3 hK3;refine S1 ?_;refine Zc ?_;refine lp (ι:=Int) [1,7,8] [] [] (fun i=>[(9,oI i)]) (fun n i=>QN a0 a1 n i=some e1) k 0 hM (by simp [QN]) ?_;intro KL4 nL4 x1 hL4 hM _;have hM:QN a0 a1 (nL4+1) x1=some e1:=hM;rw [QN] at hM;exact au
 ·intro _ hM;dsimp only at hM;exact au
instance:HC 56 (Ty @Zej):=⟨Zej⟩
theorem KW (k:Nat) (a0:List ByteArray) (r:Bool) (hM:VD k a0=some r):Ctr Tryz.prog 233 [.one (.sl (a0.map sC))] true [.one (.bool r)]:=by
 unfold VD at hM;refine Zn Tryz.func233 Tryz.ntmps233 Tryz.results233 fun N w0 hbad F=> ?_;refine S1 ?_;refine mjE (ι:=Unit) [] [] [] (fun i=>[]) hM ?_ ?_
 ·intro e1 hM hR1 K3 hK3;refine S1 ?_;refine Zc ?_;refine lp (ι:=Int) [0,5,6] [] [] (fun i=>[(7,oI i)]) (fun n i=>Yf k a0 n i=some e1) k 0 hM (by simp [Yf]) ?_;intro KL4 nL4 x1 hL4 hM _;have hM:Yf k a0 (nL4+1) x1=some e1:=hM;rw [Yf] at hM;exact au
 ·intro _ hM;dsimp only at hM;exact au
instance:HC 233 (Ty @KW):=⟨KW⟩
theorem UE (k:Nat) (a0:List ByteArray) (r:Bool) (hM:Vl k a0=some r):Ctr Tryz.prog 184 [.one (.sl (a0.map sC))] true [.one (.bool r)]:=by
 unfold Vl at hM;refine Zn Tryz.func184 Tryz.ntmps184 Tryz.results184 fun N w0 hbad F=> ?_;refine S1 ?_;refine mjE (ι:=Unit) [0] [] [] (fun i=>[]) hM ?_ ?_
 ·intro e1 hM hR1 K3 hK3;refine S1 ?_;refine Zc ?_;refine lp (ι:=Int) [0,5,6] [] [] (fun i=>[(7,oI i)]) (fun n i=>Qm k a0 n i=some e1) k 0 hM (by simp [Qm]) ?_;intro KL4 nL4 x1 hL4 hM _;have hM:Qm k a0 (nL4+1) x1=some e1:=hM;rw [Qm] at hM;exact au
 ·intro _ hM;dsimp only at hM;refine mj (ι:=Bool) [] [] [] (fun i=>[(2,oB i)]) hM ?_ ?_
  ·intro e11 hM K13 hK13;exact au
  ·intro x4 hM;(try dsimp only at hM);exact au
instance:HC 184 (Ty @UE):=⟨UE⟩
theorem Vy (a0:Zo) (a1:Zo) (r:Bool) (hM:Xx a0 a1=some r):Ctr Tryz.prog 273 [.agg (Zo.c a0),.agg (Zo.c a1)] true [.one (.bool r)]:=by
 unfold Xx at hM;refine Zn Tryz.func273 Tryz.ntmps273 Tryz.results273 fun N w0 hbad F=> ?_;refine S1 ?_;refine mj (ι:=Bool) [] [] [] (fun i=>[(4,oB i)]) hM ?_ ?_
 ·intro e1 hM K3 hK3;exact au
 ·intro x1 hM;(try dsimp only at hM);exact au
instance:HC 273 (Ty @Vy):=⟨Vy⟩
set_option maxHeartbeats 4000000
set_option maxRecDepth 100000
theorem Zee (k:Nat) (a0:Za) (r:Bool) (hM:ZbL k a0=some r):Ctr Tryz.prog 231 [.agg (Za.c a0)] true [.one (.bool r)]:=by
 unfold ZbL at hM;refine Zn Tryz.func231 Tryz.ntmps231 Tryz.results231 fun N w0 hbad F=> ?_;refine S1 ?_;refine Ze fun K1 hK1=> ?_;refine mj (ι:=Bool) [1] [1] [] (fun i=>[(18,oB i)]) hM ?_ ?_
 ·intro e2 hM K4 hK4;exact au
 ·intro x1 hM;(try dsimp only at hM);refine Zj hM (fun h7 hM=> ?_) (fun h7 hM=> ?_)
  ·have F:=nf F h7;exact au
  ·have F:=nf F h7;refine Zh ?_;refine hK1 _ ?_;refine mjE (ι:=Unit) [] [] [] (fun i=>[]) hM ?_ ?_
   ·intro e8 hM hR1 K10 hK10;refine S1 ?_;refine Zc ?_;refine lp (ι:=Int) [1,20,21] [1] [] (fun i=>[(22,oI i)]) (fun n i=>Qk k a0 n i=some e8) k 0 hM (by simp [Qk]) ?_;intro KL11 nL11 x3 hL11 hM _;have hM:Qk k a0 (nL11+1) x3=some e8:=hM;rw [Qk] at hM;refine S1 ?_;refine Ze fun K12 hK12=> ?_;refine Zj hM (fun h13 hM=> ?_) (fun h13 hM=> ?_)
    ·have F:=Zyn (nf F h13) (lT h13);refine Zh ?_;refine hK12 _ ?_;refine mjE (ι:=Unit) [1,20,21,22] [1] [] (fun i=>[]) hM ?_ ?_
     ·intro e14 hM hR2 K16 hK16;refine Zc ?_;obtain ⟨x4,e17,hM⟩:=bind_some hM;have F:=Zyn F (Xy e17);refine S1 ?_;refine Ze fun K18 hK18=> ?_;refine S1 ?_;refine Zj hM (fun h19 hM=> ?_) (fun h19 hM=> ?_)
      ·have F:=nf F h19;exact au
      ·have F:=nf F h19;refine Zh ?_;refine hK18 _ ?_;refine mjE (ι:=Unit) [1,4,20,21,22] [1,4] [] (fun i=>[]) hM ?_ ?_
       ·intro e20 hM hR3 K22 hK22;refine S1 ?_;refine Zc ?_;refine lp (ι:=Int) [1,4,20,21,22,34,35] [1,4] [] (fun i=>[(36,oI i)]) (fun n i=>Xl x4 n i=some e20) k 0 hM (by simp [Xl]) ?_;intro KL23 nL23 x5 hL23 hM _;have hM:Xl x4 (nL23+1) x5=some e20:=hM;rw [Xl] at hM;exact au
       ·intro _ hM;dsimp only at hM;refine S1 ?_;refine Zc ?_;refine lp (ι:=Int) [1,4,20,21,22,45,46] [1,4] [] (fun i=>[(47,oI i)]) (fun n i=>Xk x4 n i=some e14) k 0 hM (by simp [Xk]) ?_;intro KL30 nL30 x8 hL30 hM _;have hM:Xk x4 (nL30+1) x8=some e14:=hM;rw [Xk] at hM;refine S1 ?_;refine Ze fun K31 hK31=> ?_;refine Zj hM (fun h32 hM=> ?_) (fun h32 hM=> ?_)
        ·have F:=Zyn (nf F h32) (lT h32);refine Zh ?_;refine hK31 _ ?_;refine Ze fun K33 hK33=> ?_;refine Zc ?_;obtain ⟨x9,e34,hM⟩:=bind_some hM;have F:=Zyn F (Xy e34);refine S1 ?_;refine mj (ι:=Bool) [1,4,20,21,22,45,46,47] [1,4] [] (fun i=>[(74,oB i)]) hM ?_ ?_
         ·intro e35 hM K37 hK37;rcases ifM hM with ⟨h38,hM⟩| ⟨h38,hM⟩
          ·have F:=Zyn (nf F h38) (lT h38);refine Zt 19 mixed (by kernel_rfl) (by kernel_rfl) ?_;simp [go_sem,F];exact au
          ·have F:=Zyn (nf F h38) (lF h38);rcases ifM hM with ⟨h39,hM⟩| ⟨h39,hM⟩
           ·have F:=Zyn (nf F h39) (lT h39);refine Zt 19 mixed (by kernel_rfl) (by kernel_rfl) ?_;simp [go_sem,F];exact au
           ·have F:=Zyn (nf F h39) (lF h39);rcases ifM hM with ⟨h40,hM⟩| ⟨h40,hM⟩
            ·have F:=Zyn (nf F h40) (lT h40);obtain ⟨x11,e41,hM⟩:=bind_some hM;have F:=Zyn F (Xy e41);obtain ⟨x12,e42,hM⟩:=bind_some hM;refine Zt 19 mixed (by kernel_rfl) (by kernel_rfl) ?_;simp [go_sem,F];refine Yl false (Vy x11 x9 x12 e42) ?_;simp [go_sem,F];exact au
            ·have F:=Zyn (nf F h40) (lF h40);refine Zt 19 mixed (by kernel_rfl) (by kernel_rfl) ?_;simp [go_sem,F];exact au
         ·intro x10 hM;(try dsimp only at hM);exact au
        ·have F:=Zyn (nf F h32) (lF h32);exact au
     ·intro _ hM;dsimp only at hM;exact au
    ·have F:=Zyn (nf F h13) (lF h13);exact au
   ·intro _ hM;dsimp only at hM;exact au
instance:HC 231 (Ty @Zee):=⟨Zee⟩
theorem ZiI:∀(k:Nat),(∀(a0:Za) (r:Int) (hM:Xn k a0=some r),Ctr Tryz.prog 232 [.agg (Za.c a0)] true [.one (.int .i64 r)]):=by
 intro k
 induction k with
 | zero=>intro a0 r hM;simp [Xn] at hM
 | succ k ih_i_DepthOf=>
  ·intro a0 r hM;haveI:HC 232 _:=⟨ih_i_DepthOf⟩;rw [Xn] at hM;refine Zn Tryz.func232 Tryz.ntmps232 Tryz.results232 fun N w0 hbad F=> ?_;refine S1 ?_;refine S1 ?_;refine mj (ι:=Int) [] [] [] (fun i=>[(3,oI i)]) hM ?_ ?_
   ·intro e1 hM K3 hK3;refine S1 ?_;refine Zc ?_;refine lp (ι:=Int×Int) [7,8] [] [] (fun i=>[(3,oI i.1),(9,oI i.2)]) (fun n i=>XV (Xn k) a0 n i.1 i.2=some e1) k (0,0) hM (by simp [XV]) ?_;intro KL4 nL4 ⟨x2,x3⟩ hL4 hM _;have hM:XV (Xn k) a0 (nL4+1) x2 x3=some e1:=hM;rw [XV] at hM;exact au
   ·intro x1 hM;(try dsimp only at hM);exact au
theorem Zek (k:Nat):∀(a0:Za) (r:Int) (hM:Xn k a0=some r),Ctr Tryz.prog 232 [.agg (Za.c a0)] true [.one (.int .i64 r)]:=(ZiI k)
instance:HC 232 (Ty @Zek):=⟨Zek⟩
theorem Zei:∀(k:Nat),(∀(a0:Za) (r:Bool) (hM:ZD k a0=some r),Ctr Tryz.prog 183 [.agg (Za.c a0)] true [.one (.bool r)]):=by
 intro k
 induction k with
 | zero=>intro a0 r hM;simp [ZD] at hM
 | succ k ih_i_IsValidValue=>
  ·intro a0 r hM;haveI:HC 183 _:=⟨ih_i_IsValidValue⟩;rw [ZD] at hM;refine Zn Tryz.func183 Tryz.ntmps183 Tryz.results183 fun N w0 hbad F=> ?_;refine S1 ?_;refine mj (ι:=Bool) [1] [1] [] (fun i=>[(3,oB i)]) hM ?_ ?_
   ·intro e1 hM K3 hK3;exact au
   ·intro x1 hM;(try dsimp only at hM);refine Ze fun K6 hK6=> ?_;refine S1 ?_;refine Zc ?_;refine S1 ?_;refine Zj hM (fun h7 hM=> ?_) (fun h7 hM=> ?_)
    ·have F:=nf F h7;refine mj (ι:=Bool) [] [] [] (fun i=>[(2,oB i)]) hM ?_ ?_
     ·intro e8 hM K10 hK10;exact au
     ·intro x2 hM;(try dsimp only at hM);exact au
    ·have F:=nf F h7;refine S1 ?_;refine Zj hM (fun h15 hM=> ?_) (fun h15 hM=> ?_)
     ·have F:=nf F h15;refine mj (ι:=Bool) [] [] [] (fun i=>[(2,oB i)]) hM ?_ ?_
      ·intro e16 hM K18 hK18;exact au
      ·intro x4 hM;(try dsimp only at hM);exact au
     ·have F:=nf F h15;refine S1 ?_;refine Zj hM (fun h23 hM=> ?_) (fun h23 hM=> ?_)
      ·have F:=nf F h23;refine mj (ι:=Bool) [] [] [] (fun i=>[(2,oB i)]) hM ?_ ?_
       ·intro e24 hM K26 hK26;exact au
       ·intro x6 hM;(try dsimp only at hM);exact au
      ·have F:=nf F h23;refine S1 ?_;refine Zj hM (fun h32 hM=> ?_) (fun h32 hM=> ?_)
       ·have F:=nf F h32;refine mj (ι:=Bool) [] [] [] (fun i=>[(2,oB i)]) hM ?_ ?_
        ·intro e33 hM K35 hK35;exact au
        ·intro x9 hM;(try dsimp only at hM);exact au
       ·have F:=nf F h32;refine S1 ?_;refine Zj hM (fun h40 hM=> ?_) (fun h40 hM=> ?_)
        ·have F:=nf F h40;refine mj (ι:=Bool) [] [] [] (fun i=>[(2,oB i)]) hM ?_ ?_
         ·intro e41 hM K43 hK43;exact au
         ·intro x11 hM;(try dsimp only at hM);exact au
        ·have F:=nf F h40;refine S1 ?_;refine Zj hM (fun h49 hM=> ?_) (fun h49 hM=> ?_)
         ·have F:=nf F h49;refine mjE (ι:=Unit) [1] [1] [] (fun i=>[]) hM ?_ ?_
          ·intro e50 hM hR1 K52 hK52;refine S1 ?_;refine Zc ?_;refine lp (ι:=Int) [1,124,125] [1] [] (fun i=>[(126,oI i)]) (fun n i=>YB (ZD k) a0 n i=some e50) k 0 hM (by simp [YB]) ?_;intro KL53 nL53 x13 hL53 hM _;have hM:YB (ZD k) a0 (nL53+1) x13=some e50:=hM;rw [YB] at hM;refine S1 ?_;refine Ze fun K54 hK54=> ?_;refine Zj hM (fun h55 hM=> ?_) (fun h55 hM=> ?_)
           ·have F:=Zyn (nf F h55) (lT h55);refine Zh ?_;refine hK54 _ ?_;refine Ze fun K56 hK56=> ?_;refine Zc ?_;obtain ⟨x14,e57,hM⟩:=bind_some hM;have F:=Zyn F (Xy e57);refine S1 ?_;refine mj (ι:=Bool) [1,124,125,126] [1] [] (fun i=>[(147,oB i)]) hM ?_ ?_
            ·intro e58 hM K60 hK60;exact au
            ·intro x15 hM;(try dsimp only at hM);exact au
           ·have F:=Zyn (nf F h55) (lF h55);exact au
          ·intro _ hM;dsimp only at hM;refine mj (ι:=Bool) [] [] [] (fun i=>[(2,oB i)]) hM ?_ ?_
           ·intro e68 hM K70 hK70;exact au
           ·intro x19 hM;(try dsimp only at hM);exact au
         ·have F:=nf F h49;exact au
theorem J4 (k:Nat):∀(a0:Za) (r:Bool) (hM:ZD k a0=some r),Ctr Tryz.prog 183 [.agg (Za.c a0)] true [.one (.bool r)]:=(Zei k)
instance:HC 183 (Ty @J4):=⟨J4⟩
theorem VB (k:Nat) (a0:ByteArray) (r:Za×Bool) (hM:WN k a0=some r):Ctr Tryz.prog 129 [.one (.str a0)] true [.agg (Za.c r.1),.one (.bool r.2)]:=by
 unfold WN at hM;refine Zn Tryz.func129 Tryz.ntmps129 Tryz.results129 fun N w0 hbad F=> ?_;refine S1 ?_;obtain ⟨x1,e1,hM⟩:=bind_some hM;refine Zv fun K h=> ?_;simp [go_sem,F];refine Yl false (XW a0 (⟨#[59,32]⟩:ByteArray) x1 e1) ?_;simp [go_sem,F];refine h _ ?_;obtain ⟨x2,e2,hM⟩:=bind_some hM;have F:=Zyn F (Xy e2);have F:=Zyn F (show 0<x1.length by simpa using Zlk e2);have F:=Zyn F (ZuU 0 e2);obtain ⟨x3,e3,hM⟩:=bind_some hM;refine Zv fun K h=> ?_;simp [go_sem,F];refine Yl false (WL x2 32 x3 e3) ?_;simp [go_sem,F];refine h _ ?_;refine mjE (ι:=List ZN) [2,5] [2] [960] (fun i=>[]) hM ?_ ?_ (cb:=fun i=>[(5,[cI 5,cI 0,cI 0,cS (⟨#[]⟩:ByteArray),.nil,.own 960 x3.length,.own 2560 i.length])]) (ca:=fun i=>[(2560,aT ZN.c i)])
 ·intro e4 hM hR1 K6 hK6;refine le1 [2,5] [2,5] [960] ?_ (ch:=[(4,oL sC x1)]);obtain ⟨x5,e7,hM⟩:=bind_some hM;obtain ⟨c8,s9⟩:=Vr e7;replace c8:=c8.symm;subst c8;(try simp at s9);have F:=Zyn F s9;refine S1 ?_;refine Zc ?_;refine lp (ι:=(List ZN)×Int) [2,5,18,19] [2] [960] (fun i=>[(20,oI i.2)]) (fun n i=>YQ k x1 x3 n i.1 i.2=some e4) k ([],0) hM (by simp [YQ]) ?_ (cb:=fun i=>[(5,[cI 5,cI 0,cI 0,cS (⟨#[]⟩:ByteArray),.nil,.own 960 x3.length,.own 2560 i.1.length])]) (ca:=fun i=>[(2560,aT ZN.c i.1)]);intro KL12 nL12 ⟨x6,x7⟩ hL12 hM _;have hM:YQ k x1 x3 (nL12+1) x6 x7=some e4:=hM;rw [YQ] at hM;exact au
 ·intro x4 hM;dsimp only at hM;exact au
instance:HC 129 (Ty @VB):=⟨VB⟩
theorem JD (k:Nat) (a0:ByteArray) (r:Int) (hM:JE k a0=some r):Ctr Tryz.prog 130 [.one (.str a0)] true [.one (.int .i64 r)]:=by
 unfold JE at hM;refine Zn Tryz.func130 Tryz.ntmps130 Tryz.results130 fun N w0 hbad F=> ?_;refine S1 ?_;refine Ze fun K1 hK1=> ?_;obtain ⟨x1,e2,hM⟩:=bind_some hM;refine Zv fun K h=> ?_;simp [go_sem,F];refine Yl false (VB k a0 x1 e2) ?_;simp [go_sem,F];refine h _ ?_;refine S1 ?_;refine Zj hM (fun h3 hM=> ?_) (fun h3 hM=> ?_)
 ·have F:=nf F h3;exact au
 ·have F:=nf F h3;refine Zh ?_;refine hK1 _ ?_;obtain ⟨x2,e4,hM⟩:=bind_some hM;refine Zv fun K h=> ?_;simp [go_sem,F];refine Yl false (XW a0 (⟨#[59,32]⟩:ByteArray) x2 e4) ?_;simp [go_sem,F];refine h _ ?_;obtain ⟨x3,e5,hM⟩:=bind_some hM;have F:=Zyn F (Xy e5);have F:=Zyn F (show 0<x2.length by simpa using Zlk e5);have F:=Zyn F (ZuU 0 e5);obtain ⟨x4,e6,hM⟩:=bind_some hM;refine Zv fun K h=> ?_;simp [go_sem,F];refine Yl false (WL x3 32 x4 e6) ?_;simp [go_sem,F];refine h _ ?_;refine Ze fun K7 hK7=> ?_;obtain ⟨x5,e8,hM⟩:=bind_some hM;refine Zv fun K h=> ?_;simp [go_sem,F];refine Yl false (UE k x4 x5 e8) ?_;simp [go_sem,F];refine h _ ?_;refine Zj hM (fun h9 hM=> ?_) (fun h9 hM=> ?_)
  ·have F:=nf F h9;exact au
  ·have F:=nf F h9;refine Zh ?_;refine hK7 _ ?_;refine mjE (ι:=Unit) [] [] [] (fun i=>[]) hM ?_ ?_
   ·intro e10 hM hR1 K12 hK12;refine le1 [6] [] [1408] ?_ (ch:=[(5,oL sC x2)]);obtain ⟨x6,e13,hM⟩:=bind_some hM;obtain ⟨c14,s15⟩:=Vr e13;replace c14:=c14.symm;subst c14;(try simp at s15);have F:=Zyn F s15;refine S1 ?_;refine Zc ?_;refine lp (ι:=Int) [6,27,28] [] [1408] (fun i=>[(29,oI i)]) (fun n i=>YR k x2 x4 n i=some e10) k 0 hM (by simp [YR]) ?_;intro KL18 nL18 x7 hL18 hM _;have hM:YR k x2 x4 (nL18+1) x7=some e10:=hM;rw [YR] at hM;refine S1 ?_;refine Ze fun K19 hK19=> ?_;refine Zj hM (fun h20 hM=> ?_) (fun h20 hM=> ?_)
    ·have F:=Zyn (nf F h20) (lT h20);refine Zh ?_;refine hK19 _ ?_;refine Ze fun K21 hK21=> ?_;refine Zc ?_;obtain ⟨x8,e22,hM⟩:=bind_some hM;have F:=Zyn F (Xy e22);have F:=Zyn F (Zw0 e22);refine S1 ?_;obtain ⟨x9,e23,hM⟩:=bind_some hM;refine Zv fun K h=> ?_;simp [go_sem,F];refine Yl false (ZaB k x8 (x4.length:Int) x9 e23) ?_;simp [go_sem,F];refine h _ ?_;refine mj (ι:=Bool) [6,7,27,28,29] [] [1408] (fun i=>[(46,oB i)]) hM ?_ ?_
     ·intro e24 hM K26 hK26;exact au
     ·intro x10 hM;(try dsimp only at hM);exact au
    ·have F:=Zyn (nf F h20) (lF h20);exact au
   ·intro _ hM;dsimp only at hM;exact au
instance:HC 130 (Ty @JD):=⟨JD⟩
theorem ZaC (a0:ZN) (r:ZN) (hM:KO a0=some r):Ctr Tryz.prog 134 [.agg (ZN.c a0)] true [.agg (ZN.c r)]:=by
 unfold KO at hM;refine Zn Tryz.func134 Tryz.ntmps134 Tryz.results134 fun N w0 hbad F=> ?_;refine S1 ?_;refine Ze fun K1 hK1=> ?_;refine le1 [1,2] [1,2] [] ?_;obtain ⟨x1,e2,hM⟩:=bind_some hM;obtain ⟨c3,s4⟩:=ZG e2;replace c3:=c3.symm;subst c3;(try simp at s4);have F:=Zyn F s4;obtain ⟨x2,e6,hM⟩:=bind_some hM;obtain ⟨c7,s8⟩:=ZG e6;replace c7:=c7.symm;subst c7;(try simp at s8);have F:=Zyn F s8;refine ZE [[],[],[1],[0,1,2],[],[10000192],[5],[0,1,2,3,4,5,6],[0,1,2,3,4,5,6,7],[0,1,2,3,4,5,6,7,8]] mixed (by kernel_rfl) ?_;simp [go_sem,F];refine ⟨Zp (by kernel_rfl), ?_⟩;exact au
instance:HC 134 (Ty @ZaC):=⟨ZaC⟩
theorem ZfJ:∀(k:Nat),(∀(a0:List Za) (r:List Za) (hM:Uw k a0=some r),Ctr Tryz.prog 133 [.one (.sl (a0.map Za.c))] true [.one (.sl (r.map Za.c))])/\
  (∀(a0:Za) (r:Za) (hM:Y5 k a0=some r),Ctr Tryz.prog 78 [.agg (Za.c a0)] true [.agg (Za.c r)]):=by
 intro k
 induction k with
 | zero=>exact ⟨by intro a0 r hM;simp [Uw] at hM,by intro a0 r hM;simp [Y5] at hM⟩
 | succ k ih=>
  obtain ⟨ih_i_copyValues,ih_i_copyValue⟩:=ih;refine ⟨?_, ?_⟩
  ·intro a0 r hM;haveI:HC 133 _:=⟨ih_i_copyValues⟩;haveI:HC 78 _:=⟨ih_i_copyValue⟩;rw [Uw] at hM;refine Zn Tryz.func133 Tryz.ntmps133 Tryz.results133 fun N w0 hbad F=> ?_;refine S1 ?_;refine S1 ?_;refine mj (ι:=List Za) [] [] [] (fun i=>[(3,oO 384 i.length)]) hM ?_ ?_ (ca:=fun i=>[(384,aT Za.c i)])
   ·intro e1 hM K3 hK3;refine S1 ?_;refine Zc ?_;refine lp (ι:=(List Za)×Int) [7,8] [] [] (fun i=>[(3,oO 384 i.1.length),(9,oI i.2)]) (fun n i=>Ql (Y5 k) a0 n i.1 i.2=some e1) k (([]:List Za),0) hM (by simp [Ql]) ?_ (ca:=fun i=>[(384,aT Za.c i.1)]);intro KL4 nL4 ⟨x2,x3⟩ hL4 hM _;have hM:Ql (Y5 k) a0 (nL4+1) x2 x3=some e1:=hM;rw [Ql] at hM;exact au
   ·intro x1 hM;(try dsimp only at hM);exact au
  ·intro a0 r hM;haveI:HC 133 _:=⟨ih_i_copyValues⟩;haveI:HC 78 _:=⟨ih_i_copyValue⟩;rw [Y5] at hM;refine Zn Tryz.func78 Tryz.ntmps78 Tryz.results78 fun N w0 hbad F=> ?_;refine S1 ?_;refine S1 ?_;obtain ⟨x1,e1,hM⟩:=bind_some hM;refine Zv fun K h=> ?_;simp [go_sem,F];refine Yl false (ih_i_copyValues a0.list x1 e1) ?_;simp [go_sem,F];refine h _ ?_;obtain ⟨x2,e2,hM⟩:=bind_some hM;obtain ⟨c3,s4⟩:=ZG e2;replace c3:=c3.symm;subst c3;(try simp at s4);have F:=Zyn F s4;refine S1 ?_;refine S1 ?_;refine mj (ι:=List ZN) [2,3] [2] [576] (fun i=>[]) hM ?_ ?_ (cb:=fun i=>[(3,[cI a0.kind,cI a0.n,cI a0.step,cS a0.text,.own 576 x1.length,.own 704 ((([]:List ByteArray)++a0.columns).length),.own 1856 i.length])]) (ca:=fun i=>[(704,aT sC (([]:List ByteArray)++a0.columns)),(1856,aT ZN.c i)])
   ·intro e6 hM K8 hK8;refine S1 ?_;refine Zc ?_;refine lp (ι:=(List ZN)×Int) [2,3,18,19] [2] [576] (fun i=>[(20,oI i.2)]) (fun n i=>QL a0 n i.1 i.2=some e6) k ([],0) hM (by simp [QL]) ?_ (cb:=fun i=>[(3,[cI a0.kind,cI a0.n,cI a0.step,cS a0.text,.own 576 x1.length,.own 704 ((([]:List ByteArray)++a0.columns).length),.own 1856 i.1.length])]) (ca:=fun i=>[(704,aT sC (([]:List ByteArray)++a0.columns)),(1856,aT ZN.c i.1)]);intro KL9 nL9 ⟨x4,x5⟩ hL9 hM _;have hM:QL a0 (nL9+1) x4 x5=some e6:=hM;rw [QL] at hM;refine S1 ?_;refine Ze fun K10 hK10=> ?_;refine Zj hM (fun h11 hM=> ?_) (fun h11 hM=> ?_)
    ·have F:=Zyn (nf F h11) (lT h11);refine Zh ?_;refine hK10 _ ?_;refine Ze fun K12 hK12=> ?_;refine Zc ?_;obtain ⟨x6,e13,hM⟩:=bind_some hM;have F:=Zyn F (Xy e13);refine S1 ?_;refine le1 [2,3,5,18,19,20] [2,3,5] [576,1856] ?_ (ca:=[(704,aT sC (([]:List ByteArray)++a0.columns))]);obtain ⟨x7,e14,hM⟩:=bind_some hM;obtain ⟨x8,e15,hM⟩:=bind_some hM;obtain ⟨c16,s17⟩:=ZG e15;replace c16:=c16.symm;subst c16;(try simp at s17);have F:=Zyn F s17;refine ZE [[10001728,10001729],[0],[],[2],[2,3],[0,1,2,3,4],[0,1,2,3,4,5],[0,1,2,3,4,5,6]] mixed (by kernel_rfl) ?_;simp [go_sem,F];refine Yl false (ZaC x6 x7 e14) ?_;simp [go_sem,F];refine ⟨Zp (by kernel_rfl), ?_⟩;exact au
    ·have F:=Zyn (nf F h11) (lF h11);exact au
   ·intro x3 hM;(try dsimp only at hM);exact au
theorem Jz (k:Nat):∀(a0:Za) (r:Za) (hM:Y5 k a0=some r),Ctr Tryz.prog 78 [.agg (Za.c a0)] true [.agg (Za.c r)]:=(ZfJ k).2
instance:HC 78 (Ty @Jz):=⟨Jz⟩
theorem V3 (k:Nat) (a0:Int) (a1:Za) (r:Za) (hM:VA k a0 a1=some r):Ctr Tryz.prog 131 [.one (.int .i64 a0),.agg (Za.c a1)] true [.agg (Za.c r)]:=by
 unfold VA at hM;refine Zn Tryz.func131 Tryz.ntmps131 Tryz.results131 fun N w0 hbad F=> ?_;refine S1 ?_;refine Ze fun K1 hK1=> ?_;refine mj (ι:=Bool) [0,3,4] [3,4] [] (fun i=>[(18,oB i)]) hM ?_ ?_
 ·intro e2 hM K4 hK4;exact au
 ·intro x1 hM;(try dsimp only at hM);refine Zj hM (fun h8 hM=> ?_) (fun h8 hM=> ?_)
  ·have F:=nf F h8;exact au
  ·have F:=nf F h8;refine Zh ?_;refine hK1 _ ?_;obtain ⟨x4,e10,hM⟩:=bind_some hM;refine Zv fun K h=> ?_;simp [go_sem,F];refine Yl false (Jz k a1 x4 e10) ?_;simp [go_sem,F];refine h _ ?_;refine mj (ι:=List ZN) [4,5] [4] [1344,1345] (fun i=>[]) hM ?_ ?_ (cb:=fun i=>[(5,[cI x4.kind,cI x4.n,cI x4.step,cS x4.text,.own 1344 x4.list.length,.own 1345 x4.columns.length,.own 1346 i.length])]) (ca:=fun i=>[(1346,aT ZN.c i)])
   ·intro e11 hM K13 hK13;refine S1 ?_;refine Zc ?_;refine lp (ι:=(List ZN)×Int) [0,4,5,24] [4] [1344,1345] (fun i=>[(25,oI i.2)]) (fun n i=>Ys a0 x4 n i.1 i.2=some e11) k (x4.rows,0) hM (by simp [Ys]) ?_ (cb:=fun i=>[(5,[cI x4.kind,cI x4.n,cI x4.step,cS x4.text,.own 1344 x4.list.length,.own 1345 x4.columns.length,.own 1346 i.1.length])]) (ca:=fun i=>[(1346,aT ZN.c i.1)]);intro KL14 nL14 ⟨x6,x7⟩ hL14 hM _;have hM:Ys a0 x4 (nL14+1) x6 x7=some e11:=hM;rw [Ys] at hM;exact au
   ·intro x5 hM;(try dsimp only at hM);exact au
instance:HC 131 (Ty @V3):=⟨V3⟩
theorem KU (k:Nat) (a0:Zk) (r:Zq) (hM:Yt k a0=some r):Ctr Tryz.prog 75 [.agg (Zk.c a0)] false [.agg (Zq.c r)]:=by
 unfold Yt at hM;refine Zn Tryz.func75 Tryz.ntmps75 Tryz.results75 fun N w0 hbad F=> ?_;refine S1 ?_;refine Ze fun K1 hK1=> ?_;obtain ⟨x1,e2,hM⟩:=bind_some hM;refine Zv fun K h=> ?_;simp [go_sem,F];refine Yl false (XC k a0 x1 e2) ?_;simp [go_sem,F];refine h _ ?_;refine Zj hM (fun h3 hM=> ?_) (fun h3 hM=> ?_)
 ·have F:=nf F h3;exact au
 ·have F:=nf F h3;refine Zh ?_;refine hK1 _ ?_;refine Ze fun K4 hK4=> ?_;refine S1 ?_;refine Zc ?_;refine S1 ?_;refine Zj hM (fun h5 hM=> ?_) (fun h5 hM=> ?_)
  ·have F:=nf F h5;exact au
  ·have F:=nf F h5;refine S1 ?_;refine Zj hM (fun h6 hM=> ?_) (fun h6 hM=> ?_)
   ·have F:=nf F h6;refine Ze fun K7 hK7=> ?_;refine le1 [1,2] [1,2] [] ?_;obtain ⟨x2,e8,hM⟩:=bind_some hM;refine ZE [[],[0],[],[2],[2,3],[0,1,2,3,4],[0,1,2,3,4,5]] mixed (by kernel_rfl) ?_;simp [go_sem,F];refine Yl false (V5 a0.n x2 e8) ?_;simp [go_sem,F];refine ⟨Zp (by kernel_rfl), ?_⟩;refine hK7 _ ?_;obtain rfl:=si hM;refine le1 [2] [] [] ?_ (cb:=[(2,[cI 3,cS a0.name,cI 0,cI 0,cS (⟨#[]⟩:ByteArray),.nil,cI x2.kind,cI x2.n,cI x2.step,cS x2.text,cL Za.c x2.list,cL sC x2.columns,cL ZN.c x2.rows,cI 0])]);exact au
   ·have F:=nf F h6;refine S1 ?_;refine Zj hM (fun h9 hM=> ?_) (fun h9 hM=> ?_)
    ·have F:=nf F h9;obtain ⟨x3,e10,hM⟩:=bind_some hM;refine Zv fun K h=> ?_;simp [go_sem,F];refine Yl false (JC k a0.code x3 e10) ?_;simp [go_sem,F];refine h _ ?_;refine Ze fun K11 hK11=> ?_;refine S1 ?_;refine Zj hM (fun h12 hM=> ?_) (fun h12 hM=> ?_)
     ·have F:=Zyn (nf F h12) (eT h12);refine Ze fun K13 hK13=> ?_;refine le1 [1,2,4] [1,2] [] ?_;obtain ⟨x4,e14,hM⟩:=bind_some hM;refine ZE [[],[0],[],[],[0,1,2,3],[0,1,2,3,4]] mixed (by kernel_rfl) ?_;simp [go_sem,F];refine Yl false (Vc 8 x4 e14) ?_;simp [go_sem,F];refine ⟨Zp (by kernel_rfl), ?_⟩;refine hK13 _ ?_;obtain rfl:=si hM;refine le1 [2] [] [] ?_ (cb:=[(2,[cI 4,cS a0.name,cI 0,cI 0,cS (⟨#[]⟩:ByteArray),.nil,cI x4.kind,cI x4.n,cI x4.step,cS x4.text,cL Za.c x4.list,cL sC x4.columns,cL ZN.c x4.rows,cI x3.2])]);exact au
     ·have F:=Zyn (nf F h12) (eF h12);exact au
    ·have F:=nf F h9;refine Zh ?_;refine hK4 _ ?_;obtain ⟨x5,e15,hM⟩:=bind_some hM;refine Zv fun K h=> ?_;simp [go_sem,F];refine Yl false (VB k a0.code x5 e15) ?_;simp [go_sem,F];refine h _ ?_;refine Ze fun K16 hK16=> ?_;refine S1 ?_;refine Zj hM (fun h17 hM=> ?_) (fun h17 hM=> ?_)
     ·have F:=nf F h17;refine Ze fun K18 hK18=> ?_;refine le1 [1,2] [1,2] [] ?_;obtain ⟨x6,e19,hM⟩:=bind_some hM;obtain ⟨x7,e20,hM⟩:=bind_some hM;refine ZE [[],[0],[],[],[3],[2,3,4],[0,1,2,3,4,5],[0,1,2,3,4,5,6]] mixed (by kernel_rfl) ?_;simp [go_sem,F];refine Yl false (Vc 8 x6 e19) ?_;simp [go_sem,F];refine Yl false (JD k a0.code x7 e20) ?_;simp [go_sem,F];refine ⟨Zp (by kernel_rfl), ?_⟩;refine hK18 _ ?_;obtain rfl:=si hM;refine le1 [2] [] [] ?_ (cb:=[(2,[cI 4,cS a0.name,cI 0,cI 0,cS (⟨#[]⟩:ByteArray),.nil,cI x6.kind,cI x6.n,cI x6.step,cS x6.text,cL Za.c x6.list,cL sC x6.columns,cL ZN.c x6.rows,cI x7])]);exact au
     ·have F:=nf F h17;refine Zh ?_;refine hK16 _ ?_;refine Ze fun K21 hK21=> ?_;refine le1 [1,2,5] [1,2,5] [2944,2945,2946] ?_;obtain ⟨x8,e22,hM⟩:=bind_some hM;refine ZE [[],[0],[],[2],[],[2,3,4],[0,1,2,3,4,5],[0,1,2,3,4,5,6]] mixed (by kernel_rfl) ?_;simp [go_sem,F];refine Yl false (V3 k a0.id x5.1 x8 e22) ?_;simp [go_sem,F];refine ⟨Zp (by kernel_rfl), ?_⟩;refine hK21 _ ?_;obtain rfl:=si hM;refine le1 [2] [] [] ?_ (cb:=[(2,[cI 3,cS a0.name,cI 0,cI 0,cS (⟨#[]⟩:ByteArray),.nil,cI x8.kind,cI x8.n,cI x8.step,cS x8.text,cL Za.c x8.list,cL sC x8.columns,cL ZN.c x8.rows,cI 0])]);exact au
instance:HC 75 (Ty @KU):=⟨KU⟩
theorem Vd (k:Nat) (a0:Zd) (r:List Zq) (hM:Vn k a0=some r):Ctr Tryz.prog 30 [.agg (Zd.c a0)] false [.one (.sl (r.map Zq.c))]:=by
 unfold Vn at hM;refine Zn Tryz.func30 Tryz.ntmps30 Tryz.results30 fun N w0 hbad F=> ?_;refine S1 ?_;refine Ze fun K1 hK1=> ?_;obtain ⟨x1,e2,hM⟩:=bind_some hM;refine Zv fun K h=> ?_;simp [go_sem,F];refine Yl false (WO k a0 x1 e2) ?_;simp [go_sem,F];refine h _ ?_;refine Zj hM (fun h3 hM=> ?_) (fun h3 hM=> ?_)
 ·have F:=nf F h3;exact au
 ·have F:=nf F h3;refine Zh ?_;refine hK1 _ ?_;refine S1 ?_;refine mj (ι:=List Zq) [] [] [] (fun i=>[(3,oO 576 i.length)]) hM ?_ ?_ (ca:=fun i=>[(576,aF Zq.c i)])
  ·intro e4 hM K6 hK6;refine S1 ?_;refine Zc ?_;refine Zql [576] (O':=⟨24,[(3,.one (.own 576 (([]:List Zq).length))),(11,.one (.l (.sl (a0.cells.map Zk.c)))),(12,.one (.l (.int .i64 (a0.cells.length:Int)))),(13,.one (.l (.int .i64 0)))],[],[(576,some ⟨false,([]:List Zq).map Zq.c⟩)]⟩) ?_;refine lp (ι:=(List Zq)×Int) [11,12] [] [] (fun i=>[(3,oO 576 i.1.length),(13,oI i.2)]) (fun n i=>Qo k a0 n i.1 i.2=some e4) k (([]:List Zq),0) hM (by simp [Qo]) ?_ (ca:=fun i=>[(576,aF Zq.c i.1)]);intro KL7 nL7 ⟨x3,x4⟩ hL7 hM _;have hM:Qo k a0 (nL7+1) x3 x4=some e4:=hM;rw [Qo] at hM;exact au
  ·intro x2 hM;(try dsimp only at hM);refine S1 ?_;obtain rfl:=si hM;refine le1 [] [] [] ?_ (ch:=[(2,oL Zq.c x2)]);exact au
instance:HC 30 (Ty @Vd):=⟨Vd⟩
theorem ZcH (k:Nat) (a0:List Zq) (a1:ByteArray) (r:List Int) (hM:Vm k a0 a1=some r):Ctr Tryz.prog 132 [.one (.sl (a0.map Zq.c)),.one (.str a1)] true [.one (.sl (r.map iC))]:=by
 unfold Vm at hM;refine Zn Tryz.func132 Tryz.ntmps132 Tryz.results132 fun N w0 hbad F=> ?_;refine S1 ?_;refine S1 ?_;refine mj (ι:=List Int) [] [] [] (fun i=>[(5,oO 512 i.length)]) hM ?_ ?_ (ca:=fun i=>[(512,aT iC i)])
 ·intro e1 hM K3 hK3;refine S1 ?_;refine Zc ?_;refine lp (ι:=(List Int)×Int) [1,9,10] [] [] (fun i=>[(5,oO 512 i.1.length),(11,oI i.2)]) (fun n i=>Xo a0 a1 n i.1 i.2=some e1) k (([]:List Int),0) hM (by simp [Xo]) ?_ (ca:=fun i=>[(512,aT iC i.1)]);intro KL4 nL4 ⟨x2,x3⟩ hL4 hM _;have hM:Xo a0 a1 (nL4+1) x2 x3=some e1:=hM;rw [Xo] at hM;refine S1 ?_;refine Ze fun K5 hK5=> ?_;refine Zj hM (fun h6 hM=> ?_) (fun h6 hM=> ?_)
  ·have F:=Zyn (nf F h6) (lT h6);refine Zh ?_;refine hK5 _ ?_;refine mj (ι:=List Int) [1,9,10,11] [] [] (fun i=>[(5,oO 512 i.length)]) hM ?_ ?_ (ca:=fun i=>[(512,aT iC i)])
   ·intro e7 hM K9 hK9;refine Zc ?_;obtain ⟨x5,e10,hM⟩:=bind_some hM;have F:=Zyn F (Xy e10);refine S1 ?_;refine mj (ι:=Bool) [1,5,6,9,10,11] [] [512] (fun i=>[(24,oB i)]) hM ?_ ?_
    ·intro e11 hM K13 hK13;exact au
    ·intro x6 hM;(try dsimp only at hM);exact au
   ·intro x4 hM;(try dsimp only at hM);exact au
  ·have F:=Zyn (nf F h6) (lF h6);exact au
 ·intro x1 hM;(try dsimp only at hM);exact au
instance:HC 132 (Ty @ZcH):=⟨ZcH⟩
theorem ZbM (k:Nat) (a0:List Int) (a1:Int) (r:Bool) (hM:ZaA k a0 a1=some r):Ctr Tryz.prog 80 [.one (.sl (a0.map iC)),.one (.int .i64 a1)] true [.one (.bool r)]:=by
 unfold ZaA at hM;refine Zn Tryz.func80 Tryz.ntmps80 Tryz.results80 fun N w0 hbad F=> ?_;refine S1 ?_;refine mjE (ι:=Unit) [] [] [] (fun i=>[]) hM ?_ ?_
 ·intro e1 hM hR1 K3 hK3;refine S1 ?_;refine Zc ?_;refine lp (ι:=Int) [1,7,8] [] [] (fun i=>[(9,oI i)]) (fun n i=>WK a0 a1 n i=some e1) k 0 hM (by simp [WK]) ?_;intro KL4 nL4 x1 hL4 hM _;have hM:WK a0 a1 (nL4+1) x1=some e1:=hM;rw [WK] at hM;exact au
 ·intro _ hM;dsimp only at hM;exact au
instance:HC 80 (Ty @ZbM):=⟨ZbM⟩
end Go.Proofs.YtbkllghhcphkaaaGreatDoor
