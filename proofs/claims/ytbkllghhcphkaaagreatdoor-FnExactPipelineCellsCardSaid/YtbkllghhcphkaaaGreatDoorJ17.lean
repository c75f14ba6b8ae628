import Derived.Test.YtbkllghhcphkaaaGreatDoorCt7
set_option linter.unusedSimpArgs false
set_option linter.unusedVariables false
namespace Go.Proofs.YtbkllghhcphkaaaGreatDoor
open Go.RowKit Am
set_option maxHeartbeats 4000000
set_option maxRecDepth 100000
theorem ZeB:∀(k:Nat),(∀(a0:Za) (r:Int) (hM:QO k a0=some r),Ctr Tryz.prog 136 [.agg (Za.c a0)] true [.one (.int .i64 r)]):=by
 intro k
 induction k with
 | zero=>intro a0 r hM;simp [QO] at hM
 | succ k ih_i_NodeCount=>
  ·intro a0 r hM;haveI:HC 136 _:=⟨ih_i_NodeCount⟩;rw [QO] at hM;refine Zr Tryz.func136 Tryz.ntmps136 Tryz.results136 fun N w0 hbad F=> ?_;refine S1 ?_;refine S1 ?_;refine mj (ι:=Int) [] [] [] (fun i=>[(3,oI i)]) hM ?_ ?_
   ·intro e1 hM K3 hK3;refine S1 ?_;refine Zc ?_;refine lp (ι:=Int×Int) [7,8] [] [] (fun i=>[(3,oI i.1),(9,oI i.2)]) (fun n i=>Y8 (QO k) a0 n i.1 i.2=some e1) k (1,0) hM (by simp [Y8]) ?_;intro KL4 nL4 ⟨x2,x3⟩ hL4 hM _;have hM:Y8 (QO k) a0 (nL4+1) x2 x3=some e1:=hM;rw [Y8] at hM;exact au
   ·intro x1 hM;(try dsimp only at hM);exact au
theorem Zau (k:Nat):∀(a0:Za) (r:Int) (hM:QO k a0=some r),Ctr Tryz.prog 136 [.agg (Za.c a0)] true [.one (.int .i64 r)]:=(ZeB k)
instance:HC 136 (Ty @Zau):=⟨Zau⟩
theorem ZeC:∀(k:Nat),(∀(a0:Za) (r:Int) (hM:Qq k a0=some r),Ctr Tryz.prog 137 [.agg (Za.c a0)] true [.one (.int .i64 r)]):=by
 intro k
 induction k with
 | zero=>intro a0 r hM;simp [Qq] at hM
 | succ k ih_i_NestingOf=>
  ·intro a0 r hM;haveI:HC 137 _:=⟨ih_i_NestingOf⟩;rw [Qq] at hM;refine Zr Tryz.func137 Tryz.ntmps137 Tryz.results137 fun N w0 hbad F=> ?_;refine S1 ?_;refine S1 ?_;refine mj (ι:=Int) [] [] [] (fun i=>[(3,oI i)]) hM ?_ ?_
   ·intro e1 hM K3 hK3;refine S1 ?_;refine Zc ?_;refine lp (ι:=Int×Int) [7,8] [] [] (fun i=>[(3,oI i.1),(9,oI i.2)]) (fun n i=>Y9 (Qq k) a0 n i.1 i.2=some e1) k (0,0) hM (by simp [Y9]) ?_;intro KL4 nL4 ⟨x2,x3⟩ hL4 hM _;have hM:Y9 (Qq k) a0 (nL4+1) x2 x3=some e1:=hM;rw [Y9] at hM;exact au
   ·intro x1 hM;(try dsimp only at hM);exact au
theorem Zav (k:Nat):∀(a0:Za) (r:Int) (hM:Qq k a0=some r),Ctr Tryz.prog 137 [.agg (Za.c a0)] true [.one (.int .i64 r)]:=(ZeC k)
instance:HC 137 (Ty @Zav):=⟨Zav⟩
theorem Zdt (k:Nat) (a0:Za) (r:Bool) (hM:Kn k a0=some r):Ctr Tryz.prog 186 [.agg (Za.c a0)] true [.one (.bool r)]:=by
 unfold Kn at hM;refine Zr Tryz.func186 Tryz.ntmps186 Tryz.results186 fun N w0 hbad F=> ?_;refine S1 ?_;refine S1 ?_;refine Zg fun K1 hK1=> ?_;refine S1 ?_;refine Zc ?_;refine S1 ?_;refine Zn hM (fun h2 hM=> ?_) (fun h2 hM=> ?_)
 ·have F:=nf F h2;refine mj (ι:=Bool) [] [] [] (fun i=>[(2,oB i)]) hM ?_ ?_
  ·intro e3 hM K5 hK5;exact au
  ·intro x1 hM;(try dsimp only at hM);exact au
 ·have F:=nf F h2;refine S1 ?_;refine Zn hM (fun h9 hM=> ?_) (fun h9 hM=> ?_)
  ·have F:=nf F h9;refine mj (ι:=Bool) [] [] [] (fun i=>[(2,oB i)]) hM ?_ ?_
   ·intro e10 hM K12 hK12;exact au
   ·intro x3 hM;(try dsimp only at hM);exact au
  ·have F:=nf F h9;refine S1 ?_;refine Zn hM (fun h16 hM=> ?_) (fun h16 hM=> ?_)
   ·have F:=nf F h16;refine mj (ι:=Bool) [] [] [] (fun i=>[(2,oB i)]) hM ?_ ?_
    ·intro e17 hM K19 hK19;exact au
    ·intro x5 hM;(try dsimp only at hM);exact au
   ·have F:=nf F h16;refine S1 ?_;refine Zn hM (fun h23 hM=> ?_) (fun h23 hM=> ?_)
    ·have F:=nf F h23;refine mj (ι:=Bool) [] [] [] (fun i=>[(2,oB i)]) hM ?_ ?_
     ·intro e24 hM K26 hK26;exact au
     ·intro x7 hM;(try dsimp only at hM);exact au
    ·have F:=nf F h23;refine S1 ?_;refine Zn hM (fun h29 hM=> ?_) (fun h29 hM=> ?_)
     ·have F:=nf F h29;refine mj (ι:=Bool) [] [] [] (fun i=>[(2,oB i)]) hM ?_ ?_
      ·intro e30 hM K32 hK32;exact au
      ·intro x8 hM;(try dsimp only at hM);exact au
     ·have F:=nf F h29;refine S1 ?_;refine Zn hM (fun h35 hM=> ?_) (fun h35 hM=> ?_)
      ·have F:=nf F h35;refine mj (ι:=Bool) [] [] [] (fun i=>[(2,oB i)]) hM ?_ ?_
       ·intro e36 hM K38 hK38;exact au
       ·intro x10 hM;(try dsimp only at hM);exact au
      ·have F:=nf F h35;refine mj (ι:=Bool) [1,3,8] [1] [] (fun i=>[(91,oB i)]) hM ?_ ?_
       ·intro e42 hM K44 hK44;exact au
       ·intro x12 hM;(try dsimp only at hM);refine Zn hM (fun h46 hM=> ?_) (fun h46 hM=> ?_)
        ·have F:=nf F h46;refine mj (ι:=Bool) [] [] [] (fun i=>[(2,oB i)]) hM ?_ ?_
         ·intro e47 hM K49 hK49;exact au
         ·intro x13 hM;(try dsimp only at hM);exact au
        ·have F:=nf F h46;refine S1 ?_;refine Zn hM (fun h53 hM=> ?_) (fun h53 hM=> ?_)
         ·have F:=nf F h53;refine mj (ι:=Bool) [] [] [] (fun i=>[(2,oB i)]) hM ?_ ?_
          ·intro e54 hM K56 hK56;exact au
          ·intro x15 hM;(try dsimp only at hM);exact au
         ·have F:=nf F h53;exact au
instance:HC 186 (Ty @Zdt):=⟨Zdt⟩
theorem Ze6:∀(k:Nat),(∀(a0:Za) (r:Bool) (hM:Qo k a0=some r),Ctr Tryz.prog 138 [.agg (Za.c a0)] true [.one (.bool r)]):=by
 intro k
 induction k with
 | zero=>intro a0 r hM;simp [Qo] at hM
 | succ k ih_i_areNodes=>
  ·intro a0 r hM;haveI:HC 138 _:=⟨ih_i_areNodes⟩;rw [Qo] at hM;refine Zr Tryz.func138 Tryz.ntmps138 Tryz.results138 fun N w0 hbad F=> ?_;refine S1 ?_;refine mjE (ι:=Unit) [1] [1] [] (fun i=>[]) hM ?_ ?_
   ·intro e1 hM hR1 K3 hK3;refine S1 ?_;refine Zc ?_;refine lp (ι:=Int) [1,6,7] [1] [] (fun i=>[(8,oI i)]) (fun n i=>Q9 (Qo k) a0 n i=some e1) k 0 hM (by simp [Q9]) ?_;intro KL4 nL4 x1 hL4 hM _;have hM:Q9 (Qo k) a0 (nL4+1) x1=some e1:=hM;rw [Q9] at hM;exact au
   ·intro _ hM;dsimp only at hM;exact au
theorem Zbb (k:Nat):∀(a0:Za) (r:Bool) (hM:Qo k a0=some r),Ctr Tryz.prog 138 [.agg (Za.c a0)] true [.one (.bool r)]:=(Ze6 k)
instance:HC 138 (Ty @Zbb):=⟨Zbb⟩
theorem JV (k:Nat) (a0:Za) (r:Bool) (hM:Xa k a0=some r):Ctr Tryz.prog 83 [.agg (Za.c a0)] true [.one (.bool r)]:=by
 unfold Xa at hM;refine Zr Tryz.func83 Tryz.ntmps83 Tryz.results83 fun N w0 hbad F=> ?_;refine S1 ?_;refine mj (ι:=Bool) [] [] [] (fun i=>[(2,oB i)]) hM ?_ ?_
 ·intro e1 hM K3 hK3;exact au
 ·intro x1 hM;(try dsimp only at hM);exact au
instance:HC 83 (Ty @JV):=⟨JV⟩
theorem UU (k:Nat) (a0:ByteArray) (r:Za×Int) (hM:Ws k a0=some r):Ctr Tryz.prog 128 [.one (.str a0)] false [.agg (Za.c r.1),.one (.int .i64 r.2)]:=by
 unfold Ws at hM;refine Zr Tryz.func128 Tryz.ntmps128 Tryz.results128 fun N w0 hbad F=> ?_;refine S1 ?_;obtain ⟨x1,e1,hM⟩:=bind_some hM;refine Zs fun K h=> ?_;simp [go_sem,F];refine Qt false (Ju k a0 x1 e1) ?_;simp [go_sem,F];refine h _ ?_;refine Zg fun K2 hK2=> ?_;refine S1 ?_;refine Zn hM (fun h3 hM=> ?_) (fun h3 hM=> ?_)
 ·have F:=Zwg (nf F h3) (eT h3);exact au
 ·have F:=Zwg (nf F h3) (eF h3);refine Zi ?_;refine hK2 _ ?_;refine S1 ?_;refine le1 [0,2,6] [2] [] ?_ (ch:=[(4,oL Zh.c x1.1)]) (cb:=[(19,[cL Zh.c x1.1,cI 0,cI (-1)])]);obtain ⟨x2,e4,hM⟩:=bind_some hM;refine Zs fun K h=> ?_;simp [go_sem,F];refine ZA 0 (VI k (Zf.mk x1.1 0 (-1)) x2 e4) ?_;simp [go_sem,F];refine h _ ?_;refine mj (ι:=Int) [0,2,4,6,7] [2,7] [] (fun i=>[]) hM ?_ ?_ (cb:=fun i=>[(19,[cL Zh.c x2.2.list,cI x2.2.at_,cI i])])
  ·intro e5 hM K7 hK7;refine mj (ι:=Bool) [0,2,4,6,7] [2,7,19] [] (fun i=>[(35,oB i)]) hM ?_ ?_
   ·intro e8 hM K10 hK10;exact au
   ·intro x4 hM;(try dsimp only at hM);exact au
  ·intro x3 hM;(try dsimp only at hM);refine Zg fun K13 hK13=> ?_;refine S1 ?_;refine Zn hM (fun h14 hM=> ?_) (fun h14 hM=> ?_)
   ·have F:=Zwg (nf F h14) (eT h14);exact au
   ·have F:=Zwg (nf F h14) (eF h14);refine Zi ?_;refine hK13 _ ?_;refine Zg fun K15 hK15=> ?_;refine S1 ?_;refine Zn hM (fun h16 hM=> ?_) (fun h16 hM=> ?_)
    ·have F:=Zwg (nf F h16) (eT h16);refine Zg fun K17 hK17=> ?_;refine le1 [2,4,6] [2,19] [] ?_;obtain ⟨x5,e18,hM⟩:=bind_some hM;have F:=Zwg F (WZ e18);refine ZJ [[],[1000002],[1000002],[2,1000002],[2,3,1000002],[2,3,4,1000002],[1,2,3,4,5,1000002],[1,2,3,4,5,6,1000002],[1,2,3,4,5,6,7,1000002],[0],[0,1,2,3,4,5,6,7,8,9]] mixed (by kernel_rfl) ?_;simp [go_sem,F];refine ⟨Zq (by kernel_rfl), ?_⟩;exact au
    ·have F:=Zwg (nf F h16) (eF h16);exact au
instance:HC 128 (Ty @UU):=⟨UU⟩
theorem WR (a0:Int) (r:Zb) (hM:Xb a0=some r):Ctr Tryz.prog 77 [.one (.int .i64 a0)] true [.agg (Zb.c r)]:=by
 unfold Xb at hM;refine Zr Tryz.func77 Tryz.ntmps77 Tryz.results77 fun N w0 hbad F=> ?_;exact au
instance:HC 77 (Ty @WR):=⟨WR⟩
theorem Wr (a0:ByteArray) (a1:Int) (r:List ByteArray) (hM:WX a0 a1=some r):Ctr Tryz.prog 181 [.one (.str a0),.one (.int .u8 a1)] true [.one (.sl (r.map sC))]:=by
 unfold WX at hM;refine Zr Tryz.func181 Tryz.ntmps181 Tryz.results181 fun N w0 hbad F=> ?_;exact au
instance:HC 181 (Ty @Wr):=⟨Wr⟩
theorem Kp (k:Nat) (a0:ByteArray) (a1:Int) (r:(List Int)×Bool) (hM:V3 k a0 a1=some r):Ctr Tryz.prog 182 [.one (.str a0),.one (.int .i64 a1)] true [.one (.sl (r.1.map iC)),.one (.bool r.2)]:=by
 unfold V3 at hM;refine Zr Tryz.func182 Tryz.ntmps182 Tryz.results182 fun N w0 hbad F=> ?_;refine S1 ?_;obtain ⟨x1,e1,hM⟩:=bind_some hM;refine Zs fun K h=> ?_;simp [go_sem,F];refine Qt false (Wr a0 32 x1 e1) ?_;simp [go_sem,F];refine h _ ?_;refine S1 ?_;refine mjE (ι:=List Int) [1] [] [] (fun i=>[(7,oO 896 i.length)]) hM ?_ ?_ (ca:=fun i=>[(896,aT iC i)])
 ·intro e2 hM hR1 K4 hK4;refine S1 ?_;refine Zc ?_;refine lp (ι:=(List Int)×Int) [1,15,16] [] [832] (fun i=>[(7,oO 896 i.1.length),(17,oI i.2)]) (fun n i=>Ym x1 n i.1 i.2=some e2) k (([]:List Int),0) hM (by simp [Ym]) ?_ (ca:=fun i=>[(896,aT iC i.1)]);intro KL5 nL5 ⟨x3,x4⟩ hL5 hM _;have hM:Ym x1 (nL5+1) x3 x4=some e2:=hM;rw [Ym] at hM;exact au
 ·intro x2 hM;dsimp only at hM;exact au
instance:HC 182 (Ty @Kp):=⟨Kp⟩
theorem Zba (a0:Int) (r:Bool) (hM:XY a0=some r):Ctr Tryz.prog 229 [.one (.int .i64 a0)] true [.one (.bool r)]:=by
 unfold XY at hM;refine Zr Tryz.func229 Tryz.ntmps229 Tryz.results229 fun N w0 hbad F=> ?_;exact au
instance:HC 229 (Ty @Zba):=⟨Zba⟩
theorem Zcu (k:Nat) (a0:List ByteArray) (a1:ByteArray) (r:Int) (hM:UW k a0 a1=some r):Ctr Tryz.prog 56 [.one (.sl (a0.map sC)),.one (.str a1)] true [.one (.int .i64 r)]:=by
 unfold UW at hM;refine Zr Tryz.func56 Tryz.ntmps56 Tryz.results56 fun N w0 hbad F=> ?_;refine S1 ?_;refine mjE (ι:=Unit) [] [] [] (fun i=>[]) hM ?_ ?_
 ·intro e1 hM hR1 K3 hK3;refine S1 ?_;refine Zc ?_;refine lp (ι:=Int) [1,7,8] [] [] (fun i=>[(9,oI i)]) (fun n i=>QI a0 a1 n i=some e1) k 0 hM (by simp [QI]) ?_;intro KL4 nL4 x1 hL4 hM _;have hM:QI a0 a1 (nL4+1) x1=some e1:=hM;rw [QI] at hM;exact au
 ·intro _ hM;dsimp only at hM;exact au
instance:HC 56 (Ty @Zcu):=⟨Zcu⟩
theorem JZ (k:Nat) (a0:List ByteArray) (r:Bool) (hM:Vp k a0=some r):Ctr Tryz.prog 233 [.one (.sl (a0.map sC))] true [.one (.bool r)]:=by
 unfold Vp at hM;refine Zr Tryz.func233 Tryz.ntmps233 Tryz.results233 fun N w0 hbad F=> ?_;refine S1 ?_;refine mjE (ι:=Unit) [] [] [] (fun i=>[]) hM ?_ ?_
 ·intro e1 hM hR1 K3 hK3;refine S1 ?_;refine Zc ?_;refine lp (ι:=Int) [0,5,6] [] [] (fun i=>[(7,oI i)]) (fun n i=>Yg k a0 n i=some e1) k 0 hM (by simp [Yg]) ?_;intro KL4 nL4 x1 hL4 hM _;have hM:Yg k a0 (nL4+1) x1=some e1:=hM;rw [Yg] at hM;exact au
 ·intro _ hM;dsimp only at hM;exact au
instance:HC 233 (Ty @JZ):=⟨JZ⟩
theorem Uf (k:Nat) (a0:List ByteArray) (r:Bool) (hM:W6 k a0=some r):Ctr Tryz.prog 184 [.one (.sl (a0.map sC))] true [.one (.bool r)]:=by
 unfold W6 at hM;refine Zr Tryz.func184 Tryz.ntmps184 Tryz.results184 fun N w0 hbad F=> ?_;refine S1 ?_;refine mjE (ι:=Unit) [0] [] [] (fun i=>[]) hM ?_ ?_
 ·intro e1 hM hR1 K3 hK3;refine S1 ?_;refine Zc ?_;refine lp (ι:=Int) [0,5,6] [] [] (fun i=>[(7,oI i)]) (fun n i=>Qj k a0 n i=some e1) k 0 hM (by simp [Qj]) ?_;intro KL4 nL4 x1 hL4 hM _;have hM:Qj k a0 (nL4+1) x1=some e1:=hM;rw [Qj] at hM;exact au
 ·intro _ hM;dsimp only at hM;refine mj (ι:=Bool) [] [] [] (fun i=>[(2,oB i)]) hM ?_ ?_
  ·intro e11 hM K13 hK13;exact au
  ·intro x4 hM;(try dsimp only at hM);exact au
instance:HC 184 (Ty @Uf):=⟨Uf⟩
theorem Vk (a0:ZD) (a1:ZD) (r:Bool) (hM:Xk a0 a1=some r):Ctr Tryz.prog 273 [.agg (ZD.c a0),.agg (ZD.c a1)] true [.one (.bool r)]:=by
 unfold Xk at hM;refine Zr Tryz.func273 Tryz.ntmps273 Tryz.results273 fun N w0 hbad F=> ?_;refine S1 ?_;refine mj (ι:=Bool) [] [] [] (fun i=>[(4,oB i)]) hM ?_ ?_
 ·intro e1 hM K3 hK3;exact au
 ·intro x1 hM;(try dsimp only at hM);exact au
instance:HC 273 (Ty @Vk):=⟨Vk⟩
set_option maxHeartbeats 4000000
set_option maxRecDepth 100000
theorem Zcp (k:Nat) (a0:Zb) (r:Bool) (hM:Zaq k a0=some r):Ctr Tryz.prog 231 [.agg (Zb.c a0)] true [.one (.bool r)]:=by
 unfold Zaq at hM;refine Zr Tryz.func231 Tryz.ntmps231 Tryz.results231 fun N w0 hbad F=> ?_;refine S1 ?_;refine Zg fun K1 hK1=> ?_;refine mj (ι:=Bool) [1] [1] [] (fun i=>[(18,oB i)]) hM ?_ ?_
 ·intro e2 hM K4 hK4;exact au
 ·intro x1 hM;(try dsimp only at hM);refine Zn hM (fun h7 hM=> ?_) (fun h7 hM=> ?_)
  ·have F:=nf F h7;exact au
  ·have F:=nf F h7;refine Zi ?_;refine hK1 _ ?_;refine mjE (ι:=Unit) [] [] [] (fun i=>[]) hM ?_ ?_
   ·intro e8 hM hR1 K10 hK10;refine S1 ?_;refine Zc ?_;refine lp (ι:=Int) [1,20,21] [1] [] (fun i=>[(22,oI i)]) (fun n i=>Qh k a0 n i=some e8) k 0 hM (by simp [Qh]) ?_;intro KL11 nL11 x3 hL11 hM _;have hM:Qh k a0 (nL11+1) x3=some e8:=hM;rw [Qh] at hM;refine S1 ?_;refine Zg fun K12 hK12=> ?_;refine Zn hM (fun h13 hM=> ?_) (fun h13 hM=> ?_)
    ·have F:=Zwg (nf F h13) (lT h13);refine Zi ?_;refine hK12 _ ?_;refine mjE (ι:=Unit) [1,20,21,22] [1] [] (fun i=>[]) hM ?_ ?_
     ·intro e14 hM hR2 K16 hK16;refine Zc ?_;obtain ⟨x4,e17,hM⟩:=bind_some hM;have F:=Zwg F (WZ e17);refine S1 ?_;refine Zg fun K18 hK18=> ?_;refine S1 ?_;refine Zn hM (fun h19 hM=> ?_) (fun h19 hM=> ?_)
      ·have F:=nf F h19;exact au
      ·have F:=nf F h19;refine Zi ?_;refine hK18 _ ?_;refine mjE (ι:=Unit) [1,4,20,21,22] [1,4] [] (fun i=>[]) hM ?_ ?_
       ·intro e20 hM hR3 K22 hK22;refine S1 ?_;refine Zc ?_;refine lp (ι:=Int) [1,4,20,21,22,34,35] [1,4] [] (fun i=>[(36,oI i)]) (fun n i=>Q8 x4 n i=some e20) k 0 hM (by simp [Q8]) ?_;intro KL23 nL23 x5 hL23 hM _;have hM:Q8 x4 (nL23+1) x5=some e20:=hM;rw [Q8] at hM;exact au
       ·intro _ hM;dsimp only at hM;refine S1 ?_;refine Zc ?_;refine lp (ι:=Int) [1,4,20,21,22,45,46] [1,4] [] (fun i=>[(47,oI i)]) (fun n i=>Q7 x4 n i=some e14) k 0 hM (by simp [Q7]) ?_;intro KL30 nL30 x8 hL30 hM _;have hM:Q7 x4 (nL30+1) x8=some e14:=hM;rw [Q7] at hM;refine S1 ?_;refine Zg fun K31 hK31=> ?_;refine Zn hM (fun h32 hM=> ?_) (fun h32 hM=> ?_)
        ·have F:=Zwg (nf F h32) (lT h32);refine Zi ?_;refine hK31 _ ?_;refine Zg fun K33 hK33=> ?_;refine Zc ?_;obtain ⟨x9,e34,hM⟩:=bind_some hM;have F:=Zwg F (WZ e34);refine S1 ?_;refine mj (ι:=Bool) [1,4,20,21,22,45,46,47] [1,4] [] (fun i=>[(74,oB i)]) hM ?_ ?_
         ·intro e35 hM K37 hK37;rcases ifM hM with ⟨h38,hM⟩| ⟨h38,hM⟩
          ·have F:=Zwg (nf F h38) (lT h38);refine ZB 19 mixed (by kernel_rfl) (by kernel_rfl) ?_;simp [go_sem,F];exact au
          ·have F:=Zwg (nf F h38) (lF h38);rcases ifM hM with ⟨h39,hM⟩| ⟨h39,hM⟩
           ·have F:=Zwg (nf F h39) (lT h39);refine ZB 19 mixed (by kernel_rfl) (by kernel_rfl) ?_;simp [go_sem,F];exact au
           ·have F:=Zwg (nf F h39) (lF h39);rcases ifM hM with ⟨h40,hM⟩| ⟨h40,hM⟩
            ·have F:=Zwg (nf F h40) (lT h40);obtain ⟨x11,e41,hM⟩:=bind_some hM;have F:=Zwg F (WZ e41);obtain ⟨x12,e42,hM⟩:=bind_some hM;refine ZB 19 mixed (by kernel_rfl) (by kernel_rfl) ?_;simp [go_sem,F];refine Qt false (Vk x11 x9 x12 e42) ?_;simp [go_sem,F];exact au
            ·have F:=Zwg (nf F h40) (lF h40);refine ZB 19 mixed (by kernel_rfl) (by kernel_rfl) ?_;simp [go_sem,F];exact au
         ·intro x10 hM;(try dsimp only at hM);exact au
        ·have F:=Zwg (nf F h32) (lF h32);exact au
     ·intro _ hM;dsimp only at hM;exact au
    ·have F:=Zwg (nf F h13) (lF h13);exact au
   ·intro _ hM;dsimp only at hM;exact au
instance:HC 231 (Ty @Zcp):=⟨Zcp⟩
theorem Zgp:∀(k:Nat),(∀(a0:Zb) (r:Int) (hM:Xc k a0=some r),Ctr Tryz.prog 232 [.agg (Zb.c a0)] true [.one (.int .i64 r)]):=by
 intro k
 induction k with
 | zero=>intro a0 r hM;simp [Xc] at hM
 | succ k ih_i_DepthOf=>
  ·intro a0 r hM;haveI:HC 232 _:=⟨ih_i_DepthOf⟩;rw [Xc] at hM;refine Zr Tryz.func232 Tryz.ntmps232 Tryz.results232 fun N w0 hbad F=> ?_;refine S1 ?_;refine S1 ?_;refine mj (ι:=Int) [] [] [] (fun i=>[(3,oI i)]) hM ?_ ?_
   ·intro e1 hM K3 hK3;refine S1 ?_;refine Zc ?_;refine lp (ι:=Int×Int) [7,8] [] [] (fun i=>[(3,oI i.1),(9,oI i.2)]) (fun n i=>XE (Xc k) a0 n i.1 i.2=some e1) k (0,0) hM (by simp [XE]) ?_;intro KL4 nL4 ⟨x2,x3⟩ hL4 hM _;have hM:XE (Xc k) a0 (nL4+1) x2 x3=some e1:=hM;rw [XE] at hM;exact au
   ·intro x1 hM;(try dsimp only at hM);exact au
theorem Zcv (k:Nat):∀(a0:Zb) (r:Int) (hM:Xc k a0=some r),Ctr Tryz.prog 232 [.agg (Zb.c a0)] true [.one (.int .i64 r)]:=(Zgp k)
instance:HC 232 (Ty @Zcv):=⟨Zcv⟩
theorem Zct:∀(k:Nat),(∀(a0:Zb) (r:Bool) (hM:Zz k a0=some r),Ctr Tryz.prog 183 [.agg (Zb.c a0)] true [.one (.bool r)]):=by
 intro k
 induction k with
 | zero=>intro a0 r hM;simp [Zz] at hM
 | succ k ih_i_IsValidValue=>
  ·intro a0 r hM;haveI:HC 183 _:=⟨ih_i_IsValidValue⟩;rw [Zz] at hM;refine Zr Tryz.func183 Tryz.ntmps183 Tryz.results183 fun N w0 hbad F=> ?_;refine S1 ?_;refine mj (ι:=Bool) [1] [1] [] (fun i=>[(3,oB i)]) hM ?_ ?_
   ·intro e1 hM K3 hK3;exact au
   ·intro x1 hM;(try dsimp only at hM);refine Zg fun K6 hK6=> ?_;refine S1 ?_;refine Zc ?_;refine S1 ?_;refine Zn hM (fun h7 hM=> ?_) (fun h7 hM=> ?_)
    ·have F:=nf F h7;refine mj (ι:=Bool) [] [] [] (fun i=>[(2,oB i)]) hM ?_ ?_
     ·intro e8 hM K10 hK10;exact au
     ·intro x2 hM;(try dsimp only at hM);exact au
    ·have F:=nf F h7;refine S1 ?_;refine Zn hM (fun h15 hM=> ?_) (fun h15 hM=> ?_)
     ·have F:=nf F h15;refine mj (ι:=Bool) [] [] [] (fun i=>[(2,oB i)]) hM ?_ ?_
      ·intro e16 hM K18 hK18;exact au
      ·intro x4 hM;(try dsimp only at hM);exact au
     ·have F:=nf F h15;refine S1 ?_;refine Zn hM (fun h23 hM=> ?_) (fun h23 hM=> ?_)
      ·have F:=nf F h23;refine mj (ι:=Bool) [] [] [] (fun i=>[(2,oB i)]) hM ?_ ?_
       ·intro e24 hM K26 hK26;exact au
       ·intro x6 hM;(try dsimp only at hM);exact au
      ·have F:=nf F h23;refine S1 ?_;refine Zn hM (fun h32 hM=> ?_) (fun h32 hM=> ?_)
       ·have F:=nf F h32;refine mj (ι:=Bool) [] [] [] (fun i=>[(2,oB i)]) hM ?_ ?_
        ·intro e33 hM K35 hK35;exact au
        ·intro x9 hM;(try dsimp only at hM);exact au
       ·have F:=nf F h32;refine S1 ?_;refine Zn hM (fun h40 hM=> ?_) (fun h40 hM=> ?_)
        ·have F:=nf F h40;refine mj (ι:=Bool) [] [] [] (fun i=>[(2,oB i)]) hM ?_ ?_
         ·intro e41 hM K43 hK43;exact au
         ·intro x11 hM;(try dsimp only at hM);exact au
        ·have F:=nf F h40;refine S1 ?_;refine Zn hM (fun h49 hM=> ?_) (fun h49 hM=> ?_)
         ·have F:=nf F h49;refine mjE (ι:=Unit) [1] [1] [] (fun i=>[]) hM ?_ ?_
          ·intro e50 hM hR1 K52 hK52;refine S1 ?_;refine Zc ?_;refine lp (ι:=Int) [1,124,125] [1] [] (fun i=>[(126,oI i)]) (fun n i=>YB (Zz k) a0 n i=some e50) k 0 hM (by simp [YB]) ?_;intro KL53 nL53 x13 hL53 hM _;have hM:YB (Zz k) a0 (nL53+1) x13=some e50:=hM;rw [YB] at hM;refine S1 ?_;refine Zg fun K54 hK54=> ?_;refine Zn hM (fun h55 hM=> ?_) (fun h55 hM=> ?_)
           ·have F:=Zwg (nf F h55) (lT h55);refine Zi ?_;refine hK54 _ ?_;refine Zg fun K56 hK56=> ?_;refine Zc ?_;obtain ⟨x14,e57,hM⟩:=bind_some hM;have F:=Zwg F (WZ e57);refine S1 ?_;refine mj (ι:=Bool) [1,124,125,126] [1] [] (fun i=>[(147,oB i)]) hM ?_ ?_
            ·intro e58 hM K60 hK60;exact au
            ·intro x15 hM;(try dsimp only at hM);exact au
           ·have F:=Zwg (nf F h55) (lF h55);exact au
          ·intro _ hM;dsimp only at hM;refine mj (ι:=Bool) [] [] [] (fun i=>[(2,oB i)]) hM ?_ ?_
           ·intro e68 hM K70 hK70;exact au
           ·intro x19 hM;(try dsimp only at hM);exact au
         ·have F:=nf F h49;exact au
theorem Jh (k:Nat):∀(a0:Zb) (r:Bool) (hM:Zz k a0=some r),Ctr Tryz.prog 183 [.agg (Zb.c a0)] true [.one (.bool r)]:=(Zct k)
instance:HC 183 (Ty @Jh):=⟨Jh⟩
theorem Vn (k:Nat) (a0:ByteArray) (r:Zb×Bool) (hM:Wu k a0=some r):Ctr Tryz.prog 129 [.one (.str a0)] true [.agg (Zb.c r.1),.one (.bool r.2)]:=by
 unfold Wu at hM;refine Zr Tryz.func129 Tryz.ntmps129 Tryz.results129 fun N w0 hbad F=> ?_;refine S1 ?_;obtain ⟨x1,e1,hM⟩:=bind_some hM;refine Zs fun K h=> ?_;simp [go_sem,F];refine Qt false (XF a0 (⟨#[59,32]⟩:ByteArray) x1 e1) ?_;simp [go_sem,F];refine h _ ?_;obtain ⟨x2,e2,hM⟩:=bind_some hM;have F:=Zwg F (WZ e2);have F:=Zwg F (show 0<x1.length by simpa using ZhY e2);have F:=Zwg F (Zs6 0 e2);obtain ⟨x3,e3,hM⟩:=bind_some hM;refine Zs fun K h=> ?_;simp [go_sem,F];refine Qt false (Wr x2 32 x3 e3) ?_;simp [go_sem,F];refine h _ ?_;refine mjE (ι:=List YT) [2,5] [2] [960] (fun i=>[]) hM ?_ ?_ (cb:=fun i=>[(5,[cI 5,cI 0,cI 0,cS (⟨#[]⟩:ByteArray),.nil,.own 960 x3.length,.own 2560 i.length])]) (ca:=fun i=>[(2560,aT YT.c i)])
 ·intro e4 hM hR1 K6 hK6;refine le1 [2,5] [2,5] [960] ?_ (ch:=[(4,oL sC x1)]);obtain ⟨x5,e7,hM⟩:=bind_some hM;obtain ⟨c8,s9⟩:=ZbQ e7;replace c8:=c8.symm;subst c8;(try simp at s9);have F:=Zwg F s9;refine S1 ?_;refine Zc ?_;refine lp (ι:=(List YT)×Int) [2,5,18,19] [2] [960] (fun i=>[(20,oI i.2)]) (fun n i=>YK k x1 x3 n i.1 i.2=some e4) k ([],0) hM (by simp [YK]) ?_ (cb:=fun i=>[(5,[cI 5,cI 0,cI 0,cS (⟨#[]⟩:ByteArray),.nil,.own 960 x3.length,.own 2560 i.1.length])]) (ca:=fun i=>[(2560,aT YT.c i.1)]);intro KL12 nL12 ⟨x6,x7⟩ hL12 hM _;have hM:YK k x1 x3 (nL12+1) x6 x7=some e4:=hM;rw [YK] at hM;exact au
 ·intro x4 hM;dsimp only at hM;exact au
instance:HC 129 (Ty @Vn):=⟨Vn⟩
theorem UX (k:Nat) (a0:ByteArray) (r:Int) (hM:UY k a0=some r):Ctr Tryz.prog 130 [.one (.str a0)] true [.one (.int .i64 r)]:=by
 unfold UY at hM;refine Zr Tryz.func130 Tryz.ntmps130 Tryz.results130 fun N w0 hbad F=> ?_;refine S1 ?_;refine Zg fun K1 hK1=> ?_;obtain ⟨x1,e2,hM⟩:=bind_some hM;refine Zs fun K h=> ?_;simp [go_sem,F];refine Qt false (Vn k a0 x1 e2) ?_;simp [go_sem,F];refine h _ ?_;refine S1 ?_;refine Zn hM (fun h3 hM=> ?_) (fun h3 hM=> ?_)
 ·have F:=nf F h3;exact au
 ·have F:=nf F h3;refine Zi ?_;refine hK1 _ ?_;obtain ⟨x2,e4,hM⟩:=bind_some hM;refine Zs fun K h=> ?_;simp [go_sem,F];refine Qt false (XF a0 (⟨#[59,32]⟩:ByteArray) x2 e4) ?_;simp [go_sem,F];refine h _ ?_;obtain ⟨x3,e5,hM⟩:=bind_some hM;have F:=Zwg F (WZ e5);have F:=Zwg F (show 0<x2.length by simpa using ZhY e5);have F:=Zwg F (Zs6 0 e5);obtain ⟨x4,e6,hM⟩:=bind_some hM;refine Zs fun K h=> ?_;simp [go_sem,F];refine Qt false (Wr x3 32 x4 e6) ?_;simp [go_sem,F];refine h _ ?_;refine Zg fun K7 hK7=> ?_;obtain ⟨x5,e8,hM⟩:=bind_some hM;refine Zs fun K h=> ?_;simp [go_sem,F];refine Qt false (Uf k x4 x5 e8) ?_;simp [go_sem,F];refine h _ ?_;refine Zn hM (fun h9 hM=> ?_) (fun h9 hM=> ?_)
  ·have F:=nf F h9;exact au
  ·have F:=nf F h9;refine Zi ?_;refine hK7 _ ?_;refine mjE (ι:=Unit) [] [] [] (fun i=>[]) hM ?_ ?_
   ·intro e10 hM hR1 K12 hK12;refine le1 [6] [] [1408] ?_ (ch:=[(5,oL sC x2)]);obtain ⟨x6,e13,hM⟩:=bind_some hM;obtain ⟨c14,s15⟩:=ZbQ e13;replace c14:=c14.symm;subst c14;(try simp at s15);have F:=Zwg F s15;refine S1 ?_;refine Zc ?_;refine lp (ι:=Int) [6,27,28] [] [1408] (fun i=>[(29,oI i)]) (fun n i=>YL k x2 x4 n i=some e10) k 0 hM (by simp [YL]) ?_;intro KL18 nL18 x7 hL18 hM _;have hM:YL k x2 x4 (nL18+1) x7=some e10:=hM;rw [YL] at hM;refine S1 ?_;refine Zg fun K19 hK19=> ?_;refine Zn hM (fun h20 hM=> ?_) (fun h20 hM=> ?_)
    ·have F:=Zwg (nf F h20) (lT h20);refine Zi ?_;refine hK19 _ ?_;refine Zg fun K21 hK21=> ?_;refine Zc ?_;obtain ⟨x8,e22,hM⟩:=bind_some hM;have F:=Zwg F (WZ e22);have F:=Zwg F (Zvm e22);refine S1 ?_;obtain ⟨x9,e23,hM⟩:=bind_some hM;refine Zs fun K h=> ?_;simp [go_sem,F];refine Qt false (Kp k x8 (x4.length:Int) x9 e23) ?_;simp [go_sem,F];refine h _ ?_;refine mj (ι:=Bool) [6,7,27,28,29] [] [1408] (fun i=>[(46,oB i)]) hM ?_ ?_
     ·intro e24 hM K26 hK26;exact au
     ·intro x10 hM;(try dsimp only at hM);exact au
    ·have F:=Zwg (nf F h20) (lF h20);exact au
   ·intro _ hM;dsimp only at hM;exact au
instance:HC 130 (Ty @UX):=⟨UX⟩
theorem Kq (a0:YT) (r:YT) (hM:JQ a0=some r):Ctr Tryz.prog 134 [.agg (YT.c a0)] true [.agg (YT.c r)]:=by
 unfold JQ at hM;refine Zr Tryz.func134 Tryz.ntmps134 Tryz.results134 fun N w0 hbad F=> ?_;refine S1 ?_;refine Zg fun K1 hK1=> ?_;refine le1 [1,2] [1,2] [] ?_;obtain ⟨x1,e2,hM⟩:=bind_some hM;obtain ⟨c3,s4⟩:=Z0 e2;replace c3:=c3.symm;subst c3;(try simp at s4);have F:=Zwg F s4;obtain ⟨x2,e6,hM⟩:=bind_some hM;obtain ⟨c7,s8⟩:=Z0 e6;replace c7:=c7.symm;subst c7;(try simp at s8);have F:=Zwg F s8;refine ZJ [[],[],[1],[0,1,2],[],[10000192],[5],[0,1,2,3,4,5,6],[0,1,2,3,4,5,6,7],[0,1,2,3,4,5,6,7,8]] mixed (by kernel_rfl) ?_;simp [go_sem,F];refine ⟨Zq (by kernel_rfl), ?_⟩;exact au
instance:HC 134 (Ty @Kq):=⟨Kq⟩
theorem ZdH:∀(k:Nat),(∀(a0:List Zb) (r:List Zb) (hM:V4 k a0=some r),Ctr Tryz.prog 133 [.one (.sl (a0.map Zb.c))] true [.one (.sl (r.map Zb.c))])/\
  (∀(a0:Zb) (r:Zb) (hM:Yz k a0=some r),Ctr Tryz.prog 78 [.agg (Zb.c a0)] true [.agg (Zb.c r)]):=by
 intro k
 induction k with
 | zero=>exact ⟨by intro a0 r hM;simp [V4] at hM,by intro a0 r hM;simp [Yz] at hM⟩
 | succ k ih=>
  obtain ⟨ih_i_copyValues,ih_i_copyValue⟩:=ih;refine ⟨?_, ?_⟩
  ·intro a0 r hM;haveI:HC 133 _:=⟨ih_i_copyValues⟩;haveI:HC 78 _:=⟨ih_i_copyValue⟩;rw [V4] at hM;refine Zr Tryz.func133 Tryz.ntmps133 Tryz.results133 fun N w0 hbad F=> ?_;refine S1 ?_;refine S1 ?_;refine mj (ι:=List Zb) [] [] [] (fun i=>[(3,oO 384 i.length)]) hM ?_ ?_ (ca:=fun i=>[(384,aT Zb.c i)])
   ·intro e1 hM K3 hK3;refine S1 ?_;refine Zc ?_;refine lp (ι:=(List Zb)×Int) [7,8] [] [] (fun i=>[(3,oO 384 i.1.length),(9,oI i.2)]) (fun n i=>Qi (Yz k) a0 n i.1 i.2=some e1) k (([]:List Zb),0) hM (by simp [Qi]) ?_ (ca:=fun i=>[(384,aT Zb.c i.1)]);intro KL4 nL4 ⟨x2,x3⟩ hL4 hM _;have hM:Qi (Yz k) a0 (nL4+1) x2 x3=some e1:=hM;rw [Qi] at hM;exact au
   ·intro x1 hM;(try dsimp only at hM);exact au
  ·intro a0 r hM;haveI:HC 133 _:=⟨ih_i_copyValues⟩;haveI:HC 78 _:=⟨ih_i_copyValue⟩;rw [Yz] at hM;refine Zr Tryz.func78 Tryz.ntmps78 Tryz.results78 fun N w0 hbad F=> ?_;refine S1 ?_;refine S1 ?_;obtain ⟨x1,e1,hM⟩:=bind_some hM;refine Zs fun K h=> ?_;simp [go_sem,F];refine Qt false (ih_i_copyValues a0.list x1 e1) ?_;simp [go_sem,F];refine h _ ?_;obtain ⟨x2,e2,hM⟩:=bind_some hM;obtain ⟨c3,s4⟩:=Z0 e2;replace c3:=c3.symm;subst c3;(try simp at s4);have F:=Zwg F s4;refine S1 ?_;refine S1 ?_;refine mj (ι:=List YT) [2,3] [2] [576] (fun i=>[]) hM ?_ ?_ (cb:=fun i=>[(3,[cI a0.kind,cI a0.n,cI a0.step,cS a0.text,.own 576 x1.length,.own 704 ((([]:List ByteArray)++a0.columns).length),.own 1856 i.length])]) (ca:=fun i=>[(704,aT sC (([]:List ByteArray)++a0.columns)),(1856,aT YT.c i)])
   ·intro e6 hM K8 hK8;refine S1 ?_;refine Zc ?_;refine lp (ι:=(List YT)×Int) [2,3,18,19] [2] [576] (fun i=>[(20,oI i.2)]) (fun n i=>QF a0 n i.1 i.2=some e6) k ([],0) hM (by simp [QF]) ?_ (cb:=fun i=>[(3,[cI a0.kind,cI a0.n,cI a0.step,cS a0.text,.own 576 x1.length,.own 704 ((([]:List ByteArray)++a0.columns).length),.own 1856 i.1.length])]) (ca:=fun i=>[(704,aT sC (([]:List ByteArray)++a0.columns)),(1856,aT YT.c i.1)]);intro KL9 nL9 ⟨x4,x5⟩ hL9 hM _;have hM:QF a0 (nL9+1) x4 x5=some e6:=hM;rw [QF] at hM;refine S1 ?_;refine Zg fun K10 hK10=> ?_;refine Zn hM (fun h11 hM=> ?_) (fun h11 hM=> ?_)
    ·have F:=Zwg (nf F h11) (lT h11);refine Zi ?_;refine hK10 _ ?_;refine Zg fun K12 hK12=> ?_;refine Zc ?_;obtain ⟨x6,e13,hM⟩:=bind_some hM;have F:=Zwg F (WZ e13);refine S1 ?_;refine le1 [2,3,5,18,19,20] [2,3,5] [576,1856] ?_ (ca:=[(704,aT sC (([]:List ByteArray)++a0.columns))]);obtain ⟨x7,e14,hM⟩:=bind_some hM;obtain ⟨x8,e15,hM⟩:=bind_some hM;obtain ⟨c16,s17⟩:=Z0 e15;replace c16:=c16.symm;subst c16;(try simp at s17);have F:=Zwg F s17;refine ZJ [[10001728,10001729],[0],[],[2],[2,3],[0,1,2,3,4],[0,1,2,3,4,5],[0,1,2,3,4,5,6]] mixed (by kernel_rfl) ?_;simp [go_sem,F];refine Qt false (Kq x6 x7 e14) ?_;simp [go_sem,F];refine ⟨Zq (by kernel_rfl), ?_⟩;exact au
    ·have F:=Zwg (nf F h11) (lF h11);exact au
   ·intro x3 hM;(try dsimp only at hM);exact au
theorem UT (k:Nat):∀(a0:Zb) (r:Zb) (hM:Yz k a0=some r),Ctr Tryz.prog 78 [.agg (Zb.c a0)] true [.agg (Zb.c r)]:=(ZdH k).2
instance:HC 78 (Ty @UT):=⟨UT⟩
theorem VK (k:Nat) (a0:Int) (a1:Zb) (r:Zb) (hM:Vm k a0 a1=some r):Ctr Tryz.prog 131 [.one (.int .i64 a0),.agg (Zb.c a1)] true [.agg (Zb.c r)]:=by
 unfold Vm at hM;refine Zr Tryz.func131 Tryz.ntmps131 Tryz.results131 fun N w0 hbad F=> ?_;refine S1 ?_;refine Zg fun K1 hK1=> ?_;refine mj (ι:=Bool) [0,3,4] [3,4] [] (fun i=>[(18,oB i)]) hM ?_ ?_
 ·intro e2 hM K4 hK4;exact au
 ·intro x1 hM;(try dsimp only at hM);refine Zn hM (fun h8 hM=> ?_) (fun h8 hM=> ?_)
  ·have F:=nf F h8;exact au
  ·have F:=nf F h8;refine Zi ?_;refine hK1 _ ?_;obtain ⟨x4,e10,hM⟩:=bind_some hM;refine Zs fun K h=> ?_;simp [go_sem,F];refine Qt false (UT k a1 x4 e10) ?_;simp [go_sem,F];refine h _ ?_;refine mj (ι:=List YT) [4,5] [4] [1344,1345] (fun i=>[]) hM ?_ ?_ (cb:=fun i=>[(5,[cI x4.kind,cI x4.n,cI x4.step,cS x4.text,.own 1344 x4.list.length,.own 1345 x4.columns.length,.own 1346 i.length])]) (ca:=fun i=>[(1346,aT YT.c i)])
   ·intro e11 hM K13 hK13;refine S1 ?_;refine Zc ?_;refine lp (ι:=(List YT)×Int) [0,4,5,24] [4] [1344,1345] (fun i=>[(25,oI i.2)]) (fun n i=>Yu a0 x4 n i.1 i.2=some e11) k (x4.rows,0) hM (by simp [Yu]) ?_ (cb:=fun i=>[(5,[cI x4.kind,cI x4.n,cI x4.step,cS x4.text,.own 1344 x4.list.length,.own 1345 x4.columns.length,.own 1346 i.1.length])]) (ca:=fun i=>[(1346,aT YT.c i.1)]);intro KL14 nL14 ⟨x6,x7⟩ hL14 hM _;have hM:Yu a0 x4 (nL14+1) x6 x7=some e11:=hM;rw [Yu] at hM;exact au
   ·intro x5 hM;(try dsimp only at hM);exact au
instance:HC 131 (Ty @VK):=⟨VK⟩
theorem JY (k:Nat) (a0:Zk) (r:Zm) (hM:Yv k a0=some r):Ctr Tryz.prog 75 [.agg (Zk.c a0)] false [.agg (Zm.c r)]:=by
 unfold Yv at hM;refine Zr Tryz.func75 Tryz.ntmps75 Tryz.results75 fun N w0 hbad F=> ?_;refine S1 ?_;refine Zg fun K1 hK1=> ?_;obtain ⟨x1,e2,hM⟩:=bind_some hM;refine Zs fun K h=> ?_;simp [go_sem,F];refine Qt false (VN k a0 x1 e2) ?_;simp [go_sem,F];refine h _ ?_;refine Zn hM (fun h3 hM=> ?_) (fun h3 hM=> ?_)
 ·have F:=nf F h3;exact au
 ·have F:=nf F h3;refine Zi ?_;refine hK1 _ ?_;refine Zg fun K4 hK4=> ?_;refine S1 ?_;refine Zc ?_;refine S1 ?_;refine Zn hM (fun h5 hM=> ?_) (fun h5 hM=> ?_)
  ·have F:=nf F h5;exact au
  ·have F:=nf F h5;refine S1 ?_;refine Zn hM (fun h6 hM=> ?_) (fun h6 hM=> ?_)
   ·have F:=nf F h6;refine Zg fun K7 hK7=> ?_;refine le1 [1,2] [1,2] [] ?_;obtain ⟨x2,e8,hM⟩:=bind_some hM;refine ZJ [[],[0],[],[2],[2,3],[0,1,2,3,4],[0,1,2,3,4,5]] mixed (by kernel_rfl) ?_;simp [go_sem,F];refine Qt false (VM a0.n x2 e8) ?_;simp [go_sem,F];refine ⟨Zq (by kernel_rfl), ?_⟩;refine hK7 _ ?_;obtain rfl:=si hM;refine le1 [2] [] [] ?_ (cb:=[(2,[cI 3,cS a0.name,cI 0,cI 0,cS (⟨#[]⟩:ByteArray),.nil,cI x2.kind,cI x2.n,cI x2.step,cS x2.text,cL Zb.c x2.list,cL sC x2.columns,cL YT.c x2.rows,cI 0])]);exact au
   ·have F:=nf F h6;refine S1 ?_;refine Zn hM (fun h9 hM=> ?_) (fun h9 hM=> ?_)
    ·have F:=nf F h9;obtain ⟨x3,e10,hM⟩:=bind_some hM;refine Zs fun K h=> ?_;simp [go_sem,F];refine Qt false (UU k a0.code x3 e10) ?_;simp [go_sem,F];refine h _ ?_;refine Zg fun K11 hK11=> ?_;refine S1 ?_;refine Zn hM (fun h12 hM=> ?_) (fun h12 hM=> ?_)
     ·have F:=Zwg (nf F h12) (eT h12);refine Zg fun K13 hK13=> ?_;refine le1 [1,2,4] [1,2] [] ?_;obtain ⟨x4,e14,hM⟩:=bind_some hM;refine ZJ [[],[0],[],[],[0,1,2,3],[0,1,2,3,4]] mixed (by kernel_rfl) ?_;simp [go_sem,F];refine Qt false (WR 8 x4 e14) ?_;simp [go_sem,F];refine ⟨Zq (by kernel_rfl), ?_⟩;refine hK13 _ ?_;obtain rfl:=si hM;refine le1 [2] [] [] ?_ (cb:=[(2,[cI 4,cS a0.name,cI 0,cI 0,cS (⟨#[]⟩:ByteArray),.nil,cI x4.kind,cI x4.n,cI x4.step,cS x4.text,cL Zb.c x4.list,cL sC x4.columns,cL YT.c x4.rows,cI x3.2])]);exact au
     ·have F:=Zwg (nf F h12) (eF h12);exact au
    ·have F:=nf F h9;refine Zi ?_;refine hK4 _ ?_;obtain ⟨x5,e15,hM⟩:=bind_some hM;refine Zs fun K h=> ?_;simp [go_sem,F];refine Qt false (Vn k a0.code x5 e15) ?_;simp [go_sem,F];refine h _ ?_;refine Zg fun K16 hK16=> ?_;refine S1 ?_;refine Zn hM (fun h17 hM=> ?_) (fun h17 hM=> ?_)
     ·have F:=nf F h17;refine Zg fun K18 hK18=> ?_;refine le1 [1,2] [1,2] [] ?_;obtain ⟨x6,e19,hM⟩:=bind_some hM;obtain ⟨x7,e20,hM⟩:=bind_some hM;refine ZJ [[],[0],[],[],[3],[2,3,4],[0,1,2,3,4,5],[0,1,2,3,4,5,6]] mixed (by kernel_rfl) ?_;simp [go_sem,F];refine Qt false (WR 8 x6 e19) ?_;simp [go_sem,F];refine Qt false (UX k a0.code x7 e20) ?_;simp [go_sem,F];refine ⟨Zq (by kernel_rfl), ?_⟩;refine hK18 _ ?_;obtain rfl:=si hM;refine le1 [2] [] [] ?_ (cb:=[(2,[cI 4,cS a0.name,cI 0,cI 0,cS (⟨#[]⟩:ByteArray),.nil,cI x6.kind,cI x6.n,cI x6.step,cS x6.text,cL Zb.c x6.list,cL sC x6.columns,cL YT.c x6.rows,cI x7])]);exact au
     ·have F:=nf F h17;refine Zi ?_;refine hK16 _ ?_;refine Zg fun K21 hK21=> ?_;refine le1 [1,2,5] [1,2,5] [2944,2945,2946] ?_;obtain ⟨x8,e22,hM⟩:=bind_some hM;refine ZJ [[],[0],[],[2],[],[2,3,4],[0,1,2,3,4,5],[0,1,2,3,4,5,6]] mixed (by kernel_rfl) ?_;simp [go_sem,F];refine Qt false (VK k a0.id x5.1 x8 e22) ?_;simp [go_sem,F];refine ⟨Zq (by kernel_rfl), ?_⟩;refine hK21 _ ?_;obtain rfl:=si hM;refine le1 [2] [] [] ?_ (cb:=[(2,[cI 3,cS a0.name,cI 0,cI 0,cS (⟨#[]⟩:ByteArray),.nil,cI x8.kind,cI x8.n,cI x8.step,cS x8.text,cL Zb.c x8.list,cL sC x8.columns,cL YT.c x8.rows,cI 0])]);exact au
instance:HC 75 (Ty @JY):=⟨JY⟩
theorem Uh (k:Nat) (a0:Ze) (r:List Zm) (hM:Va k a0=some r):Ctr Tryz.prog 30 [.agg (Ze.c a0)] false [.one (.sl (r.map Zm.c))]:=by
 unfold Va at hM;refine Zr Tryz.func30 Tryz.ntmps30 Tryz.results30 fun N w0 hbad F=> ?_;refine S1 ?_;refine Zg fun K1 hK1=> ?_;obtain ⟨x1,e2,hM⟩:=bind_some hM;refine Zs fun K h=> ?_;simp [go_sem,F];refine Qt false (Wv k a0 x1 e2) ?_;simp [go_sem,F];refine h _ ?_;refine Zn hM (fun h3 hM=> ?_) (fun h3 hM=> ?_)
 ·have F:=nf F h3;exact au
 ·have F:=nf F h3;refine Zi ?_;refine hK1 _ ?_;refine S1 ?_;refine mj (ι:=List Zm) [] [] [] (fun i=>[(3,oO 576 i.length)]) hM ?_ ?_ (ca:=fun i=>[(576,aF Zm.c i)])
  ·intro e4 hM K6 hK6;refine S1 ?_;refine Zc ?_;refine Zom [576] (σ':=⟨24,[(3,.one (.own 576 (([]:List Zm).length))),(11,.one (.l (.sl (a0.cells.map Zk.c)))),(12,.one (.l (.int .i64 (a0.cells.length:Int)))),(13,.one (.l (.int .i64 0)))],[],[(576,some ⟨false,([]:List Zm).map Zm.c⟩)]⟩) ?_;refine lp (ι:=(List Zm)×Int) [11,12] [] [] (fun i=>[(3,oO 576 i.1.length),(13,oI i.2)]) (fun n i=>Ql k a0 n i.1 i.2=some e4) k (([]:List Zm),0) hM (by simp [Ql]) ?_ (ca:=fun i=>[(576,aF Zm.c i.1)]);intro KL7 nL7 ⟨x3,x4⟩ hL7 hM _;have hM:Ql k a0 (nL7+1) x3 x4=some e4:=hM;rw [Ql] at hM;exact au
  ·intro x2 hM;(try dsimp only at hM);refine S1 ?_;obtain rfl:=si hM;refine le1 [] [] [] ?_ (ch:=[(2,oL Zm.c x2)]);exact au
instance:HC 30 (Ty @Uh):=⟨Uh⟩
theorem Zbe (k:Nat) (a0:List Zm) (a1:ByteArray) (r:List Int) (hM:W9 k a0 a1=some r):Ctr Tryz.prog 132 [.one (.sl (a0.map Zm.c)),.one (.str a1)] true [.one (.sl (r.map iC))]:=by
 unfold W9 at hM;refine Zr Tryz.func132 Tryz.ntmps132 Tryz.results132 fun N w0 hbad F=> ?_;refine S1 ?_;refine S1 ?_;refine mj (ι:=List Int) [] [] [] (fun i=>[(5,oO 512 i.length)]) hM ?_ ?_ (ca:=fun i=>[(512,aT iC i)])
 ·intro e1 hM K3 hK3;refine S1 ?_;refine Zc ?_;refine lp (ι:=(List Int)×Int) [1,9,10] [] [] (fun i=>[(5,oO 512 i.1.length),(11,oI i.2)]) (fun n i=>Xd a0 a1 n i.1 i.2=some e1) k (([]:List Int),0) hM (by simp [Xd]) ?_ (ca:=fun i=>[(512,aT iC i.1)]);intro KL4 nL4 ⟨x2,x3⟩ hL4 hM _;have hM:Xd a0 a1 (nL4+1) x2 x3=some e1:=hM;rw [Xd] at hM;refine S1 ?_;refine Zg fun K5 hK5=> ?_;refine Zn hM (fun h6 hM=> ?_) (fun h6 hM=> ?_)
  ·have F:=Zwg (nf F h6) (lT h6);refine Zi ?_;refine hK5 _ ?_;refine mj (ι:=List Int) [1,9,10,11] [] [] (fun i=>[(5,oO 512 i.length)]) hM ?_ ?_ (ca:=fun i=>[(512,aT iC i)])
   ·intro e7 hM K9 hK9;refine Zc ?_;obtain ⟨x5,e10,hM⟩:=bind_some hM;have F:=Zwg F (WZ e10);refine S1 ?_;refine mj (ι:=Bool) [1,5,6,9,10,11] [] [512] (fun i=>[(24,oB i)]) hM ?_ ?_
    ·intro e11 hM K13 hK13;exact au
    ·intro x6 hM;(try dsimp only at hM);exact au
   ·intro x4 hM;(try dsimp only at hM);exact au
  ·have F:=Zwg (nf F h6) (lF h6);exact au
 ·intro x1 hM;(try dsimp only at hM);exact au
instance:HC 132 (Ty @Zbe):=⟨Zbe⟩
theorem JX (k:Nat) (a0:List Zm) (a1:Int) (r:Bool) (hM:Qa k a0 a1=some r):Ctr Tryz.prog 76 [.one (.sl (a0.map Zm.c)),.one (.int .i64 a1)] true [.one (.bool r)]:=by
 unfold Qa at hM;refine Zr Tryz.func76 Tryz.ntmps76 Tryz.results76 fun N w0 hbad F=> ?_;refine S1 ?_;refine mj (ι:=Bool) [] [] [] (fun i=>[(4,oB i)]) hM ?_ ?_
 ·intro e1 hM K3 hK3;exact au
 ·intro x1 hM;(try dsimp only at hM);exact au
instance:HC 76 (Ty @JX):=⟨JX⟩
theorem Zar (k:Nat) (a0:List Int) (a1:Int) (r:Bool) (hM:Vl k a0 a1=some r):Ctr Tryz.prog 80 [.one (.sl (a0.map iC)),.one (.int .i64 a1)] true [.one (.bool r)]:=by
 unfold Vl at hM;refine Zr Tryz.func80 Tryz.ntmps80 Tryz.results80 fun N w0 hbad F=> ?_;refine S1 ?_;refine mjE (ι:=Unit) [] [] [] (fun i=>[]) hM ?_ ?_
 ·intro e1 hM hR1 K3 hK3;refine S1 ?_;refine Zc ?_;refine lp (ι:=Int) [1,7,8] [] [] (fun i=>[(9,oI i)]) (fun n i=>Wq a0 a1 n i=some e1) k 0 hM (by simp [Wq]) ?_;intro KL4 nL4 x1 hL4 hM _;have hM:Wq a0 a1 (nL4+1) x1=some e1:=hM;rw [Wq] at hM;exact au
 ·intro _ hM;dsimp only at hM;exact au
instance:HC 80 (Ty @Zar):=⟨Zar⟩
end Go.Proofs.YtbkllghhcphkaaaGreatDoor
