import Derived.Test.YtbkllghhcphkaaaGreatDoorJ5
set_option linter.unusedSimpArgs false
set_option linter.unusedVariables false
namespace Go.Proofs.YtbkllghhcphkaaaGreatDoor
open Go.RowKit Am
set_option maxHeartbeats 4000000
set_option maxRecDepth 100000
theorem ZcO (a0:Int) (a1:Int) (a2:Int) (r:Bool) (hM:UD a0 a1 a2=some r):Ctr Tryz.prog 64 [.one (.int .i64 a0),.one (.int .i64 a1),.one (.int .i64 a2)] true [.one (.bool r)]:=by
 unfold UD at hM;refine Zr Tryz.func64 Tryz.ntmps64 Tryz.results64 fun N w0 hbad F=> ?_;refine S1 ?_;refine mj (ι:=Bool) [] [] [] (fun i=>[(6,oB i)]) hM ?_ ?_
 ·intro e1 hM K3 hK3;exact au
 ·intro x1 hM;(try dsimp only at hM);exact au
instance:HC 64 (Ty @ZcO):=⟨ZcO⟩
theorem JI (k:Nat) (a0:ByteArray) (r:Bool) (hM:XM k a0=some r):Ctr Tryz.prog 144 [.one (.str a0)] true [.one (.bool r)]:=by
 unfold XM at hM;refine Zr Tryz.func144 Tryz.ntmps144 Tryz.results144 fun N w0 hbad F=> ?_;refine S1 ?_;refine mjE (ι:=Unit) [0] [] [] (fun i=>[]) hM ?_ ?_
 ·intro e1 hM hR1 K3 hK3;refine S1 ?_;refine Zc ?_;refine lp (ι:=Int) [0] [] [] (fun i=>[(3,oI i)]) (fun n i=>Yc a0 n i=some e1) k 0 hM (by simp [Yc]) ?_;intro KL4 nL4 x1 hL4 hM _;have hM:Yc a0 (nL4+1) x1=some e1:=hM;rw [Yc] at hM;refine Zg fun K5 hK5=> ?_;refine S1 ?_;refine Zn hM (fun h6 hM=> ?_) (fun h6 hM=> ?_)
  ·have F:=Zwg (nf F h6) (lT h6);refine Zi ?_;refine hK5 _ ?_;refine Zg fun K7 hK7=> ?_;refine Zc ?_;refine mj (ι:=Bool) [0,3] [] [] (fun i=>[(19,oB i)]) hM ?_ ?_
   ·intro e8 hM K10 hK10;exact au
   ·intro x2 hM;(try dsimp only at hM);exact au
  ·have F:=Zwg (nf F h6) (lF h6);exact au
 ·intro _ hM;dsimp only at hM;exact au
instance:HC 144 (Ty @JI):=⟨JI⟩
theorem ZbU (k:Nat) (a0:ByteArray) (r:Bool) (hM:Zad k a0=some r):Ctr Tryz.prog 193 [.one (.str a0)] true [.one (.bool r)]:=by
 unfold Zad at hM;refine Zr Tryz.func193 Tryz.ntmps193 Tryz.results193 fun N w0 hbad F=> ?_;refine S1 ?_;refine mjE (ι:=Unit) [0] [] [] (fun i=>[]) hM ?_ ?_
 ·intro e1 hM hR1 K3 hK3;refine S1 ?_;refine Zc ?_;refine lp (ι:=Int) [0] [] [] (fun i=>[(3,oI i)]) (fun n i=>XB a0 n i=some e1) k 0 hM (by simp [XB]) ?_;intro KL4 nL4 x1 hL4 hM _;have hM:XB a0 (nL4+1) x1=some e1:=hM;rw [XB] at hM;refine Zg fun K5 hK5=> ?_;refine S1 ?_;refine Zn hM (fun h6 hM=> ?_) (fun h6 hM=> ?_)
  ·have F:=Zwg (nf F h6) (lT h6);refine Zi ?_;refine hK5 _ ?_;refine Zg fun K7 hK7=> ?_;refine Zc ?_;refine mj (ι:=Bool) [0,3] [] [] (fun i=>[(4,oB i)]) hM ?_ ?_
   ·intro e8 hM K10 hK10;exact au
   ·intro x2 hM;(try dsimp only at hM);refine mj (ι:=Bool) [0,3,4] [] [] (fun i=>[(5,oB i)]) hM ?_ ?_
    ·intro e13 hM K15 hK15;exact au
    ·intro x4 hM;(try dsimp only at hM);refine mj (ι:=Bool) [0,3] [] [] (fun i=>[(41,oB i)]) hM ?_ ?_
     ·intro e18 hM K20 hK20;exact au
     ·intro x6 hM;(try dsimp only at hM);exact au
  ·have F:=Zwg (nf F h6) (lF h6);exact au
 ·intro _ hM;dsimp only at hM;exact au
instance:HC 193 (Ty @ZbU):=⟨ZbU⟩
theorem KC (r:List ByteArray) (hM:QX=some r):Ctr Tryz.prog 247 [] true [.one (.sl (r.map sC))]:=by
 unfold QX at hM;refine Zr Tryz.func247 Tryz.ntmps247 Tryz.results247 fun N w0 hbad F=> ?_;exact au
instance:HC 247 (Ty @KC):=⟨KC⟩
theorem Zbo (k:Nat) (a0:List ByteArray) (a1:ByteArray) (r:Bool) (hM:Kc k a0 a1=some r):Ctr Tryz.prog 46 [.one (.sl (a0.map sC)),.one (.str a1)] true [.one (.bool r)]:=by
 unfold Kc at hM;refine Zr Tryz.func46 Tryz.ntmps46 Tryz.results46 fun N w0 hbad F=> ?_;refine S1 ?_;refine mjE (ι:=Unit) [] [] [] (fun i=>[]) hM ?_ ?_
 ·intro e1 hM hR1 K3 hK3;refine S1 ?_;refine Zc ?_;refine lp (ι:=Int) [0,1] [] [] (fun i=>[(5,oI i)]) (fun n i=>XV a0 a1 n i=some e1) k 0 hM (by simp [XV]) ?_;intro KL4 nL4 x1 hL4 hM _;have hM:XV a0 a1 (nL4+1) x1=some e1:=hM;rw [XV] at hM;exact au
 ·intro _ hM;dsimp only at hM;exact au
instance:HC 46 (Ty @Zbo):=⟨Zbo⟩
theorem KD (k:Nat) (a0:ByteArray) (r:Bool) (hM:V1 k a0=some r):Ctr Tryz.prog 194 [.one (.str a0)] true [.one (.bool r)]:=by
 unfold V1 at hM;refine Zr Tryz.func194 Tryz.ntmps194 Tryz.results194 fun N w0 hbad F=> ?_;exact au
instance:HC 194 (Ty @KD):=⟨KD⟩
theorem VE (k:Nat) (a0:ByteArray) (r:Bool) (hM:ZX k a0=some r):Ctr Tryz.prog 145 [.one (.str a0)] true [.one (.bool r)]:=by
 unfold ZX at hM;refine Zr Tryz.func145 Tryz.ntmps145 Tryz.results145 fun N w0 hbad F=> ?_;refine S1 ?_;refine mj (ι:=Bool) [] [] [] (fun i=>[(2,oB i)]) hM ?_ ?_
 ·intro e1 hM K3 hK3;exact au
 ·intro x1 hM;(try dsimp only at hM);exact au
instance:HC 145 (Ty @VE):=⟨VE⟩
theorem Xp (k:Nat) (a0:Zk) (r:Bool) (hM:Qv k a0=some r):Ctr Tryz.prog 94 [.agg (Zk.c a0)] true [.one (.bool r)]:=by
 unfold Qv at hM;refine Zr Tryz.func94 Tryz.ntmps94 Tryz.results94 fun N w0 hbad F=> ?_;refine S1 ?_;refine Zg fun K1 hK1=> ?_;refine mj (ι:=Bool) [1] [1] [] (fun i=>[(18,oB i)]) hM ?_ ?_
 ·intro e2 hM K4 hK4;exact au
 ·intro x1 hM;(try dsimp only at hM);refine Zn hM (fun h10 hM=> ?_) (fun h10 hM=> ?_)
  ·have F:=nf F h10;exact au
  ·have F:=nf F h10;refine Zi ?_;refine hK1 _ ?_;refine Zg fun K11 hK11=> ?_;refine S1 ?_;refine Zc ?_;refine S1 ?_;refine Zn hM (fun h12 hM=> ?_) (fun h12 hM=> ?_)
   ·have F:=nf F h12;refine mj (ι:=Bool) [] [] [] (fun i=>[(2,oB i)]) hM ?_ ?_
    ·intro e13 hM K15 hK15;exact au
    ·intro x5 hM;(try dsimp only at hM);exact au
   ·have F:=nf F h12;refine mj (ι:=Bool) [1,20] [1] [] (fun i=>[(31,oB i)]) hM ?_ ?_
    ·intro e17 hM K19 hK19;exact au
    ·intro x6 hM;(try dsimp only at hM);refine Zn hM (fun h21 hM=> ?_) (fun h21 hM=> ?_)
     ·have F:=nf F h21;refine mj (ι:=Bool) [] [] [] (fun i=>[(2,oB i)]) hM ?_ ?_
      ·intro e22 hM K24 hK24;exact au
      ·intro x7 hM;(try dsimp only at hM);exact au
     ·have F:=nf F h21;refine S1 ?_;refine Zn hM (fun h27 hM=> ?_) (fun h27 hM=> ?_)
      ·have F:=nf F h27;refine mj (ι:=Bool) [] [] [] (fun i=>[(2,oB i)]) hM ?_ ?_
       ·intro e28 hM K30 hK30;exact au
       ·intro x9 hM;(try dsimp only at hM);exact au
      ·have F:=nf F h27;exact au
instance:HC 94 (Ty @Xp):=⟨Xp⟩
theorem UN (k:Nat) (a0:Ze) (a1:Int) (r:Int) (hM:Wl k a0 a1=some r):Ctr Tryz.prog 93 [.agg (Ze.c a0),.one (.int .i64 a1)] true [.one (.int .i64 r)]:=by
 unfold Wl at hM;refine Zr Tryz.func93 Tryz.ntmps93 Tryz.results93 fun N w0 hbad F=> ?_;refine S1 ?_;refine mjE (ι:=Unit) [] [] [] (fun i=>[]) hM ?_ ?_
 ·intro e1 hM hR1 K3 hK3;refine S1 ?_;refine Zc ?_;refine lp (ι:=Int) [1,2] [2] [] (fun i=>[(5,oI i)]) (fun n i=>Yd a0 a1 n i=some e1) k 0 hM (by simp [Yd]) ?_;intro KL4 nL4 x1 hL4 hM _;have hM:Yd a0 a1 (nL4+1) x1=some e1:=hM;rw [Yd] at hM;exact au
 ·intro _ hM;dsimp only at hM;exact au
instance:HC 93 (Ty @UN):=⟨UN⟩
theorem Wj (k:Nat) (a0:Ze) (r:Bool) (hM:Xo k a0=some r):Ctr Tryz.prog 62 [.agg (Ze.c a0)] true [.one (.bool r)]:=by
 unfold Xo at hM;refine Zr Tryz.func62 Tryz.ntmps62 Tryz.results62 fun N w0 hbad F=> ?_;refine S1 ?_;refine mjE (ι:=Unit) [1] [1] [] (fun i=>[]) hM ?_ ?_
 ·intro e1 hM hR1 K3 hK3;refine S1 ?_;refine Zc ?_;refine lp (ι:=Int) [1] [1] [] (fun i=>[(3,oI i)]) (fun n i=>Z3 k a0 n i=some e1) k 0 hM (by simp [Z3]) ?_;intro KL4 nL4 x1 hL4 hM _;have hM:Z3 k a0 (nL4+1) x1=some e1:=hM;rw [Z3] at hM;refine Zg fun K5 hK5=> ?_;refine S1 ?_;refine Zn hM (fun h6 hM=> ?_) (fun h6 hM=> ?_)
  ·have F:=Zwg (nf F h6) (lT h6);refine Zi ?_;refine hK5 _ ?_;refine Zg fun K7 hK7=> ?_;refine Zc ?_;refine mj (ι:=Bool) [1,3] [1] [] (fun i=>[(29,oB i)]) hM ?_ ?_
   ·intro e8 hM K10 hK10;obtain ⟨x3,e11,hM⟩:=bind_some hM;have F:=Zwg F (WZ e11);obtain ⟨x4,e12,hM⟩:=bind_some hM;rcases ifM hM with ⟨h13,hM⟩| ⟨h13,hM⟩
    ·have F:=nf F h13;refine ZB 17 mixed (by kernel_rfl) (by kernel_rfl) ?_;simp [go_sem,F];refine Qt false (Xp k x3 x4 e12) ?_;simp [go_sem,F];exact au
    ·have F:=nf F h13;obtain ⟨x5,e14,hM⟩:=bind_some hM;refine ZB 17 mixed (by kernel_rfl) (by kernel_rfl) ?_;simp [go_sem,F];refine Qt false (Xp k x3 x4 e12) ?_;simp [go_sem,F];refine Qt false (UN k a0 x3.id x5 e14) ?_;simp [go_sem,F];exact au
   ·intro x2 hM;(try dsimp only at hM);exact au
  ·have F:=Zwg (nf F h6) (lF h6);exact au
 ·intro _ hM;dsimp only at hM;exact au
instance:HC 62 (Ty @Wj):=⟨Wj⟩
theorem Jp (a0:Int) (r:Bool) (hM:Vu a0=some r):Ctr Tryz.prog 252 [.one (.int .u8 a0)] true [.one (.bool r)]:=by
 unfold Vu at hM;refine Zr Tryz.func252 Tryz.ntmps252 Tryz.results252 fun N w0 hbad F=> ?_;refine S1 ?_;refine mj (ι:=Bool) [] [] [] (fun i=>[(2,oB i)]) hM ?_ ?_
 ·intro e1 hM K3 hK3;exact au
 ·intro x1 hM;(try dsimp only at hM);exact au
instance:HC 252 (Ty @Jp):=⟨Jp⟩
theorem Ka (a0:Int) (r:Bool) (hM:VZ a0=some r):Ctr Tryz.prog 253 [.one (.int .u8 a0)] true [.one (.bool r)]:=by
 unfold VZ at hM;refine Zr Tryz.func253 Tryz.ntmps253 Tryz.results253 fun N w0 hbad F=> ?_;refine S1 ?_;refine mj (ι:=Bool) [] [] [] (fun i=>[(2,oB i)]) hM ?_ ?_
 ·intro e1 hM K3 hK3;exact au
 ·intro x1 hM;(try dsimp only at hM);exact au
instance:HC 253 (Ty @Ka):=⟨Ka⟩
theorem Zal (k:Nat) (a0:Int) (r:ByteArray) (hM:UK k a0=some r):Ctr Tryz.prog 285 [.one (.int .i64 a0)] true [.one (.str r)]:=by
 unfold UK at hM;refine Zr Tryz.func285 Tryz.ntmps285 Tryz.results285 fun N w0 hbad F=> ?_;refine S1 ?_;refine Zg fun K1 hK1=> ?_;refine S1 ?_;refine Zn hM (fun h2 hM=> ?_) (fun h2 hM=> ?_)
 ·have F:=nf F h2;exact au
 ·have F:=nf F h2;refine Zi ?_;refine hK1 _ ?_;refine S1 ?_;refine S1 ?_;refine mj (ι:=ByteArray) [3] [] [] (fun i=>[(4,oS i)]) hM ?_ ?_
  ·intro e3 hM K5 hK5;refine Zc ?_;refine lp (ι:=Int×ByteArray) [3] [] [] (fun i=>[(0,oI i.1),(4,oS i.2)]) (fun n i=>ZI n i.1 i.2=some e3) k (a0,(⟨#[]⟩:ByteArray)) hM (by simp [ZI]) ?_;intro KL6 nL6 ⟨x2,x3⟩ hL6 hM _;have hM:ZI (nL6+1) x2 x3=some e3:=hM;rw [ZI] at hM;refine Zg fun K7 hK7=> ?_;refine S1 ?_;refine Zn hM (fun h8 hM=> ?_) (fun h8 hM=> ?_)
   ·have F:=nf F h8;refine Zi ?_;refine hK7 _ ?_;refine Zc ?_;refine S1 ?_;refine mj (ι:=Int) [0,3,4] [] [] (fun i=>[(5,oI i)]) hM ?_ ?_
    ·intro e9 hM K11 hK11;exact au
    ·intro x4 hM;(try dsimp only at hM);exact au
   ·have F:=nf F h8;exact au
  ·intro x1 hM;(try dsimp only at hM);exact au
instance:HC 285 (Ty @Zal):=⟨Zal⟩
theorem Zdj (k:Nat) (a0:ByteArray) (a1:Int) (r:Int×Bool) (hM:ZbW k a0 a1=some r):Ctr Tryz.prog 259 [.one (.str a0),.one (.int .i64 a1)] true [.one (.int .i64 r.1),.one (.bool r.2)]:=by
 unfold ZbW at hM;refine Zr Tryz.func259 Tryz.ntmps259 Tryz.results259 fun N w0 hbad F=> ?_;refine S1 ?_;refine mj (ι:=Bool) [0,1] [] [] (fun i=>[(6,oB i)]) hM ?_ ?_
 ·intro e1 hM K3 hK3;exact au
 ·intro x1 hM;(try dsimp only at hM);refine S1 ?_;refine mj (ι:=ByteArray) [0,1,6] [] [] (fun i=>[(7,oS i)]) hM ?_ ?_
  ·intro e6 hM K8 hK8;exact au
  ·intro x3 hM;(try dsimp only at hM);refine Zg fun K15 hK15=> ?_;refine mj (ι:=Bool) [0,6,7] [] [] (fun i=>[(30,oB i)]) hM ?_ ?_
   ·intro e16 hM K18 hK18;exact au
   ·intro x5 hM;(try dsimp only at hM);refine Zn hM (fun h20 hM=> ?_) (fun h20 hM=> ?_)
    ·have F:=nf F h20;exact au
    ·have F:=nf F h20;refine Zi ?_;refine hK15 _ ?_;refine S1 ?_;refine mjE (ι:=Int) [0,6] [] [] (fun i=>[(8,oI i)]) hM ?_ ?_
     ·intro e21 hM hR1 K23 hK23;refine S1 ?_;refine Zc ?_;refine lp (ι:=Int×Int) [0,6,7] [] [] (fun i=>[(8,oI i.1),(9,oI i.2)]) (fun n i=>XI x3 n i.1 i.2=some e21) k (0,0) hM (by simp [XI]) ?_;intro KL24 nL24 ⟨x7,x8⟩ hL24 hM _;have hM:XI x3 (nL24+1) x7 x8=some e21:=hM;rw [XI] at hM;refine Zg fun K25 hK25=> ?_;refine S1 ?_;refine Zn hM (fun h26 hM=> ?_) (fun h26 hM=> ?_)
      ·have F:=Zwg (nf F h26) (lT h26);refine Zi ?_;refine hK25 _ ?_;refine Zg fun K27 hK27=> ?_;refine Zc ?_;refine Zg fun K28 hK28=> ?_;refine mj (ι:=Bool) [0,6,7,8,9] [] [] (fun i=>[(46,oB i)]) hM ?_ ?_
       ·intro e29 hM K31 hK31;exact au
       ·intro x9 hM;(try dsimp only at hM);exact au
      ·have F:=Zwg (nf F h26) (lF h26);exact au
     ·intro x6 hM;dsimp only at hM;refine mj (ι:=Int) [0] [] [] (fun i=>[(8,oI i)]) hM ?_ ?_
      ·intro e36 hM K38 hK38;exact au
      ·intro x12 hM;(try dsimp only at hM);exact au
instance:HC 259 (Ty @Zdj):=⟨Zdj⟩
set_option maxHeartbeats 4000000
set_option maxRecDepth 100000
theorem VT (k:Nat) (a0:ByteArray) (r:Int×Bool) (hM:WB k a0=some r):Ctr Tryz.prog 210 [.one (.str a0)] true [.one (.int .i64 r.1),.one (.bool r.2)]:=by
 unfold WB at hM;refine Zr Tryz.func210 Tryz.ntmps210 Tryz.results210 fun N w0 hbad F=> ?_;exact au
instance:HC 210 (Ty @VT):=⟨VT⟩
theorem JG (k:Nat) (a0:ByteArray) (r:Bool) (hM:XL k a0=some r):Ctr Tryz.prog 212 [.one (.str a0)] true [.one (.bool r)]:=by
 unfold XL at hM;refine Zr Tryz.func212 Tryz.ntmps212 Tryz.results212 fun N w0 hbad F=> ?_;refine S1 ?_;refine mjE (ι:=Unit) [0] [] [] (fun i=>[]) hM ?_ ?_
 ·intro e1 hM hR1 K3 hK3;refine S1 ?_;refine Zc ?_;refine lp (ι:=Int) [0] [] [] (fun i=>[(3,oI i)]) (fun n i=>YV a0 n i=some e1) k 0 hM (by simp [YV]) ?_;intro KL4 nL4 x1 hL4 hM _;have hM:YV a0 (nL4+1) x1=some e1:=hM;rw [YV] at hM;refine Zg fun K5 hK5=> ?_;refine S1 ?_;refine Zn hM (fun h6 hM=> ?_) (fun h6 hM=> ?_)
  ·have F:=Zwg (nf F h6) (lT h6);refine Zi ?_;refine hK5 _ ?_;refine Zg fun K7 hK7=> ?_;refine Zc ?_;refine mj (ι:=Bool) [0,3] [] [] (fun i=>[(25,oB i)]) hM ?_ ?_
   ·intro e8 hM K10 hK10;exact au
   ·intro x2 hM;(try dsimp only at hM);exact au
  ·have F:=Zwg (nf F h6) (lF h6);exact au
 ·intro _ hM;dsimp only at hM;exact au
instance:HC 212 (Ty @JG):=⟨JG⟩
theorem Za1 (a0:ByteArray) (a1:Int) (r:Int) (hM:Ut a0 a1=some r):Ctr Tryz.prog 254 [.one (.str a0),.one (.int .i64 a1)] true [.one (.int .i64 r)]:=by
 unfold Ut at hM;refine Zr Tryz.func254 Tryz.ntmps254 Tryz.results254 fun N w0 hbad F=> ?_;refine S1 ?_;refine Zg fun K1 hK1=> ?_;obtain ⟨x1,e2,hM⟩:=bind_some hM;have F:=Zwg F (WZ e2);refine S1 ?_;refine Zc ?_;refine mj (ι:=Bool) [0,1,7] [] [] (fun i=>[(8,oB i)]) hM ?_ ?_
 ·intro e3 hM K5 hK5;exact au
 ·intro x2 hM;(try dsimp only at hM);refine Zn hM (fun h14 hM=> ?_) (fun h14 hM=> ?_)
  ·have F:=nf F h14;exact au
  ·have F:=nf F h14;refine S1 ?_;refine Zn hM (fun h15 hM=> ?_) (fun h15 hM=> ?_)
   ·have F:=nf F h15;refine Zg fun K16 hK16=> ?_;refine mj (ι:=Bool) [] [] [] (fun i=>[(31,oB i)]) hM ?_ ?_
    ·intro e17 hM K19 hK19;exact au
    ·intro x3 hM;(try dsimp only at hM);exact au
   ·have F:=nf F h15;exact au
instance:HC 254 (Ty @Za1):=⟨Za1⟩
theorem KZ (k:Nat) (a0:ByteArray) (a1:Int) (r:Zh×Int) (hM:Xm k a0 a1=some r):Ctr Tryz.prog 205 [.one (.str a0),.one (.int .i64 a1)] true [.agg (Zh.c r.1),.one (.int .i64 r.2)]:=by
 unfold Xm at hM;refine Zr Tryz.func205 Tryz.ntmps205 Tryz.results205 fun N w0 hbad F=> ?_;refine S1 ?_;refine S1 ?_;refine S1 ?_;refine mjE (ι:=Int×Int×ByteArray×Int) [1,4,6] [4] [] (fun i=>[(7,oI i.2.2.2)]) hM ?_ ?_ (cb:=fun i=>[(6,[cI i.1,cI i.2.1,cI a1,cS i.2.2.1])])
 ·intro e1 hM hR1 K3 hK3;refine Zc ?_;obtain ⟨x5,e4,hM⟩:=bind_some hM;have F:=Zwg F (WZ e4);obtain ⟨x6,e5,hM⟩:=bind_some hM;refine Zs fun K h=> ?_;simp [go_sem,F];refine Qt false (Jp (x5.toNat:Int) x6 e5) ?_;simp [go_sem,F];refine h _ ?_;refine Zn hM (fun h6 hM=> ?_) (fun h6 hM=> ?_)
  ·have F:=nf F h6;refine mj (ι:=Int) [0,1,4,6] [4,6] [] (fun i=>[(7,oI i)]) hM ?_ ?_
   ·intro e7 hM K9 hK9;refine Zc ?_;refine lp (ι:=Int) [0,1,4,6] [4,6] [] (fun i=>[(7,oI i)]) (fun n i=>Xh a0 n i=some e7) k a1 hM (by simp [Xh]) ?_;intro KL10 nL10 x8 hL10 hM _;have hM:Xh a0 (nL10+1) x8=some e7:=hM;rw [Xh] at hM;refine Zg fun K11 hK11=> ?_;refine mj (ι:=Bool) [0,1,4,6,7] [4,6] [] (fun i=>[(44,oB i)]) hM ?_ ?_
    ·intro e12 hM K14 hK14;exact au
    ·intro x9 hM;(try dsimp only at hM);exact au
   ·intro x7 hM;(try dsimp only at hM);exact au
  ·have F:=nf F h6;obtain ⟨x14,e27,hM⟩:=bind_some hM;refine Zs fun K h=> ?_;simp [go_sem,F];refine Qt false (Ka (x5.toNat:Int) x14 e27) ?_;simp [go_sem,F];refine h _ ?_;refine Zn hM (fun h28 hM=> ?_) (fun h28 hM=> ?_)
   ·have F:=nf F h28;refine mj (ι:=Int) [0,1,4,6] [4,6] [] (fun i=>[(7,oI i)]) hM ?_ ?_
    ·intro e29 hM K31 hK31;refine Zc ?_;refine lp (ι:=Int) [0,1,4,6] [4,6] [] (fun i=>[(7,oI i)]) (fun n i=>Xg a0 n i=some e29) k a1 hM (by simp [Xg]) ?_;intro KL32 nL32 x16 hL32 hM _;have hM:Xg a0 (nL32+1) x16=some e29:=hM;rw [Xg] at hM;refine Zg fun K33 hK33=> ?_;refine mj (ι:=Bool) [0,1,4,6,7] [4,6] [] (fun i=>[(72,oB i)]) hM ?_ ?_
     ·intro e34 hM K36 hK36;exact au
     ·intro x17 hM;(try dsimp only at hM);exact au
    ·intro x15 hM;(try dsimp only at hM);obtain ⟨x20,e41,hM⟩:=bind_some hM;obtain ⟨c42,s43⟩:=KW e41;replace c42:=c42.symm;subst c42;(try simp at s43);have F:=Zwg F s43;obtain ⟨x21,e46,hM⟩:=bind_some hM;refine Zs fun K h=> ?_;simp [go_sem,F];refine Qt false (VT k (a0.extract a1.toNat x15.toNat) x21 e46) ?_;simp [go_sem,F];refine h _ ?_;refine S1 ?_;refine S1 ?_;refine mj (ι:=Bool) [1,4,6,7] [4,6] [] (fun i=>[(91,oB i)]) hM ?_ ?_
     ·intro e47 hM K49 hK49;exact au
     ·intro x22 hM;(try dsimp only at hM);exact au
   ·have F:=nf F h28;refine S1 ?_;refine Zn hM (fun h52 hM=> ?_) (fun h52 hM=> ?_)
    ·have F:=nf F h52;refine S1 ?_;refine mj (ι:=Int) [0,1,4,6] [4,6] [] (fun i=>[(7,oI i)]) hM ?_ ?_
     ·intro e53 hM K55 hK55;refine Zc ?_;refine lp (ι:=Int) [0,1,4,6] [4,6] [] (fun i=>[(7,oI i)]) (fun n i=>Xf a0 n i=some e53) k (IntKind.i64.wrap (a1+1)) hM (by simp [Xf]) ?_;intro KL56 nL56 x24 hL56 hM _;have hM:Xf a0 (nL56+1) x24=some e53:=hM;rw [Xf] at hM;refine Zg fun K57 hK57=> ?_;refine mj (ι:=Bool) [0,1,4,6,7] [4,6] [] (fun i=>[(109,oB i)]) hM ?_ ?_
      ·intro e58 hM K60 hK60;exact au
      ·intro x25 hM;(try dsimp only at hM);exact au
     ·intro x23 hM;(try dsimp only at hM);refine S1 ?_;obtain ⟨x27,e64,hM⟩:=bind_some hM;obtain ⟨c65,s66⟩:=KW e64;replace c65:=c65.symm;subst c65;(try simp at s66);have F:=Zwg F s66;refine S1 ?_;refine Zg fun K69 hK69=> ?_;refine mj (ι:=Bool) [1,4,6,7] [4,6] [] (fun i=>[(128,oB i)]) hM ?_ ?_
      ·intro e70 hM K72 hK72;exact au
      ·intro x28 hM;(try dsimp only at hM);exact au
    ·have F:=nf F h52;exact au
 ·rintro ⟨x1,x2,x3,x4⟩ hM;dsimp only at hM;exact au
instance:HC 205 (Ty @KZ):=⟨KZ⟩
theorem Js (k:Nat) (a0:ByteArray) (r:(List Zh)×Int) (hM:Vz k a0=some r):Ctr Tryz.prog 166 [.one (.str a0)] true [.one (.sl (r.1.map Zh.c)),.one (.int .i64 r.2)]:=by
 unfold Vz at hM;refine Zr Tryz.func166 Tryz.ntmps166 Tryz.results166 fun N w0 hbad F=> ?_;refine S1 ?_;refine Zg fun K1 hK1=> ?_;refine S1 ?_;refine Zn hM (fun h2 hM=> ?_) (fun h2 hM=> ?_)
 ·have F:=Zwg (nf F h2) (lT h2);exact au
 ·have F:=Zwg (nf F h2) (lF h2);refine Zi ?_;refine hK1 _ ?_;refine S1 ?_;refine S1 ?_;refine mjE (ι:=List Zh) [] [] [] (fun i=>[(4,oO 768 i.length)]) hM ?_ ?_ (ca:=fun i=>[(768,aT Zh.c i)])
  ·intro e3 hM hR1 K5 hK5;refine Zc ?_;refine lp (ι:=(List Zh)×Int) [0] [] [] (fun i=>[(4,oO 768 i.1.length),(5,oI i.2)]) (fun n i=>ZN k a0 n i.1 i.2=some e3) k (([]:List Zh),0) hM (by simp [ZN]) ?_ (ca:=fun i=>[(768,aT Zh.c i.1)]);intro KL6 nL6 ⟨x2,x3⟩ hL6 hM _;have hM:ZN k a0 (nL6+1) x2 x3=some e3:=hM;rw [ZN] at hM;refine Zg fun K7 hK7=> ?_;refine S1 ?_;refine Zn hM (fun h8 hM=> ?_) (fun h8 hM=> ?_)
   ·have F:=Zwg (nf F h8) (lT h8);refine Zi ?_;refine hK7 _ ?_;refine Zc ?_;refine Zg fun K9 hK9=> ?_;obtain ⟨x4,e10,hM⟩:=bind_some hM;have F:=Zwg F (WZ e10);refine S1 ?_;refine Zn hM (fun h11 hM=> ?_) (fun h11 hM=> ?_)
    ·have F:=nf F h11;exact au
    ·have F:=nf F h11;refine Zi ?_;refine hK9 _ ?_;obtain ⟨x5,e12,hM⟩:=bind_some hM;refine Zs fun K h=> ?_;simp (maxSteps:=9999999) [go_sem,F];refine Qt false (KZ k a0 x3 x5 e12) ?_;simp (maxSteps:=9999999) [go_sem,F];refine h _ ?_;refine Zg fun K13 hK13=> ?_;refine mj (ι:=Bool) [0,4,5,6,7] [6] [768] (fun i=>[(35,oB i)]) hM ?_ ?_
     ·intro e14 hM K16 hK16;exact au
     ·intro x6 hM;(try dsimp only at hM);exact au
   ·have F:=Zwg (nf F h8) (lF h8);exact au
  ·intro x1 hM;dsimp only at hM;exact au
instance:HC 166 (Ty @Js):=⟨Js⟩
theorem XW (a0:Zh) (a1:ByteArray) (r:Bool) (hM:WC a0 a1=some r):Ctr Tryz.prog 255 [.agg (Zh.c a0),.one (.str a1)] true [.one (.bool r)]:=by
 unfold WC at hM;refine Zr Tryz.func255 Tryz.ntmps255 Tryz.results255 fun N w0 hbad F=> ?_;refine S1 ?_;refine mj (ι:=Bool) [] [] [] (fun i=>[(4,oB i)]) hM ?_ ?_
 ·intro e1 hM K3 hK3;exact au
 ·intro x1 hM;(try dsimp only at hM);exact au
instance:HC 255 (Ty @XW):=⟨XW⟩
theorem UI (a0:Zh) (a1:ByteArray) (r:Bool) (hM:UJ a0 a1=some r):Ctr Tryz.prog 256 [.agg (Zh.c a0),.one (.str a1)] true [.one (.bool r)]:=by
 unfold UJ at hM;refine Zr Tryz.func256 Tryz.ntmps256 Tryz.results256 fun N w0 hbad F=> ?_;refine S1 ?_;refine mj (ι:=Bool) [] [] [] (fun i=>[(4,oB i)]) hM ?_ ?_
 ·intro e1 hM K3 hK3;exact au
 ·intro x1 hM;(try dsimp only at hM);exact au
instance:HC 256 (Ty @UI):=⟨UI⟩
theorem Qu (a0:Zd) (a1:ByteArray) (r:Bool×Zd) (hM:Zp a0 a1=some r):Zbj Tryz.prog 206 [] (Zd.c a0) [.one (.str a1)] true [.one (.bool r.1)] (Zd.c r.2):=by
 unfold Zp at hM;refine Jz Tryz.func206 Tryz.ntmps206 Tryz.results206 fun N w0 hbad F=> ?_;refine S1 ?_;refine mj (ι:=Bool) [] [50] [] (fun i=>[(4,oB i)]) hM ?_ ?_
 ·intro e1 hM K3 hK3;rcases ifM hM with ⟨h4,hM⟩| ⟨h4,hM⟩
  ·have F:=Zwg (nf F h4) (lT h4);rcases ifM hM with ⟨h5,hM⟩| ⟨h5,hM⟩
   ·have F:=Zwg (nf F h5) (lT h5);obtain ⟨x2,e6,hM⟩:=bind_some hM;have F:=Zwg F (WZ e6);obtain ⟨x3,e7,hM⟩:=bind_some hM;rcases ifM hM with ⟨h8,hM⟩| ⟨h8,hM⟩
    ·have F:=nf F h8;refine ZB 42 mixed (by kernel_rfl) (by kernel_rfl) ?_;simp [go_sem,F];refine Qt false (XW x2 a1 x3 e7) ?_;simp [go_sem,F];exact au
    ·have F:=nf F h8;obtain ⟨x4,e9,hM⟩:=bind_some hM;refine ZB 42 mixed (by kernel_rfl) (by kernel_rfl) ?_;simp [go_sem,F];refine Qt false (XW x2 a1 x3 e7) ?_;simp [go_sem,F];refine Qt false (UI x2 a1 x4 e9) ?_;simp [go_sem,F];exact au
   ·have F:=Zwg (nf F h5) (lF h5);refine ZB 42 mixed (by kernel_rfl) (by kernel_rfl) ?_;simp [go_sem,F];exact au
  ·have F:=Zwg (nf F h4) (lF h4);refine ZB 42 mixed (by kernel_rfl) (by kernel_rfl) ?_;simp [go_sem,F];exact au
 ·intro x1 hM;(try dsimp only at hM);exact au
instance:HC 206 (Ty @Qu):=⟨Qu⟩
theorem Um (a0:Zd) (r:Za×Zd) (hM:Y1 a0=some r):Zbj Tryz.prog 168 [] (Zd.c a0) [] true [.agg (Za.c r.1)] (Zd.c r.2):=by
 unfold Y1 at hM;refine Jz Tryz.func168 Tryz.ntmps168 Tryz.results168 fun N w0 hbad F=> ?_;refine S1 ?_;refine mj (ι:=Int) [2] [2] [] (fun i=>[]) hM ?_ ?_ (cb:=fun i=>[(40,[cL Zh.c a0.toks,cI a0.i,cI a0.end_,cI i])])
 ·intro e1 hM K3 hK3;refine S1 ?_;refine Zn hM (fun h4 hM=> ?_) (fun h4 hM=> ?_)
  ·have F:=Zwg (nf F h4) (lT h4);refine S1 ?_;refine Zg fun K5 hK5=> ?_;refine ZB 9 mixed (by kernel_rfl) (by kernel_rfl) ?_;simp [go_sem,F];refine hK5 _ ?_;refine Zn hM (fun h6 hM=> ?_) (fun h6 hM=> ?_)
   ·have F:=Zwg (nf F h6) (lT h6);obtain ⟨x2,e7,hM⟩:=bind_some hM;have F:=Zwg F (WZ e7);refine ZB 12 mixed (by kernel_rfl) (by kernel_rfl) ?_;simp [go_sem,F];exact au
   ·have F:=Zwg (nf F h6) (lF h6);exact au
  ·have F:=Zwg (nf F h4) (lF h4);exact au
 ·intro x1 hM;(try dsimp only at hM);exact au
instance:HC 168 (Ty @Um):=⟨Um⟩
theorem Ul (k:Nat) (a0:Zd) (r:ByteArray×Zd) (hM:XR k a0=some r):Zbj Tryz.prog 207 [] (Zd.c a0) [] true [.one (.str r.1)] (Zd.c r.2):=by
 unfold XR at hM;refine Jz Tryz.func207 Tryz.ntmps207 Tryz.results207 fun N w0 hbad F=> ?_;refine S1 ?_;refine Zg fun K1 hK1=> ?_;refine mj (ι:=Bool) [0] [71] [] (fun i=>[(48,oB i)]) hM ?_ ?_
 ·intro e2 hM K4 hK4;rcases ifM hM with ⟨h5,hM⟩| ⟨h5,hM⟩
  ·have F:=Zwg (nf F h5) (eT h5);refine ZB 40 mixed (by kernel_rfl) (by kernel_rfl) ?_;simp [go_sem,F];exact au
  ·have F:=Zwg (nf F h5) (eF h5);rcases ifM hM with ⟨h6,hM⟩| ⟨h6,hM⟩
   ·have F:=Zwg (nf F h6) (eT h6);refine ZB 40 mixed (by kernel_rfl) (by kernel_rfl) ?_;simp [go_sem,F];exact au
   ·have F:=Zwg (nf F h6) (eF h6);obtain ⟨x2,e7,hM⟩:=bind_some hM;have F:=Zwg F (WZ e7);rcases ifM hM with ⟨h8,hM⟩| ⟨h8,hM⟩
    ·have F:=nf F h8;refine ZB 40 mixed (by kernel_rfl) (by kernel_rfl) ?_;simp [go_sem,F];exact au
    ·have F:=nf F h8;obtain ⟨x3,e9,hM⟩:=bind_some hM;refine ZB 40 mixed (by kernel_rfl) (by kernel_rfl) ?_;simp [go_sem,F];refine Qt false (VE k x2.text x3 e9) ?_;simp [go_sem,F];exact au
 ·intro x1 hM;(try dsimp only at hM);refine Zn hM (fun h10 hM=> ?_) (fun h10 hM=> ?_)
  ·have F:=nf F h10;exact au
  ·have F:=nf F h10;refine Zi ?_;refine hK1 _ ?_;refine S1 ?_;refine Zg fun K12 hK12=> ?_;obtain ⟨x5,e13,hM⟩:=bind_some hM;have F:=Zwg F (WZ e13);refine ZB 9 mixed (by kernel_rfl) (by kernel_rfl) ?_;simp [go_sem,F];exact au
instance:HC 207 (Ty @Ul):=⟨Ul⟩
theorem Y5 (a0:Zd) (a1:ByteArray) (r:Zd) (hM:Zx a0 a1=some r):Zbj Tryz.prog 208 [] (Zd.c a0) [.one (.str a1)] true [] (Zd.c r):=by
 unfold Zx at hM;refine Jz Tryz.func208 Tryz.ntmps208 Tryz.results208 fun N w0 hbad F=> ?_;exact au
instance:HC 208 (Ty @Y5):=⟨Y5⟩
theorem Zaf (a0:Int) (r:Za) (hM:ZbY a0=some r):Ctr Tryz.prog 326 [.one (.int .i64 a0)] true [.agg (Za.c r)]:=by
 unfold ZbY at hM;refine Zr Tryz.func326 Tryz.ntmps326 Tryz.results326 fun N w0 hbad F=> ?_;exact au
instance:HC 326 (Ty @Zaf):=⟨Zaf⟩
theorem Kf (a0:ByteArray) (r:Za) (hM:Zag a0=some r):Ctr Tryz.prog 327 [.one (.str a0)] true [.agg (Za.c r)]:=by
 unfold Zag at hM;refine Zr Tryz.func327 Tryz.ntmps327 Tryz.results327 fun N w0 hbad F=> ?_;exact au
instance:HC 327 (Ty @Kf):=⟨Kf⟩
theorem UO (a0:ByteArray) (r:Int) (hM:Ya a0=some r):Ctr Tryz.prog 216 [.one (.str a0)] true [.one (.int .i64 r)]:=by
 unfold Ya at hM;refine Zr Tryz.func216 Tryz.ntmps216 Tryz.results216 fun N w0 hbad F=> ?_;refine S1 ?_;refine Zg fun K1 hK1=> ?_;refine S1 ?_;refine Zc ?_;refine S1 ?_;refine Zn hM (fun h2 hM=> ?_) (fun h2 hM=> ?_)
 ·have F:=nf F h2;exact au
 ·have F:=nf F h2;refine mj (ι:=Bool) [3] [] [] (fun i=>[(6,oB i)]) hM ?_ ?_
  ·intro e3 hM K5 hK5;exact au
  ·intro x1 hM;(try dsimp only at hM);refine Zn hM (fun h10 hM=> ?_) (fun h10 hM=> ?_)
   ·have F:=nf F h10;exact au
   ·have F:=nf F h10;refine mj (ι:=Bool) [3] [] [] (fun i=>[(12,oB i)]) hM ?_ ?_
    ·intro e11 hM K13 hK13;exact au
    ·intro x2 hM;(try dsimp only at hM);refine Zn hM (fun h20 hM=> ?_) (fun h20 hM=> ?_)
     ·have F:=nf F h20;exact au
     ·have F:=nf F h20;refine mj (ι:=Bool) [3] [] [] (fun i=>[(20,oB i)]) hM ?_ ?_
      ·intro e21 hM K23 hK23;exact au
      ·intro x3 hM;(try dsimp only at hM);exact au
instance:HC 216 (Ty @UO):=⟨UO⟩
end Go.Proofs.YtbkllghhcphkaaaGreatDoor
