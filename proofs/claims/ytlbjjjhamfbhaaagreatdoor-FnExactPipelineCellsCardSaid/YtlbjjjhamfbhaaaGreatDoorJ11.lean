import Derived.Test.YtlbjjjhamfbhaaaGreatDoorJ5
set_option linter.unusedSimpArgs false
set_option linter.unusedVariables false
namespace Go.Proofs.YtlbjjjhamfbhaaaGreatDoor
open Go.RowKit Am
set_option maxHeartbeats 4000000
set_option maxRecDepth 100000
theorem ZcL (a0:Int) (a1:Int) (a2:Int) (r:Bool) (hM:UD a0 a1 a2=some r):Ctr Tryz.prog 92 [.one (.int .i64 a0),.one (.int .i64 a1),.one (.int .i64 a2)] true [.one (.bool r)]:=by
 unfold UD at hM;refine Zr Tryz.func92 Tryz.ntmps92 Tryz.results92 fun N w0 hbad F=> ?_;refine S1 ?_;refine mj (ι:=Bool) [] [] [] (fun i=>[(6,oB i)]) hM ?_ ?_
 ·intro e1 hM K3 hK3;exact au
 ·intro x1 hM;(try dsimp only at hM);exact au
instance:HC 92 (Ty @ZcL):=⟨ZcL⟩
theorem JH (k:Nat) (a0:ByteArray) (r:Bool) (hM:XM k a0=some r):Ctr Tryz.prog 213 [.one (.str a0)] true [.one (.bool r)]:=by
 unfold XM at hM;refine Zr Tryz.func213 Tryz.ntmps213 Tryz.results213 fun N w0 hbad F=> ?_;refine S1 ?_;refine mjE (ι:=Unit) [0] [] [] (fun i=>[]) hM ?_ ?_
 ·intro e1 hM hR1 K3 hK3;refine S1 ?_;refine Zc ?_;refine lp (ι:=Int) [0] [] [] (fun i=>[(3,oI i)]) (fun n i=>Yb a0 n i=some e1) k 0 hM (by simp [Yb]) ?_;intro KL4 nL4 x1 hL4 hM _;have hM:Yb a0 (nL4+1) x1=some e1:=hM;rw [Yb] at hM;refine Zg fun K5 hK5=> ?_;refine S1 ?_;refine Zn hM (fun h6 hM=> ?_) (fun h6 hM=> ?_)
  ·have F:=ZtU (nf F h6) (lT h6);refine Zi ?_;refine hK5 _ ?_;refine Zg fun K7 hK7=> ?_;refine Zc ?_;refine mj (ι:=Bool) [0,3] [] [] (fun i=>[(19,oB i)]) hM ?_ ?_
   ·intro e8 hM K10 hK10;exact au
   ·intro x2 hM;(try dsimp only at hM);exact au
  ·have F:=ZtU (nf F h6) (lF h6);exact au
 ·intro _ hM;dsimp only at hM;exact au
instance:HC 213 (Ty @JH):=⟨JH⟩
theorem ZbT (k:Nat) (a0:ByteArray) (r:Bool) (hM:Zad k a0=some r):Ctr Tryz.prog 270 [.one (.str a0)] true [.one (.bool r)]:=by
 unfold Zad at hM;refine Zr Tryz.func270 Tryz.ntmps270 Tryz.results270 fun N w0 hbad F=> ?_;refine S1 ?_;refine mjE (ι:=Unit) [0] [] [] (fun i=>[]) hM ?_ ?_
 ·intro e1 hM hR1 K3 hK3;refine S1 ?_;refine Zc ?_;refine lp (ι:=Int) [0] [] [] (fun i=>[(3,oI i)]) (fun n i=>XA a0 n i=some e1) k 0 hM (by simp [XA]) ?_;intro KL4 nL4 x1 hL4 hM _;have hM:XA a0 (nL4+1) x1=some e1:=hM;rw [XA] at hM;refine Zg fun K5 hK5=> ?_;refine S1 ?_;refine Zn hM (fun h6 hM=> ?_) (fun h6 hM=> ?_)
  ·have F:=ZtU (nf F h6) (lT h6);refine Zi ?_;refine hK5 _ ?_;refine Zg fun K7 hK7=> ?_;refine Zc ?_;refine mj (ι:=Bool) [0,3] [] [] (fun i=>[(4,oB i)]) hM ?_ ?_
   ·intro e8 hM K10 hK10;exact au
   ·intro x2 hM;(try dsimp only at hM);refine mj (ι:=Bool) [0,3,4] [] [] (fun i=>[(5,oB i)]) hM ?_ ?_
    ·intro e13 hM K15 hK15;exact au
    ·intro x4 hM;(try dsimp only at hM);refine mj (ι:=Bool) [0,3] [] [] (fun i=>[(41,oB i)]) hM ?_ ?_
     ·intro e18 hM K20 hK20;exact au
     ·intro x6 hM;(try dsimp only at hM);exact au
  ·have F:=ZtU (nf F h6) (lF h6);exact au
 ·intro _ hM;dsimp only at hM;exact au
instance:HC 270 (Ty @ZbT):=⟨ZbT⟩
theorem KC (r:List ByteArray) (hM:QW=some r):Ctr Tryz.prog 327 [] true [.one (.sl (r.map sC))]:=by
 unfold QW at hM;refine Zr Tryz.func327 Tryz.ntmps327 Tryz.results327 fun N w0 hbad F=> ?_;exact au
instance:HC 327 (Ty @KC):=⟨KC⟩
theorem Zbo (k:Nat) (a0:List ByteArray) (a1:ByteArray) (r:Bool) (hM:Kb k a0 a1=some r):Ctr Tryz.prog 75 [.one (.sl (a0.map sC)),.one (.str a1)] true [.one (.bool r)]:=by
 unfold Kb at hM;refine Zr Tryz.func75 Tryz.ntmps75 Tryz.results75 fun N w0 hbad F=> ?_;refine S1 ?_;refine mjE (ι:=Unit) [] [] [] (fun i=>[]) hM ?_ ?_
 ·intro e1 hM hR1 K3 hK3;refine S1 ?_;refine Zc ?_;refine lp (ι:=Int) [0,1] [] [] (fun i=>[(5,oI i)]) (fun n i=>XV a0 a1 n i=some e1) k 0 hM (by simp [XV]) ?_;intro KL4 nL4 x1 hL4 hM _;have hM:XV a0 a1 (nL4+1) x1=some e1:=hM;rw [XV] at hM;exact au
 ·intro _ hM;dsimp only at hM;exact au
instance:HC 75 (Ty @Zbo):=⟨Zbo⟩
theorem KD (k:Nat) (a0:ByteArray) (r:Bool) (hM:VZ k a0=some r):Ctr Tryz.prog 271 [.one (.str a0)] true [.one (.bool r)]:=by
 unfold VZ at hM;refine Zr Tryz.func271 Tryz.ntmps271 Tryz.results271 fun N w0 hbad F=> ?_;exact au
instance:HC 271 (Ty @KD):=⟨KD⟩
theorem VD (k:Nat) (a0:ByteArray) (r:Bool) (hM:ZX k a0=some r):Ctr Tryz.prog 214 [.one (.str a0)] true [.one (.bool r)]:=by
 unfold ZX at hM;refine Zr Tryz.func214 Tryz.ntmps214 Tryz.results214 fun N w0 hbad F=> ?_;refine S1 ?_;refine mj (ι:=Bool) [] [] [] (fun i=>[(2,oB i)]) hM ?_ ?_
 ·intro e1 hM K3 hK3;exact au
 ·intro x1 hM;(try dsimp only at hM);exact au
instance:HC 214 (Ty @VD):=⟨VD⟩
theorem Xn (k:Nat) (a0:Zk) (r:Bool) (hM:Qv k a0=some r):Ctr Tryz.prog 144 [.agg (Zk.c a0)] true [.one (.bool r)]:=by
 unfold Qv at hM;refine Zr Tryz.func144 Tryz.ntmps144 Tryz.results144 fun N w0 hbad F=> ?_;refine S1 ?_;refine Zg fun K1 hK1=> ?_;refine mj (ι:=Bool) [1] [1] [] (fun i=>[(18,oB i)]) hM ?_ ?_
 ·intro e2 hM K4 hK4;exact au
 ·intro x1 hM;(try dsimp only at hM);refine Zn hM (fun h10 hM=> ?_) (fun h10 hM=> ?_)
  ·have F:=nf F h10;exact au
  ·have F:=nf F h10;refine Zi ?_;refine hK1 _ ?_;refine Zg fun K11 hK11=> ?_;refine S1 ?_;refine Zc ?_;refine S1 ?_;refine Zn hM (fun h12 hM=> ?_) (fun h12 hM=> ?_)
   ·have F:=nf F h12;refine mj (ι:=Bool) [] [] [] (fun i=>[(2,oB i)]) hM ?_ ?_
    ·intro e13 hM K15 hK15;exact au
    ·intro x5 hM;(try dsimp only at hM);exact au
   ·have F:=nf F h12;refine mj (ι:=Bool) [1,20] [1] [] (fun i=>[(31,oB i)]) hM ?_ ?_
    ·intro e17 hM K19 hK19;exact au
    ·intro x6 hM;(try dsimp only at hM);refine Zn hM (fun h21 hM=> ?_) (fun h21 hM=> ?_)
     ·have F:=nf F h21;refine mj (ι:=Bool) [] [] [] (fun i=>[(2,oB i)]) hM ?_ ?_
      ·intro e22 hM K24 hK24;exact au
      ·intro x7 hM;(try dsimp only at hM);exact au
     ·have F:=nf F h21;refine S1 ?_;refine Zn hM (fun h27 hM=> ?_) (fun h27 hM=> ?_)
      ·have F:=nf F h27;refine mj (ι:=Bool) [] [] [] (fun i=>[(2,oB i)]) hM ?_ ?_
       ·intro e28 hM K30 hK30;exact au
       ·intro x9 hM;(try dsimp only at hM);exact au
      ·have F:=nf F h27;exact au
instance:HC 144 (Ty @Xn):=⟨Xn⟩
theorem UN (k:Nat) (a0:Ze) (a1:Int) (r:Int) (hM:Wl k a0 a1=some r):Ctr Tryz.prog 143 [.agg (Ze.c a0),.one (.int .i64 a1)] true [.one (.int .i64 r)]:=by
 unfold Wl at hM;refine Zr Tryz.func143 Tryz.ntmps143 Tryz.results143 fun N w0 hbad F=> ?_;refine S1 ?_;refine mjE (ι:=Unit) [] [] [] (fun i=>[]) hM ?_ ?_
 ·intro e1 hM hR1 K3 hK3;refine S1 ?_;refine Zc ?_;refine lp (ι:=Int) [1,2] [2] [] (fun i=>[(5,oI i)]) (fun n i=>Yc a0 a1 n i=some e1) k 0 hM (by simp [Yc]) ?_;intro KL4 nL4 x1 hL4 hM _;have hM:Yc a0 a1 (nL4+1) x1=some e1:=hM;rw [Yc] at hM;exact au
 ·intro _ hM;dsimp only at hM;exact au
instance:HC 143 (Ty @UN):=⟨UN⟩
theorem Wj (k:Nat) (a0:Ze) (r:Bool) (hM:Xm k a0=some r):Ctr Tryz.prog 113 [.agg (Ze.c a0)] true [.one (.bool r)]:=by
 unfold Xm at hM;refine Zr Tryz.func113 Tryz.ntmps113 Tryz.results113 fun N w0 hbad F=> ?_;refine S1 ?_;refine mjE (ι:=Unit) [1] [1] [] (fun i=>[]) hM ?_ ?_
 ·intro e1 hM hR1 K3 hK3;refine S1 ?_;refine Zc ?_;refine lp (ι:=Int) [1] [1] [] (fun i=>[(3,oI i)]) (fun n i=>Z3 k a0 n i=some e1) k 0 hM (by simp [Z3]) ?_;intro KL4 nL4 x1 hL4 hM _;have hM:Z3 k a0 (nL4+1) x1=some e1:=hM;rw [Z3] at hM;refine Zg fun K5 hK5=> ?_;refine S1 ?_;refine Zn hM (fun h6 hM=> ?_) (fun h6 hM=> ?_)
  ·have F:=ZtU (nf F h6) (lT h6);refine Zi ?_;refine hK5 _ ?_;refine Zg fun K7 hK7=> ?_;refine Zc ?_;refine mj (ι:=Bool) [1,3] [1] [] (fun i=>[(29,oB i)]) hM ?_ ?_
   ·intro e8 hM K10 hK10;obtain ⟨x3,e11,hM⟩:=bind_some hM;have F:=ZtU F (WY e11);obtain ⟨x4,e12,hM⟩:=bind_some hM;rcases ifM hM with ⟨h13,hM⟩| ⟨h13,hM⟩
    ·have F:=nf F h13;refine ZB 17 mixed (by kernel_rfl) (by kernel_rfl) ?_;simp [go_sem,F];refine Qt false (Xn k x3 x4 e12) ?_;simp [go_sem,F];exact au
    ·have F:=nf F h13;obtain ⟨x5,e14,hM⟩:=bind_some hM;refine ZB 17 mixed (by kernel_rfl) (by kernel_rfl) ?_;simp [go_sem,F];refine Qt false (Xn k x3 x4 e12) ?_;simp [go_sem,F];refine Qt false (UN k a0 x3.id x5 e14) ?_;simp [go_sem,F];exact au
   ·intro x2 hM;(try dsimp only at hM);exact au
  ·have F:=ZtU (nf F h6) (lF h6);exact au
 ·intro _ hM;dsimp only at hM;exact au
instance:HC 113 (Ty @Wj):=⟨Wj⟩
theorem Jo (a0:Int) (r:Bool) (hM:Vt a0=some r):Ctr Tryz.prog 336 [.one (.int .u8 a0)] true [.one (.bool r)]:=by
 unfold Vt at hM;refine Zr Tryz.func336 Tryz.ntmps336 Tryz.results336 fun N w0 hbad F=> ?_;refine S1 ?_;refine mj (ι:=Bool) [] [] [] (fun i=>[(2,oB i)]) hM ?_ ?_
 ·intro e1 hM K3 hK3;exact au
 ·intro x1 hM;(try dsimp only at hM);exact au
instance:HC 336 (Ty @Jo):=⟨Jo⟩
theorem J9 (a0:Int) (r:Bool) (hM:VX a0=some r):Ctr Tryz.prog 337 [.one (.int .u8 a0)] true [.one (.bool r)]:=by
 unfold VX at hM;refine Zr Tryz.func337 Tryz.ntmps337 Tryz.results337 fun N w0 hbad F=> ?_;refine S1 ?_;refine mj (ι:=Bool) [] [] [] (fun i=>[(2,oB i)]) hM ?_ ?_
 ·intro e1 hM K3 hK3;exact au
 ·intro x1 hM;(try dsimp only at hM);exact au
instance:HC 337 (Ty @J9):=⟨J9⟩
theorem Zal (k:Nat) (a0:Int) (r:ByteArray) (hM:UK k a0=some r):Ctr Tryz.prog 369 [.one (.int .i64 a0)] true [.one (.str r)]:=by
 unfold UK at hM;refine Zr Tryz.func369 Tryz.ntmps369 Tryz.results369 fun N w0 hbad F=> ?_;refine S1 ?_;refine Zg fun K1 hK1=> ?_;refine S1 ?_;refine Zn hM (fun h2 hM=> ?_) (fun h2 hM=> ?_)
 ·have F:=nf F h2;exact au
 ·have F:=nf F h2;refine Zi ?_;refine hK1 _ ?_;refine S1 ?_;refine S1 ?_;refine mj (ι:=ByteArray) [3] [] [] (fun i=>[(4,oS i)]) hM ?_ ?_
  ·intro e3 hM K5 hK5;refine Zc ?_;refine lp (ι:=Int×ByteArray) [3] [] [] (fun i=>[(0,oI i.1),(4,oS i.2)]) (fun n i=>ZI n i.1 i.2=some e3) k (a0,(⟨#[]⟩:ByteArray)) hM (by simp [ZI]) ?_;intro KL6 nL6 ⟨x2,x3⟩ hL6 hM _;have hM:ZI (nL6+1) x2 x3=some e3:=hM;rw [ZI] at hM;refine Zg fun K7 hK7=> ?_;refine S1 ?_;refine Zn hM (fun h8 hM=> ?_) (fun h8 hM=> ?_)
   ·have F:=nf F h8;refine Zi ?_;refine hK7 _ ?_;refine Zc ?_;refine S1 ?_;refine mj (ι:=Int) [0,3,4] [] [] (fun i=>[(5,oI i)]) hM ?_ ?_
    ·intro e9 hM K11 hK11;exact au
    ·intro x4 hM;(try dsimp only at hM);exact au
   ·have F:=nf F h8;exact au
  ·intro x1 hM;(try dsimp only at hM);exact au
instance:HC 369 (Ty @Zal):=⟨Zal⟩
theorem Zdh (k:Nat) (a0:ByteArray) (a1:Int) (r:Int×Bool) (hM:ZbV k a0 a1=some r):Ctr Tryz.prog 343 [.one (.str a0),.one (.int .i64 a1)] true [.one (.int .i64 r.1),.one (.bool r.2)]:=by
 unfold ZbV at hM;refine Zr Tryz.func343 Tryz.ntmps343 Tryz.results343 fun N w0 hbad F=> ?_;refine S1 ?_;refine mj (ι:=Bool) [0,1] [] [] (fun i=>[(6,oB i)]) hM ?_ ?_
 ·intro e1 hM K3 hK3;exact au
 ·intro x1 hM;(try dsimp only at hM);refine S1 ?_;refine mj (ι:=ByteArray) [0,1,6] [] [] (fun i=>[(7,oS i)]) hM ?_ ?_
  ·intro e6 hM K8 hK8;exact au
  ·intro x3 hM;(try dsimp only at hM);refine Zg fun K15 hK15=> ?_;refine mj (ι:=Bool) [0,6,7] [] [] (fun i=>[(30,oB i)]) hM ?_ ?_
   ·intro e16 hM K18 hK18;exact au
   ·intro x5 hM;(try dsimp only at hM);refine Zn hM (fun h20 hM=> ?_) (fun h20 hM=> ?_)
    ·have F:=nf F h20;exact au
    ·have F:=nf F h20;refine Zi ?_;refine hK15 _ ?_;refine S1 ?_;refine mjE (ι:=Int) [0,6] [] [] (fun i=>[(8,oI i)]) hM ?_ ?_
     ·intro e21 hM hR1 K23 hK23;refine S1 ?_;refine Zc ?_;refine lp (ι:=Int×Int) [0,6,7] [] [] (fun i=>[(8,oI i.1),(9,oI i.2)]) (fun n i=>XI x3 n i.1 i.2=some e21) k (0,0) hM (by simp [XI]) ?_;intro KL24 nL24 ⟨x7,x8⟩ hL24 hM _;have hM:XI x3 (nL24+1) x7 x8=some e21:=hM;rw [XI] at hM;refine Zg fun K25 hK25=> ?_;refine S1 ?_;refine Zn hM (fun h26 hM=> ?_) (fun h26 hM=> ?_)
      ·have F:=ZtU (nf F h26) (lT h26);refine Zi ?_;refine hK25 _ ?_;refine Zg fun K27 hK27=> ?_;refine Zc ?_;refine Zg fun K28 hK28=> ?_;refine mj (ι:=Bool) [0,6,7,8,9] [] [] (fun i=>[(46,oB i)]) hM ?_ ?_
       ·intro e29 hM K31 hK31;exact au
       ·intro x9 hM;(try dsimp only at hM);exact au
      ·have F:=ZtU (nf F h26) (lF h26);exact au
     ·intro x6 hM;dsimp only at hM;refine mj (ι:=Int) [0] [] [] (fun i=>[(8,oI i)]) hM ?_ ?_
      ·intro e36 hM K38 hK38;exact au
      ·intro x12 hM;(try dsimp only at hM);exact au
instance:HC 343 (Ty @Zdh):=⟨Zdh⟩
set_option maxHeartbeats 4000000
set_option maxRecDepth 100000
theorem VR (k:Nat) (a0:ByteArray) (r:Int×Bool) (hM:WC k a0=some r):Ctr Tryz.prog 290 [.one (.str a0)] true [.one (.int .i64 r.1),.one (.bool r.2)]:=by
 unfold WC at hM;refine Zr Tryz.func290 Tryz.ntmps290 Tryz.results290 fun N w0 hbad F=> ?_;exact au
instance:HC 290 (Ty @VR):=⟨VR⟩
theorem JF (k:Nat) (a0:ByteArray) (r:Bool) (hM:XL k a0=some r):Ctr Tryz.prog 292 [.one (.str a0)] true [.one (.bool r)]:=by
 unfold XL at hM;refine Zr Tryz.func292 Tryz.ntmps292 Tryz.results292 fun N w0 hbad F=> ?_;refine S1 ?_;refine mjE (ι:=Unit) [0] [] [] (fun i=>[]) hM ?_ ?_
 ·intro e1 hM hR1 K3 hK3;refine S1 ?_;refine Zc ?_;refine lp (ι:=Int) [0] [] [] (fun i=>[(3,oI i)]) (fun n i=>YV a0 n i=some e1) k 0 hM (by simp [YV]) ?_;intro KL4 nL4 x1 hL4 hM _;have hM:YV a0 (nL4+1) x1=some e1:=hM;rw [YV] at hM;refine Zg fun K5 hK5=> ?_;refine S1 ?_;refine Zn hM (fun h6 hM=> ?_) (fun h6 hM=> ?_)
  ·have F:=ZtU (nf F h6) (lT h6);refine Zi ?_;refine hK5 _ ?_;refine Zg fun K7 hK7=> ?_;refine Zc ?_;refine mj (ι:=Bool) [0,3] [] [] (fun i=>[(25,oB i)]) hM ?_ ?_
   ·intro e8 hM K10 hK10;exact au
   ·intro x2 hM;(try dsimp only at hM);exact au
  ·have F:=ZtU (nf F h6) (lF h6);exact au
 ·intro _ hM;dsimp only at hM;exact au
instance:HC 292 (Ty @JF):=⟨JF⟩
theorem Za1 (a0:ByteArray) (a1:Int) (r:Int) (hM:Ut a0 a1=some r):Ctr Tryz.prog 338 [.one (.str a0),.one (.int .i64 a1)] true [.one (.int .i64 r)]:=by
 unfold Ut at hM;refine Zr Tryz.func338 Tryz.ntmps338 Tryz.results338 fun N w0 hbad F=> ?_;refine S1 ?_;refine Zg fun K1 hK1=> ?_;obtain ⟨x1,e2,hM⟩:=bind_some hM;have F:=ZtU F (WY e2);refine S1 ?_;refine Zc ?_;refine mj (ι:=Bool) [0,1,7] [] [] (fun i=>[(8,oB i)]) hM ?_ ?_
 ·intro e3 hM K5 hK5;exact au
 ·intro x2 hM;(try dsimp only at hM);refine Zn hM (fun h14 hM=> ?_) (fun h14 hM=> ?_)
  ·have F:=nf F h14;exact au
  ·have F:=nf F h14;refine S1 ?_;refine Zn hM (fun h15 hM=> ?_) (fun h15 hM=> ?_)
   ·have F:=nf F h15;refine Zg fun K16 hK16=> ?_;refine mj (ι:=Bool) [] [] [] (fun i=>[(31,oB i)]) hM ?_ ?_
    ·intro e17 hM K19 hK19;exact au
    ·intro x3 hM;(try dsimp only at hM);exact au
   ·have F:=nf F h15;exact au
instance:HC 338 (Ty @Za1):=⟨Za1⟩
theorem KZ (k:Nat) (a0:ByteArray) (a1:Int) (r:Zh×Int) (hM:Xk k a0 a1=some r):Ctr Tryz.prog 285 [.one (.str a0),.one (.int .i64 a1)] true [.agg (Zh.c r.1),.one (.int .i64 r.2)]:=by
 unfold Xk at hM;refine Zr Tryz.func285 Tryz.ntmps285 Tryz.results285 fun N w0 hbad F=> ?_;refine S1 ?_;refine S1 ?_;refine S1 ?_;refine mjE (ι:=Int×Int×ByteArray×Int) [1,4,6] [4] [] (fun i=>[(7,oI i.2.2.2)]) hM ?_ ?_ (cb:=fun i=>[(6,[cI i.1,cI i.2.1,cI a1,cS i.2.2.1])])
 ·intro e1 hM hR1 K3 hK3;refine Zc ?_;obtain ⟨x5,e4,hM⟩:=bind_some hM;have F:=ZtU F (WY e4);obtain ⟨x6,e5,hM⟩:=bind_some hM;refine Zs fun K h=> ?_;simp [go_sem,F];refine Qt false (Jo (x5.toNat:Int) x6 e5) ?_;simp [go_sem,F];refine h _ ?_;refine Zn hM (fun h6 hM=> ?_) (fun h6 hM=> ?_)
  ·have F:=nf F h6;refine mj (ι:=Int) [0,1,4,6] [4,6] [] (fun i=>[(7,oI i)]) hM ?_ ?_
   ·intro e7 hM K9 hK9;refine Zc ?_;refine lp (ι:=Int) [0,1,4,6] [4,6] [] (fun i=>[(7,oI i)]) (fun n i=>Xg a0 n i=some e7) k a1 hM (by simp [Xg]) ?_;intro KL10 nL10 x8 hL10 hM _;have hM:Xg a0 (nL10+1) x8=some e7:=hM;rw [Xg] at hM;refine Zg fun K11 hK11=> ?_;refine mj (ι:=Bool) [0,1,4,6,7] [4,6] [] (fun i=>[(44,oB i)]) hM ?_ ?_
    ·intro e12 hM K14 hK14;exact au
    ·intro x9 hM;(try dsimp only at hM);exact au
   ·intro x7 hM;(try dsimp only at hM);exact au
  ·have F:=nf F h6;obtain ⟨x14,e27,hM⟩:=bind_some hM;refine Zs fun K h=> ?_;simp [go_sem,F];refine Qt false (J9 (x5.toNat:Int) x14 e27) ?_;simp [go_sem,F];refine h _ ?_;refine Zn hM (fun h28 hM=> ?_) (fun h28 hM=> ?_)
   ·have F:=nf F h28;refine mj (ι:=Int) [0,1,4,6] [4,6] [] (fun i=>[(7,oI i)]) hM ?_ ?_
    ·intro e29 hM K31 hK31;refine Zc ?_;refine lp (ι:=Int) [0,1,4,6] [4,6] [] (fun i=>[(7,oI i)]) (fun n i=>Xf a0 n i=some e29) k a1 hM (by simp [Xf]) ?_;intro KL32 nL32 x16 hL32 hM _;have hM:Xf a0 (nL32+1) x16=some e29:=hM;rw [Xf] at hM;refine Zg fun K33 hK33=> ?_;refine mj (ι:=Bool) [0,1,4,6,7] [4,6] [] (fun i=>[(72,oB i)]) hM ?_ ?_
     ·intro e34 hM K36 hK36;exact au
     ·intro x17 hM;(try dsimp only at hM);exact au
    ·intro x15 hM;(try dsimp only at hM);obtain ⟨x20,e41,hM⟩:=bind_some hM;obtain ⟨c42,s43⟩:=KW e41;replace c42:=c42.symm;subst c42;(try simp at s43);have F:=ZtU F s43;obtain ⟨x21,e46,hM⟩:=bind_some hM;refine Zs fun K h=> ?_;simp [go_sem,F];refine Qt false (VR k (a0.extract a1.toNat x15.toNat) x21 e46) ?_;simp [go_sem,F];refine h _ ?_;refine S1 ?_;refine S1 ?_;refine mj (ι:=Bool) [1,4,6,7] [4,6] [] (fun i=>[(91,oB i)]) hM ?_ ?_
     ·intro e47 hM K49 hK49;exact au
     ·intro x22 hM;(try dsimp only at hM);exact au
   ·have F:=nf F h28;refine S1 ?_;refine Zn hM (fun h52 hM=> ?_) (fun h52 hM=> ?_)
    ·have F:=nf F h52;refine S1 ?_;refine mj (ι:=Int) [0,1,4,6] [4,6] [] (fun i=>[(7,oI i)]) hM ?_ ?_
     ·intro e53 hM K55 hK55;refine Zc ?_;refine lp (ι:=Int) [0,1,4,6] [4,6] [] (fun i=>[(7,oI i)]) (fun n i=>Xe a0 n i=some e53) k (IntKind.i64.wrap (a1+1)) hM (by simp [Xe]) ?_;intro KL56 nL56 x24 hL56 hM _;have hM:Xe a0 (nL56+1) x24=some e53:=hM;rw [Xe] at hM;refine Zg fun K57 hK57=> ?_;refine mj (ι:=Bool) [0,1,4,6,7] [4,6] [] (fun i=>[(109,oB i)]) hM ?_ ?_
      ·intro e58 hM K60 hK60;exact au
      ·intro x25 hM;(try dsimp only at hM);exact au
     ·intro x23 hM;(try dsimp only at hM);refine S1 ?_;obtain ⟨x27,e64,hM⟩:=bind_some hM;obtain ⟨c65,s66⟩:=KW e64;replace c65:=c65.symm;subst c65;(try simp at s66);have F:=ZtU F s66;refine S1 ?_;refine Zg fun K69 hK69=> ?_;refine mj (ι:=Bool) [1,4,6,7] [4,6] [] (fun i=>[(128,oB i)]) hM ?_ ?_
      ·intro e70 hM K72 hK72;exact au
      ·intro x28 hM;(try dsimp only at hM);exact au
    ·have F:=nf F h52;exact au
 ·rintro ⟨x1,x2,x3,x4⟩ hM;dsimp only at hM;exact au
instance:HC 285 (Ty @KZ):=⟨KZ⟩
theorem Jr (k:Nat) (a0:ByteArray) (r:(List Zh)×Int) (hM:Vy k a0=some r):Ctr Tryz.prog 243 [.one (.str a0)] true [.one (.sl (r.1.map Zh.c)),.one (.int .i64 r.2)]:=by
 unfold Vy at hM;refine Zr Tryz.func243 Tryz.ntmps243 Tryz.results243 fun N w0 hbad F=> ?_;refine S1 ?_;refine Zg fun K1 hK1=> ?_;refine S1 ?_;refine Zn hM (fun h2 hM=> ?_) (fun h2 hM=> ?_)
 ·have F:=ZtU (nf F h2) (lT h2);exact au
 ·have F:=ZtU (nf F h2) (lF h2);refine Zi ?_;refine hK1 _ ?_;refine S1 ?_;refine S1 ?_;refine mjE (ι:=List Zh) [] [] [] (fun i=>[(4,oO 768 i.length)]) hM ?_ ?_ (ca:=fun i=>[(768,aT Zh.c i)])
  ·intro e3 hM hR1 K5 hK5;refine Zc ?_;refine lp (ι:=(List Zh)×Int) [0] [] [] (fun i=>[(4,oO 768 i.1.length),(5,oI i.2)]) (fun n i=>ZN k a0 n i.1 i.2=some e3) k (([]:List Zh),0) hM (by simp [ZN]) ?_ (ca:=fun i=>[(768,aT Zh.c i.1)]);intro KL6 nL6 ⟨x2,x3⟩ hL6 hM _;have hM:ZN k a0 (nL6+1) x2 x3=some e3:=hM;rw [ZN] at hM;refine Zg fun K7 hK7=> ?_;refine S1 ?_;refine Zn hM (fun h8 hM=> ?_) (fun h8 hM=> ?_)
   ·have F:=ZtU (nf F h8) (lT h8);refine Zi ?_;refine hK7 _ ?_;refine Zc ?_;refine Zg fun K9 hK9=> ?_;obtain ⟨x4,e10,hM⟩:=bind_some hM;have F:=ZtU F (WY e10);refine S1 ?_;refine Zn hM (fun h11 hM=> ?_) (fun h11 hM=> ?_)
    ·have F:=nf F h11;exact au
    ·have F:=nf F h11;refine Zi ?_;refine hK9 _ ?_;obtain ⟨x5,e12,hM⟩:=bind_some hM;refine Zs fun K h=> ?_;simp (maxSteps:=9999999) [go_sem,F];refine Qt false (KZ k a0 x3 x5 e12) ?_;simp (maxSteps:=9999999) [go_sem,F];refine h _ ?_;refine Zg fun K13 hK13=> ?_;refine mj (ι:=Bool) [0,4,5,6,7] [6] [768] (fun i=>[(35,oB i)]) hM ?_ ?_
     ·intro e14 hM K16 hK16;exact au
     ·intro x6 hM;(try dsimp only at hM);exact au
   ·have F:=ZtU (nf F h8) (lF h8);exact au
  ·intro x1 hM;dsimp only at hM;exact au
instance:HC 243 (Ty @Jr):=⟨Jr⟩
theorem XW (a0:Zh) (a1:ByteArray) (r:Bool) (hM:WD a0 a1=some r):Ctr Tryz.prog 339 [.agg (Zh.c a0),.one (.str a1)] true [.one (.bool r)]:=by
 unfold WD at hM;refine Zr Tryz.func339 Tryz.ntmps339 Tryz.results339 fun N w0 hbad F=> ?_;refine S1 ?_;refine mj (ι:=Bool) [] [] [] (fun i=>[(4,oB i)]) hM ?_ ?_
 ·intro e1 hM K3 hK3;exact au
 ·intro x1 hM;(try dsimp only at hM);exact au
instance:HC 339 (Ty @XW):=⟨XW⟩
theorem UI (a0:Zh) (a1:ByteArray) (r:Bool) (hM:UJ a0 a1=some r):Ctr Tryz.prog 340 [.agg (Zh.c a0),.one (.str a1)] true [.one (.bool r)]:=by
 unfold UJ at hM;refine Zr Tryz.func340 Tryz.ntmps340 Tryz.results340 fun N w0 hbad F=> ?_;refine S1 ?_;refine mj (ι:=Bool) [] [] [] (fun i=>[(4,oB i)]) hM ?_ ?_
 ·intro e1 hM K3 hK3;exact au
 ·intro x1 hM;(try dsimp only at hM);exact au
instance:HC 340 (Ty @UI):=⟨UI⟩
theorem Qu (a0:Zd) (a1:ByteArray) (r:Bool×Zd) (hM:Zp a0 a1=some r):Zbj Tryz.prog 286 [] (Zd.c a0) [.one (.str a1)] true [.one (.bool r.1)] (Zd.c r.2):=by
 unfold Zp at hM;refine Jy Tryz.func286 Tryz.ntmps286 Tryz.results286 fun N w0 hbad F=> ?_;refine S1 ?_;refine mj (ι:=Bool) [] [50] [] (fun i=>[(4,oB i)]) hM ?_ ?_
 ·intro e1 hM K3 hK3;rcases ifM hM with ⟨h4,hM⟩| ⟨h4,hM⟩
  ·have F:=ZtU (nf F h4) (lT h4);rcases ifM hM with ⟨h5,hM⟩| ⟨h5,hM⟩
   ·have F:=ZtU (nf F h5) (lT h5);obtain ⟨x2,e6,hM⟩:=bind_some hM;have F:=ZtU F (WY e6);obtain ⟨x3,e7,hM⟩:=bind_some hM;rcases ifM hM with ⟨h8,hM⟩| ⟨h8,hM⟩
    ·have F:=nf F h8;refine ZB 42 mixed (by kernel_rfl) (by kernel_rfl) ?_;simp [go_sem,F];refine Qt false (XW x2 a1 x3 e7) ?_;simp [go_sem,F];exact au
    ·have F:=nf F h8;obtain ⟨x4,e9,hM⟩:=bind_some hM;refine ZB 42 mixed (by kernel_rfl) (by kernel_rfl) ?_;simp [go_sem,F];refine Qt false (XW x2 a1 x3 e7) ?_;simp [go_sem,F];refine Qt false (UI x2 a1 x4 e9) ?_;simp [go_sem,F];exact au
   ·have F:=ZtU (nf F h5) (lF h5);refine ZB 42 mixed (by kernel_rfl) (by kernel_rfl) ?_;simp [go_sem,F];exact au
  ·have F:=ZtU (nf F h4) (lF h4);refine ZB 42 mixed (by kernel_rfl) (by kernel_rfl) ?_;simp [go_sem,F];exact au
 ·intro x1 hM;(try dsimp only at hM);exact au
instance:HC 286 (Ty @Qu):=⟨Qu⟩
theorem Ul (a0:Zd) (r:Za×Zd) (hM:Y1 a0=some r):Zbj Tryz.prog 245 [] (Zd.c a0) [] true [.agg (Za.c r.1)] (Zd.c r.2):=by
 unfold Y1 at hM;refine Jy Tryz.func245 Tryz.ntmps245 Tryz.results245 fun N w0 hbad F=> ?_;refine S1 ?_;refine mj (ι:=Int) [2] [2] [] (fun i=>[]) hM ?_ ?_ (cb:=fun i=>[(40,[cL Zh.c a0.toks,cI a0.i,cI a0.end_,cI i])])
 ·intro e1 hM K3 hK3;refine S1 ?_;refine Zn hM (fun h4 hM=> ?_) (fun h4 hM=> ?_)
  ·have F:=ZtU (nf F h4) (lT h4);refine S1 ?_;refine Zg fun K5 hK5=> ?_;refine ZB 9 mixed (by kernel_rfl) (by kernel_rfl) ?_;simp [go_sem,F];refine hK5 _ ?_;refine Zn hM (fun h6 hM=> ?_) (fun h6 hM=> ?_)
   ·have F:=ZtU (nf F h6) (lT h6);obtain ⟨x2,e7,hM⟩:=bind_some hM;have F:=ZtU F (WY e7);refine ZB 12 mixed (by kernel_rfl) (by kernel_rfl) ?_;simp [go_sem,F];exact au
   ·have F:=ZtU (nf F h6) (lF h6);exact au
  ·have F:=ZtU (nf F h4) (lF h4);exact au
 ·intro x1 hM;(try dsimp only at hM);exact au
instance:HC 245 (Ty @Ul):=⟨Ul⟩
theorem Uk (k:Nat) (a0:Zd) (r:ByteArray×Zd) (hM:XR k a0=some r):Zbj Tryz.prog 287 [] (Zd.c a0) [] true [.one (.str r.1)] (Zd.c r.2):=by
 unfold XR at hM;refine Jy Tryz.func287 Tryz.ntmps287 Tryz.results287 fun N w0 hbad F=> ?_;refine S1 ?_;refine Zg fun K1 hK1=> ?_;refine mj (ι:=Bool) [0] [71] [] (fun i=>[(48,oB i)]) hM ?_ ?_
 ·intro e2 hM K4 hK4;rcases ifM hM with ⟨h5,hM⟩| ⟨h5,hM⟩
  ·have F:=ZtU (nf F h5) (eT h5);refine ZB 40 mixed (by kernel_rfl) (by kernel_rfl) ?_;simp [go_sem,F];exact au
  ·have F:=ZtU (nf F h5) (eF h5);rcases ifM hM with ⟨h6,hM⟩| ⟨h6,hM⟩
   ·have F:=ZtU (nf F h6) (eT h6);refine ZB 40 mixed (by kernel_rfl) (by kernel_rfl) ?_;simp [go_sem,F];exact au
   ·have F:=ZtU (nf F h6) (eF h6);obtain ⟨x2,e7,hM⟩:=bind_some hM;have F:=ZtU F (WY e7);rcases ifM hM with ⟨h8,hM⟩| ⟨h8,hM⟩
    ·have F:=nf F h8;refine ZB 40 mixed (by kernel_rfl) (by kernel_rfl) ?_;simp [go_sem,F];exact au
    ·have F:=nf F h8;obtain ⟨x3,e9,hM⟩:=bind_some hM;refine ZB 40 mixed (by kernel_rfl) (by kernel_rfl) ?_;simp [go_sem,F];refine Qt false (VD k x2.text x3 e9) ?_;simp [go_sem,F];exact au
 ·intro x1 hM;(try dsimp only at hM);refine Zn hM (fun h10 hM=> ?_) (fun h10 hM=> ?_)
  ·have F:=nf F h10;exact au
  ·have F:=nf F h10;refine Zi ?_;refine hK1 _ ?_;refine S1 ?_;refine Zg fun K12 hK12=> ?_;obtain ⟨x5,e13,hM⟩:=bind_some hM;have F:=ZtU F (WY e13);refine ZB 9 mixed (by kernel_rfl) (by kernel_rfl) ?_;simp [go_sem,F];exact au
instance:HC 287 (Ty @Uk):=⟨Uk⟩
theorem Y5 (a0:Zd) (a1:ByteArray) (r:Zd) (hM:Zx a0 a1=some r):Zbj Tryz.prog 288 [] (Zd.c a0) [.one (.str a1)] true [] (Zd.c r):=by
 unfold Zx at hM;refine Jy Tryz.func288 Tryz.ntmps288 Tryz.results288 fun N w0 hbad F=> ?_;exact au
instance:HC 288 (Ty @Y5):=⟨Y5⟩
theorem Zaf (a0:Int) (r:Za) (hM:ZbX a0=some r):Ctr Tryz.prog 410 [.one (.int .i64 a0)] true [.agg (Za.c r)]:=by
 unfold ZbX at hM;refine Zr Tryz.func410 Tryz.ntmps410 Tryz.results410 fun N w0 hbad F=> ?_;exact au
instance:HC 410 (Ty @Zaf):=⟨Zaf⟩
theorem Ke (a0:ByteArray) (r:Za) (hM:Zag a0=some r):Ctr Tryz.prog 411 [.one (.str a0)] true [.agg (Za.c r)]:=by
 unfold Zag at hM;refine Zr Tryz.func411 Tryz.ntmps411 Tryz.results411 fun N w0 hbad F=> ?_;exact au
instance:HC 411 (Ty @Ke):=⟨Ke⟩
theorem UO (a0:ByteArray) (r:Int) (hM:Z9 a0=some r):Ctr Tryz.prog 296 [.one (.str a0)] true [.one (.int .i64 r)]:=by
 unfold Z9 at hM;refine Zr Tryz.func296 Tryz.ntmps296 Tryz.results296 fun N w0 hbad F=> ?_;refine S1 ?_;refine Zg fun K1 hK1=> ?_;refine S1 ?_;refine Zc ?_;refine S1 ?_;refine Zn hM (fun h2 hM=> ?_) (fun h2 hM=> ?_)
 ·have F:=nf F h2;exact au
 ·have F:=nf F h2;refine mj (ι:=Bool) [3] [] [] (fun i=>[(6,oB i)]) hM ?_ ?_
  ·intro e3 hM K5 hK5;exact au
  ·intro x1 hM;(try dsimp only at hM);refine Zn hM (fun h10 hM=> ?_) (fun h10 hM=> ?_)
   ·have F:=nf F h10;exact au
   ·have F:=nf F h10;refine mj (ι:=Bool) [3] [] [] (fun i=>[(12,oB i)]) hM ?_ ?_
    ·intro e11 hM K13 hK13;exact au
    ·intro x2 hM;(try dsimp only at hM);refine Zn hM (fun h20 hM=> ?_) (fun h20 hM=> ?_)
     ·have F:=nf F h20;exact au
     ·have F:=nf F h20;refine mj (ι:=Bool) [3] [] [] (fun i=>[(20,oB i)]) hM ?_ ?_
      ·intro e21 hM K23 hK23;exact au
      ·intro x3 hM;(try dsimp only at hM);exact au
instance:HC 296 (Ty @UO):=⟨UO⟩
end Go.Proofs.YtlbjjjhamfbhaaaGreatDoor
