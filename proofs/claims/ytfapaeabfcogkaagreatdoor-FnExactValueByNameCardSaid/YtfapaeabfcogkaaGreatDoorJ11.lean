import Derived.Test.YtfapaeabfcogkaaGreatDoorJ6
set_option linter.unusedSimpArgs false
set_option linter.unusedVariables false
namespace Go.Proofs.YtfapaeabfcogkaaGreatDoor
open Go.RowKit Am
set_option maxHeartbeats 4000000
set_option maxRecDepth 100000
theorem Zf4 (a0:Int) (a1:Int) (a2:Int) (r:Bool) (hM:KH a0 a1 a2=some r):Ctr Tryz.prog 116 [.one (.int .i64 a0),.one (.int .i64 a1),.one (.int .i64 a2)] true [.one (.bool r)]:=by
 unfold KH at hM
 refine Zr Tryz.func116 Tryz.ntmps116 Tryz.results116 fun N w0 hbad F=> ?_
 refine S1 ?_;refine mj (ι:=Bool) [] [] [] (fun i=>[(6,oB i)]) hM ?_ ?_
 ·intro e1 hM K3 hK3;exact au
 ·intro x1 hM;(try dsimp only at hM);exact au
instance:HC 116 (Ty @Zf4):=⟨Zf4⟩
theorem JT (k:Nat) (a0:ByteArray) (r:Bool) (hM:XD k a0=some r):Ctr Tryz.prog 194 [.one (.str a0)] true [.one (.bool r)]:=by
 unfold XD at hM
 refine Zr Tryz.func194 Tryz.ntmps194 Tryz.results194 fun N w0 hbad F=> ?_
 refine S1 ?_;refine mjE (ι:=Unit) [0] [] [] (fun i=>[]) hM ?_ ?_
 ·intro e1 hM hR1 K3 hK3;refine S1 ?_;refine Zg ?_;refine lp (ι:=Int) [0] [] [] (fun i=>[(3,oI i)]) (fun n i=>Ya a0 n i=some e1) k 0 hM (by simp [Ya]) ?_;intro KL4 nL4 x1 hL4 hM _;have hM:Ya a0 (nL4+1) x1=some e1:=hM;rw [Ya] at hM;refine Zh fun K5 hK5=> ?_;refine S1 ?_;refine Zp hM (fun h6 hM=> ?_) (fun h6 hM=> ?_)
  ·have F:=And.intro (nf F h6) (lT h6);refine Zl ?_;refine hK5 _ ?_;refine Zh fun K7 hK7=> ?_;refine Zg ?_;refine mj (ι:=Bool) [0,3] [] [] (fun i=>[(19,oB i)]) hM ?_ ?_
   ·intro e8 hM K10 hK10;exact au
   ·intro x2 hM;(try dsimp only at hM);exact au
  ·have F:=And.intro (nf F h6) (lF h6);exact au
 ·intro _ hM;dsimp only at hM;exact au
instance:HC 194 (Ty @JT):=⟨JT⟩
theorem Zcw (k:Nat) (a0:ByteArray) (r:Bool) (hM:Zav k a0=some r):Ctr Tryz.prog 247 [.one (.str a0)] true [.one (.bool r)]:=by
 unfold Zav at hM
 refine Zr Tryz.func247 Tryz.ntmps247 Tryz.results247 fun N w0 hbad F=> ?_
 refine S1 ?_;refine mjE (ι:=Unit) [0] [] [] (fun i=>[]) hM ?_ ?_
 ·intro e1 hM hR1 K3 hK3;refine S1 ?_;refine Zg ?_;refine lp (ι:=Int) [0] [] [] (fun i=>[(3,oI i)]) (fun n i=>Xs a0 n i=some e1) k 0 hM (by simp [Xs]) ?_;intro KL4 nL4 x1 hL4 hM _;have hM:Xs a0 (nL4+1) x1=some e1:=hM;rw [Xs] at hM;refine Zh fun K5 hK5=> ?_;refine S1 ?_;refine Zp hM (fun h6 hM=> ?_) (fun h6 hM=> ?_)
  ·have F:=And.intro (nf F h6) (lT h6);refine Zl ?_;refine hK5 _ ?_;refine Zh fun K7 hK7=> ?_;refine Zg ?_;refine mj (ι:=Bool) [0,3] [] [] (fun i=>[(4,oB i)]) hM ?_ ?_
   ·intro e8 hM K10 hK10;exact au
   ·intro x2 hM;(try dsimp only at hM);refine mj (ι:=Bool) [0,3,4] [] [] (fun i=>[(5,oB i)]) hM ?_ ?_
    ·intro e13 hM K15 hK15;exact au
    ·intro x4 hM;(try dsimp only at hM);refine mj (ι:=Bool) [0,3] [] [] (fun i=>[(41,oB i)]) hM ?_ ?_
     ·intro e18 hM K20 hK20;exact au
     ·intro x6 hM;(try dsimp only at hM);exact au
  ·have F:=And.intro (nf F h6) (lF h6);exact au
 ·intro _ hM;dsimp only at hM;exact au
instance:HC 247 (Ty @Zcw):=⟨Zcw⟩
theorem KG (r:List ByteArray) (hM:QM=some r):Ctr Tryz.prog 296 [] true [.one (.sl (r.map sC))]:=by
 unfold QM at hM
 refine Zr Tryz.func296 Tryz.ntmps296 Tryz.results296 fun N w0 hbad F=> ?_
 exact au
instance:HC 296 (Ty @KG):=⟨KG⟩
theorem ZbM (k:Nat) (a0:List ByteArray) (a1:ByteArray) (r:Bool) (hM:Zaw k a0 a1=some r):Ctr Tryz.prog 76 [.one (.sl (a0.map sC)),.one (.str a1)] true [.one (.bool r)]:=by
 unfold Zaw at hM
 refine Zr Tryz.func76 Tryz.ntmps76 Tryz.results76 fun N w0 hbad F=> ?_
 refine S1 ?_;refine mjE (ι:=Unit) [] [] [] (fun i=>[]) hM ?_ ?_
 ·intro e1 hM hR1 K3 hK3;refine S1 ?_;refine Zg ?_;refine lp (ι:=Int) [0,1] [] [] (fun i=>[(5,oI i)]) (fun n i=>XL a0 a1 n i=some e1) k 0 hM (by simp [XL]) ?_;intro KL4 nL4 x1 hL4 hM _;have hM:XL a0 a1 (nL4+1) x1=some e1:=hM;rw [XL] at hM;exact au
 ·intro _ hM;dsimp only at hM;exact au
instance:HC 76 (Ty @ZbM):=⟨ZbM⟩
theorem KK (k:Nat) (a0:ByteArray) (r:Bool) (hM:VZ k a0=some r):Ctr Tryz.prog 248 [.one (.str a0)] true [.one (.bool r)]:=by
 unfold VZ at hM
 refine Zr Tryz.func248 Tryz.ntmps248 Tryz.results248 fun N w0 hbad F=> ?_
 exact au
instance:HC 248 (Ty @KK):=⟨KK⟩
theorem VH (k:Nat) (a0:ByteArray) (r:Bool) (hM:Z0 k a0=some r):Ctr Tryz.prog 195 [.one (.str a0)] true [.one (.bool r)]:=by
 unfold Z0 at hM
 refine Zr Tryz.func195 Tryz.ntmps195 Tryz.results195 fun N w0 hbad F=> ?_
 refine S1 ?_;refine mj (ι:=Bool) [] [] [] (fun i=>[(2,oB i)]) hM ?_ ?_
 ·intro e1 hM K3 hK3;exact au
 ·intro x1 hM;(try dsimp only at hM);exact au
instance:HC 195 (Ty @VH):=⟨VH⟩
theorem Xe (k:Nat) (a0:Zj) (r:Bool) (hM:Qh k a0=some r):Ctr Tryz.prog 137 [.agg (Zj.c a0)] true [.one (.bool r)]:=by
 unfold Qh at hM
 refine Zr Tryz.func137 Tryz.ntmps137 Tryz.results137 fun N w0 hbad F=> ?_
 refine S1 ?_;refine Zh fun K1 hK1=> ?_;refine mj (ι:=Bool) [1] [1] [] (fun i=>[(18,oB i)]) hM ?_ ?_
 ·intro e2 hM K4 hK4;exact au
 ·intro x1 hM;(try dsimp only at hM);refine Zp hM (fun h10 hM=> ?_) (fun h10 hM=> ?_)
  ·have F:=nf F h10;exact au
  ·have F:=nf F h10;refine Zl ?_;refine hK1 _ ?_;refine Zh fun K11 hK11=> ?_;refine S1 ?_;refine Zg ?_;refine S1 ?_;refine Zp hM (fun h12 hM=> ?_) (fun h12 hM=> ?_)
   ·have F:=nf F h12;refine mj (ι:=Bool) [] [] [] (fun i=>[(2,oB i)]) hM ?_ ?_
    ·intro e13 hM K15 hK15;exact au
    ·intro x5 hM;(try dsimp only at hM);exact au
   ·have F:=nf F h12;refine mj (ι:=Bool) [1,20] [1] [] (fun i=>[(31,oB i)]) hM ?_ ?_
    ·intro e17 hM K19 hK19;exact au
    ·intro x6 hM;(try dsimp only at hM);refine Zp hM (fun h21 hM=> ?_) (fun h21 hM=> ?_)
     ·have F:=nf F h21;refine mj (ι:=Bool) [] [] [] (fun i=>[(2,oB i)]) hM ?_ ?_
      ·intro e22 hM K24 hK24;exact au
      ·intro x7 hM;(try dsimp only at hM);exact au
     ·have F:=nf F h21;refine S1 ?_;refine Zp hM (fun h27 hM=> ?_) (fun h27 hM=> ?_)
      ·have F:=nf F h27;refine mj (ι:=Bool) [] [] [] (fun i=>[(2,oB i)]) hM ?_ ?_
       ·intro e28 hM K30 hK30;exact au
       ·intro x9 hM;(try dsimp only at hM);exact au
      ·have F:=nf F h27;exact au
instance:HC 137 (Ty @Xe):=⟨Xe⟩
theorem UR (k:Nat) (a0:Ze) (a1:Int) (r:Int) (hM:Wd k a0 a1=some r):Ctr Tryz.prog 136 [.agg (Ze.c a0),.one (.int .i64 a1)] true [.one (.int .i64 r)]:=by
 unfold Wd at hM
 refine Zr Tryz.func136 Tryz.ntmps136 Tryz.results136 fun N w0 hbad F=> ?_
 refine S1 ?_;refine mjE (ι:=Unit) [] [] [] (fun i=>[]) hM ?_ ?_
 ·intro e1 hM hR1 K3 hK3;refine S1 ?_;refine Zg ?_;refine lp (ι:=Int) [1,2] [2] [] (fun i=>[(5,oI i)]) (fun n i=>Yb a0 a1 n i=some e1) k 0 hM (by simp [Yb]) ?_;intro KL4 nL4 x1 hL4 hM _;have hM:Yb a0 a1 (nL4+1) x1=some e1:=hM;rw [Yb] at hM;exact au
 ·intro _ hM;dsimp only at hM;exact au
instance:HC 136 (Ty @UR):=⟨UR⟩
theorem Wb (k:Nat) (a0:Ze) (r:Bool) (hM:Xd k a0=some r):Ctr Tryz.prog 100 [.agg (Ze.c a0)] true [.one (.bool r)]:=by
 unfold Xd at hM
 refine Zr Tryz.func100 Tryz.ntmps100 Tryz.results100 fun N w0 hbad F=> ?_
 refine S1 ?_;refine mjE (ι:=Unit) [1] [1] [] (fun i=>[]) hM ?_ ?_
 ·intro e1 hM hR1 K3 hK3;refine S1 ?_;refine Zg ?_;refine lp (ι:=Int) [1] [1] [] (fun i=>[(3,oI i)]) (fun n i=>Z4 k a0 n i=some e1) k 0 hM (by simp [Z4]) ?_;intro KL4 nL4 x1 hL4 hM _;have hM:Z4 k a0 (nL4+1) x1=some e1:=hM;rw [Z4] at hM;refine Zh fun K5 hK5=> ?_;refine S1 ?_;refine Zp hM (fun h6 hM=> ?_) (fun h6 hM=> ?_)
  ·have F:=And.intro (nf F h6) (lT h6);refine Zl ?_;refine hK5 _ ?_;refine Zh fun K7 hK7=> ?_;refine Zg ?_;refine mj (ι:=Bool) [1,3] [1] [] (fun i=>[(29,oB i)]) hM ?_ ?_
   ·intro e8 hM K10 hK10;obtain ⟨x3,e11,hM⟩:=bind_some hM;have F:=And.intro F (Vs e11);obtain ⟨x4,e12,hM⟩:=bind_some hM;rcases ifM hM with ⟨h13,hM⟩| ⟨h13,hM⟩
    ·have F:=nf F h13;refine ZD 17 mixed (by kernel_rfl) (by kernel_rfl) ?_;simp [go_sem,F];refine Qb false (Xe k x3 x4 e12) ?_;simp [go_sem,F];exact au
    ·have F:=nf F h13;obtain ⟨x5,e14,hM⟩:=bind_some hM;refine ZD 17 mixed (by kernel_rfl) (by kernel_rfl) ?_;simp [go_sem,F];refine Qb false (Xe k x3 x4 e12) ?_;simp [go_sem,F];refine Qb false (UR k a0 x3.id x5 e14) ?_;simp [go_sem,F];exact au
   ·intro x2 hM;(try dsimp only at hM);exact au
  ·have F:=And.intro (nf F h6) (lF h6);exact au
 ·intro _ hM;dsimp only at hM;exact au
instance:HC 100 (Ty @Wb):=⟨Wb⟩
theorem JA (a0:Int) (r:Bool) (hM:Vy a0=some r):Ctr Tryz.prog 303 [.one (.int .u8 a0)] true [.one (.bool r)]:=by
 unfold Vy at hM
 refine Zr Tryz.func303 Tryz.ntmps303 Tryz.results303 fun N w0 hbad F=> ?_
 refine S1 ?_;refine mj (ι:=Bool) [] [] [] (fun i=>[(2,oB i)]) hM ?_ ?_
 ·intro e1 hM K3 hK3;exact au
 ·intro x1 hM;(try dsimp only at hM);exact au
instance:HC 303 (Ty @JA):=⟨JA⟩
theorem Kj (a0:Int) (r:Bool) (hM:VY a0=some r):Ctr Tryz.prog 304 [.one (.int .u8 a0)] true [.one (.bool r)]:=by
 unfold VY at hM
 refine Zr Tryz.func304 Tryz.ntmps304 Tryz.results304 fun N w0 hbad F=> ?_
 refine S1 ?_;refine mj (ι:=Bool) [] [] [] (fun i=>[(2,oB i)]) hM ?_ ?_
 ·intro e1 hM K3 hK3;exact au
 ·intro x1 hM;(try dsimp only at hM);exact au
instance:HC 304 (Ty @Kj):=⟨Kj⟩
theorem ZaB (k:Nat) (a0:Int) (r:ByteArray) (hM:UO k a0=some r):Ctr Tryz.prog 334 [.one (.int .i64 a0)] true [.one (.str r)]:=by
 unfold UO at hM
 refine Zr Tryz.func334 Tryz.ntmps334 Tryz.results334 fun N w0 hbad F=> ?_
 refine S1 ?_;refine Zh fun K1 hK1=> ?_;refine S1 ?_;refine Zp hM (fun h2 hM=> ?_) (fun h2 hM=> ?_)
 ·have F:=nf F h2;exact au
 ·have F:=nf F h2;refine Zl ?_;refine hK1 _ ?_;refine S1 ?_;refine S1 ?_;refine mj (ι:=ByteArray) [3] [] [] (fun i=>[(4,oS i)]) hM ?_ ?_
  ·intro e3 hM K5 hK5;refine Zg ?_;refine lp (ι:=Int×ByteArray) [3] [] [] (fun i=>[(0,oI i.1),(4,oS i.2)]) (fun n i=>ZQ n i.1 i.2=some e3) k (a0,(⟨#[]⟩:ByteArray)) hM (by simp [ZQ]) ?_;intro KL6 nL6 ⟨x2,x3⟩ hL6 hM _;have hM:ZQ (nL6+1) x2 x3=some e3:=hM;rw [ZQ] at hM;refine Zh fun K7 hK7=> ?_;refine S1 ?_;refine Zp hM (fun h8 hM=> ?_) (fun h8 hM=> ?_)
   ·have F:=nf F h8;refine Zl ?_;refine hK7 _ ?_;refine Zg ?_;refine S1 ?_;refine mj (ι:=Int) [0,3,4] [] [] (fun i=>[(5,oI i)]) hM ?_ ?_
    ·intro e9 hM K11 hK11;exact au
    ·intro x4 hM;(try dsimp only at hM);exact au
   ·have F:=nf F h8;exact au
  ·intro x1 hM;(try dsimp only at hM);exact au
instance:HC 334 (Ty @ZaB):=⟨ZaB⟩
theorem ZdR (k:Nat) (a0:ByteArray) (a1:Int) (r:Int×Bool) (hM:Zcx k a0 a1=some r):Ctr Tryz.prog 310 [.one (.str a0),.one (.int .i64 a1)] true [.one (.int .i64 r.1),.one (.bool r.2)]:=by
 unfold Zcx at hM
 refine Zr Tryz.func310 Tryz.ntmps310 Tryz.results310 fun N w0 hbad F=> ?_
 refine S1 ?_;refine mj (ι:=Bool) [0,1] [] [] (fun i=>[(6,oB i)]) hM ?_ ?_
 ·intro e1 hM K3 hK3;exact au
 ·intro x1 hM;(try dsimp only at hM);refine S1 ?_;refine mj (ι:=ByteArray) [0,1,6] [] [] (fun i=>[(7,oS i)]) hM ?_ ?_
  ·intro e6 hM K8 hK8;exact au
  ·intro x3 hM;(try dsimp only at hM);refine Zh fun K15 hK15=> ?_;refine mj (ι:=Bool) [0,6,7] [] [] (fun i=>[(30,oB i)]) hM ?_ ?_
   ·intro e16 hM K18 hK18;exact au
   ·intro x5 hM;(try dsimp only at hM);refine Zp hM (fun h20 hM=> ?_) (fun h20 hM=> ?_)
    ·have F:=nf F h20;exact au
    ·have F:=nf F h20;refine Zl ?_;refine hK15 _ ?_;refine S1 ?_;refine mjE (ι:=Int) [0,6] [] [] (fun i=>[(8,oI i)]) hM ?_ ?_
     ·intro e21 hM hR1 K23 hK23;refine S1 ?_;refine Zg ?_;refine lp (ι:=Int×Int) [0,6,7] [] [] (fun i=>[(8,oI i.1),(9,oI i.2)]) (fun n i=>XA x3 n i.1 i.2=some e21) k (0,0) hM (by simp [XA]) ?_;intro KL24 nL24 ⟨x7,x8⟩ hL24 hM _;have hM:XA x3 (nL24+1) x7 x8=some e21:=hM;rw [XA] at hM;refine Zh fun K25 hK25=> ?_;refine S1 ?_
      refine Zp hM (fun h26 hM=> ?_) (fun h26 hM=> ?_)
      ·have F:=And.intro (nf F h26) (lT h26);refine Zl ?_;refine hK25 _ ?_;refine Zh fun K27 hK27=> ?_;refine Zg ?_;refine Zh fun K28 hK28=> ?_;refine mj (ι:=Bool) [0,6,7,8,9] [] [] (fun i=>[(46,oB i)]) hM ?_ ?_
       ·intro e29 hM K31 hK31;exact au
       ·intro x9 hM;(try dsimp only at hM);exact au
      ·have F:=And.intro (nf F h26) (lF h26);exact au
     ·intro x6 hM;dsimp only at hM;refine mj (ι:=Int) [0] [] [] (fun i=>[(8,oI i)]) hM ?_ ?_
      ·intro e36 hM K38 hK38;exact au
      ·intro x12 hM;(try dsimp only at hM);exact au
instance:HC 310 (Ty @ZdR):=⟨ZdR⟩
end Go.Proofs.YtfapaeabfcogkaaGreatDoor
namespace Go.Proofs.YtfapaeabfcogkaaGreatDoor
open Go.RowKit Am
set_option maxHeartbeats 4000000
set_option maxRecDepth 100000
theorem VU (k:Nat) (a0:ByteArray) (r:Int×Bool) (hM:Wz k a0=some r):Ctr Tryz.prog 259 [.one (.str a0)] true [.one (.int .i64 r.1),.one (.bool r.2)]:=by
 unfold Wz at hM
 refine Zr Tryz.func259 Tryz.ntmps259 Tryz.results259 fun N w0 hbad F=> ?_
 exact au
instance:HC 259 (Ty @VU):=⟨VU⟩
theorem JR (k:Nat) (a0:ByteArray) (r:Bool) (hM:XC k a0=some r):Ctr Tryz.prog 261 [.one (.str a0)] true [.one (.bool r)]:=by
 unfold XC at hM
 refine Zr Tryz.func261 Tryz.ntmps261 Tryz.results261 fun N w0 hbad F=> ?_
 refine S1 ?_;refine mjE (ι:=Unit) [0] [] [] (fun i=>[]) hM ?_ ?_
 ·intro e1 hM hR1 K3 hK3;refine S1 ?_;refine Zg ?_;refine lp (ι:=Int) [0] [] [] (fun i=>[(3,oI i)]) (fun n i=>YN a0 n i=some e1) k 0 hM (by simp [YN]) ?_;intro KL4 nL4 x1 hL4 hM _;have hM:YN a0 (nL4+1) x1=some e1:=hM;rw [YN] at hM;refine Zh fun K5 hK5=> ?_;refine S1 ?_;refine Zp hM (fun h6 hM=> ?_) (fun h6 hM=> ?_)
  ·have F:=And.intro (nf F h6) (lT h6);refine Zl ?_;refine hK5 _ ?_;refine Zh fun K7 hK7=> ?_;refine Zg ?_;refine mj (ι:=Bool) [0,3] [] [] (fun i=>[(25,oB i)]) hM ?_ ?_
   ·intro e8 hM K10 hK10;exact au
   ·intro x2 hM;(try dsimp only at hM);exact au
  ·have F:=And.intro (nf F h6) (lF h6);exact au
 ·intro _ hM;dsimp only at hM;exact au
instance:HC 261 (Ty @JR):=⟨JR⟩
theorem Zbs (a0:ByteArray) (a1:Int) (r:Int) (hM:Us a0 a1=some r):Ctr Tryz.prog 305 [.one (.str a0),.one (.int .i64 a1)] true [.one (.int .i64 r)]:=by
 unfold Us at hM
 refine Zr Tryz.func305 Tryz.ntmps305 Tryz.results305 fun N w0 hbad F=> ?_
 refine S1 ?_;refine Zh fun K1 hK1=> ?_;obtain ⟨x1,e2,hM⟩:=bind_some hM;have F:=And.intro F (Vs e2);refine S1 ?_;refine Zg ?_;refine mj (ι:=Bool) [0,1,7] [] [] (fun i=>[(8,oB i)]) hM ?_ ?_
 ·intro e3 hM K5 hK5;exact au
 ·intro x2 hM;(try dsimp only at hM);refine Zp hM (fun h14 hM=> ?_) (fun h14 hM=> ?_)
  ·have F:=nf F h14;exact au
  ·have F:=nf F h14;refine S1 ?_;refine Zp hM (fun h15 hM=> ?_) (fun h15 hM=> ?_)
   ·have F:=nf F h15;refine Zh fun K16 hK16=> ?_;refine mj (ι:=Bool) [] [] [] (fun i=>[(31,oB i)]) hM ?_ ?_
    ·intro e17 hM K19 hK19;exact au
    ·intro x3 hM;(try dsimp only at hM);exact au
   ·have F:=nf F h15;exact au
instance:HC 305 (Ty @Zbs):=⟨Zbs⟩
theorem Zar (k:Nat) (a0:ByteArray) (a1:Int) (r:Zi×Int) (hM:Q9 k a0 a1=some r):Ctr Tryz.prog 254 [.one (.str a0),.one (.int .i64 a1)] true [.agg (Zi.c r.1),.one (.int .i64 r.2)]:=by
 unfold Q9 at hM
 refine Zr Tryz.func254 Tryz.ntmps254 Tryz.results254 fun N w0 hbad F=> ?_
 refine S1 ?_;refine S1 ?_;refine S1 ?_;refine mjE (ι:=Int×Int×ByteArray×Int) [1,4,6] [4] [] (fun i=>[(7,oI i.2.2.2)]) hM ?_ ?_ (cb:=fun i=>[(6,[cI i.1,cI i.2.1,cI a1,cS i.2.2.1])])
 ·intro e1 hM hR1 K3 hK3;refine Zg ?_;obtain ⟨x5,e4,hM⟩:=bind_some hM;have F:=And.intro F (Vs e4);obtain ⟨x6,e5,hM⟩:=bind_some hM;refine Zw fun K h=> ?_;simp [go_sem,F];refine Qb false (JA (x5.toNat:Int) x6 e5) ?_;simp [go_sem,F];refine h _ ?_;refine Zp hM (fun h6 hM=> ?_) (fun h6 hM=> ?_)
  ·have F:=nf F h6;refine mj (ι:=Int) [0,1,4,6] [4,6] [] (fun i=>[(7,oI i)]) hM ?_ ?_
   ·intro e7 hM K9 hK9;refine Zg ?_;refine lp (ι:=Int) [0,1,4,6] [4,6] [] (fun i=>[(7,oI i)]) (fun n i=>Q7 a0 n i=some e7) k a1 hM (by simp [Q7]) ?_;intro KL10 nL10 x8 hL10 hM _;have hM:Q7 a0 (nL10+1) x8=some e7:=hM;rw [Q7] at hM;refine Zh fun K11 hK11=> ?_;refine mj (ι:=Bool) [0,1,4,6,7] [4,6] [] (fun i=>[(44,oB i)]) hM ?_ ?_
    ·intro e12 hM K14 hK14;exact au
    ·intro x9 hM;(try dsimp only at hM);exact au
   ·intro x7 hM;(try dsimp only at hM);exact au
  ·have F:=nf F h6;obtain ⟨x14,e27,hM⟩:=bind_some hM;refine Zw fun K h=> ?_;simp [go_sem,F];refine Qb false (Kj (x5.toNat:Int) x14 e27) ?_;simp [go_sem,F];refine h _ ?_;refine Zp hM (fun h28 hM=> ?_) (fun h28 hM=> ?_)
   ·have F:=nf F h28;refine mj (ι:=Int) [0,1,4,6] [4,6] [] (fun i=>[(7,oI i)]) hM ?_ ?_
    ·intro e29 hM K31 hK31;refine Zg ?_;refine lp (ι:=Int) [0,1,4,6] [4,6] [] (fun i=>[(7,oI i)]) (fun n i=>Q3 a0 n i=some e29) k a1 hM (by simp [Q3]) ?_;intro KL32 nL32 x16 hL32 hM _;have hM:Q3 a0 (nL32+1) x16=some e29:=hM;rw [Q3] at hM;refine Zh fun K33 hK33=> ?_;refine mj (ι:=Bool) [0,1,4,6,7] [4,6] [] (fun i=>[(72,oB i)]) hM ?_ ?_
     ·intro e34 hM K36 hK36;exact au
     ·intro x17 hM;(try dsimp only at hM);exact au
    ·intro x15 hM;(try dsimp only at hM);obtain ⟨x20,e41,hM⟩:=bind_some hM;obtain ⟨c42,s43⟩:=Zao e41;replace c42:=c42.symm;subst c42;(try simp at s43);have F:=And.intro F s43;obtain ⟨x21,e46,hM⟩:=bind_some hM;refine Zw fun K h=> ?_;simp [go_sem,F];refine Qb false (VU k (a0.extract a1.toNat x15.toNat) x21 e46) ?_;simp [go_sem,F];refine h _ ?_
     refine S1 ?_;refine S1 ?_;refine mj (ι:=Bool) [1,4,6,7] [4,6] [] (fun i=>[(91,oB i)]) hM ?_ ?_
     ·intro e47 hM K49 hK49;exact au
     ·intro x22 hM;(try dsimp only at hM);exact au
   ·have F:=nf F h28;refine S1 ?_;refine Zp hM (fun h52 hM=> ?_) (fun h52 hM=> ?_)
    ·have F:=nf F h52;refine S1 ?_;refine mj (ι:=Int) [0,1,4,6] [4,6] [] (fun i=>[(7,oI i)]) hM ?_ ?_
     ·intro e53 hM K55 hK55;refine Zg ?_;refine lp (ι:=Int) [0,1,4,6] [4,6] [] (fun i=>[(7,oI i)]) (fun n i=>Q2 a0 n i=some e53) k (IntKind.i64.wrap (a1+1)) hM (by simp [Q2]) ?_;intro KL56 nL56 x24 hL56 hM _;have hM:Q2 a0 (nL56+1) x24=some e53:=hM;rw [Q2] at hM;refine Zh fun K57 hK57=> ?_;refine mj (ι:=Bool) [0,1,4,6,7] [4,6] [] (fun i=>[(109,oB i)]) hM ?_ ?_
      ·intro e58 hM K60 hK60;exact au
      ·intro x25 hM;(try dsimp only at hM);exact au
     ·intro x23 hM;(try dsimp only at hM);refine S1 ?_;obtain ⟨x27,e64,hM⟩:=bind_some hM;obtain ⟨c65,s66⟩:=Zao e64;replace c65:=c65.symm;subst c65;(try simp at s66);have F:=And.intro F s66;refine S1 ?_;refine Zh fun K69 hK69=> ?_;refine mj (ι:=Bool) [1,4,6,7] [4,6] [] (fun i=>[(128,oB i)]) hM ?_ ?_
      ·intro e70 hM K72 hK72;exact au
      ·intro x28 hM;(try dsimp only at hM);exact au
    ·have F:=nf F h52;exact au
 ·rintro ⟨x1,x2,x3,x4⟩ hM;dsimp only at hM;exact au
instance:HC 254 (Ty @Zar):=⟨Zar⟩
theorem JC (k:Nat) (a0:ByteArray) (r:(List Zi)×Int) (hM:VD k a0=some r):Ctr Tryz.prog 221 [.one (.str a0)] true [.one (.sl (r.1.map Zi.c)),.one (.int .i64 r.2)]:=by
 unfold VD at hM
 refine Zr Tryz.func221 Tryz.ntmps221 Tryz.results221 fun N w0 hbad F=> ?_
 refine S1 ?_;refine Zh fun K1 hK1=> ?_;refine S1 ?_;refine Zp hM (fun h2 hM=> ?_) (fun h2 hM=> ?_)
 ·have F:=And.intro (nf F h2) (lT h2);exact au
 ·have F:=And.intro (nf F h2) (lF h2);refine Zl ?_;refine hK1 _ ?_;refine S1 ?_;refine S1 ?_;refine mjE (ι:=List Zi) [] [] [] (fun i=>[(4,oO 768 i.length)]) hM ?_ ?_ (ca:=fun i=>[(768,aT Zi.c i)])
  ·intro e3 hM hR1 K5 hK5;refine Zg ?_;refine lp (ι:=(List Zi)×Int) [0] [] [] (fun i=>[(4,oO 768 i.1.length),(5,oI i.2)]) (fun n i=>ZW k a0 n i.1 i.2=some e3) k (([]:List Zi),0) hM (by simp [ZW]) ?_ (ca:=fun i=>[(768,aT Zi.c i.1)]);intro KL6 nL6 ⟨x2,x3⟩ hL6 hM _;have hM:ZW k a0 (nL6+1) x2 x3=some e3:=hM;rw [ZW] at hM
   refine Zh fun K7 hK7=> ?_;refine S1 ?_;refine Zp hM (fun h8 hM=> ?_) (fun h8 hM=> ?_)
   ·have F:=And.intro (nf F h8) (lT h8);refine Zl ?_;refine hK7 _ ?_;refine Zg ?_;refine Zh fun K9 hK9=> ?_;obtain ⟨x4,e10,hM⟩:=bind_some hM;have F:=And.intro F (Vs e10);refine S1 ?_;refine Zp hM (fun h11 hM=> ?_) (fun h11 hM=> ?_)
    ·have F:=nf F h11;exact au
    ·have F:=nf F h11;refine Zl ?_;refine hK9 _ ?_;obtain ⟨x5,e12,hM⟩:=bind_some hM;refine Zw fun K h=> ?_;simp (maxSteps:=9999999) [go_sem,F];refine Qb false (Zar k a0 x3 x5 e12) ?_;simp (maxSteps:=9999999) [go_sem,F];refine h _ ?_;refine Zh fun K13 hK13=> ?_;refine mj (ι:=Bool) [0,4,5,6,7] [6] [768] (fun i=>[(35,oB i)]) hM ?_ ?_
     ·intro e14 hM K16 hK16;exact au
     ·intro x6 hM;(try dsimp only at hM);exact au
   ·have F:=And.intro (nf F h8) (lF h8);exact au
  ·intro x1 hM;dsimp only at hM;exact au
instance:HC 221 (Ty @JC):=⟨JC⟩
theorem XM (a0:Zi) (a1:ByteArray) (r:Bool) (hM:WB a0 a1=some r):Ctr Tryz.prog 306 [.agg (Zi.c a0),.one (.str a1)] true [.one (.bool r)]:=by
 unfold WB at hM
 refine Zr Tryz.func306 Tryz.ntmps306 Tryz.results306 fun N w0 hbad F=> ?_
 refine S1 ?_;refine mj (ι:=Bool) [] [] [] (fun i=>[(4,oB i)]) hM ?_ ?_
 ·intro e1 hM K3 hK3;exact au
 ·intro x1 hM;(try dsimp only at hM);exact au
instance:HC 306 (Ty @XM):=⟨XM⟩
theorem UM (a0:Zi) (a1:ByteArray) (r:Bool) (hM:UN a0 a1=some r):Ctr Tryz.prog 307 [.agg (Zi.c a0),.one (.str a1)] true [.one (.bool r)]:=by
 unfold UN at hM
 refine Zr Tryz.func307 Tryz.ntmps307 Tryz.results307 fun N w0 hbad F=> ?_
 refine S1 ?_;refine mj (ι:=Bool) [] [] [] (fun i=>[(4,oB i)]) hM ?_ ?_
 ·intro e1 hM K3 hK3;exact au
 ·intro x1 hM;(try dsimp only at hM);exact au
instance:HC 307 (Ty @UM):=⟨UM⟩
theorem Qg (a0:Zd) (a1:ByteArray) (r:Bool×Zd) (hM:Zt a0 a1=some r):Kd Tryz.prog 255 [] (Zd.c a0) [.one (.str a1)] true [.one (.bool r.1)] (Zd.c r.2):=by
 unfold Zt at hM
 refine JL Tryz.func255 Tryz.ntmps255 Tryz.results255 fun N w0 hbad F=> ?_
 refine S1 ?_;refine mj (ι:=Bool) [] [50] [] (fun i=>[(4,oB i)]) hM ?_ ?_
 ·intro e1 hM K3 hK3;rcases ifM hM with ⟨h4,hM⟩| ⟨h4,hM⟩
  ·have F:=And.intro (nf F h4) (lT h4);rcases ifM hM with ⟨h5,hM⟩| ⟨h5,hM⟩
   ·have F:=And.intro (nf F h5) (lT h5);obtain ⟨x2,e6,hM⟩:=bind_some hM;have F:=And.intro F (Vs e6);obtain ⟨x3,e7,hM⟩:=bind_some hM;rcases ifM hM with ⟨h8,hM⟩| ⟨h8,hM⟩
    ·have F:=nf F h8;refine ZD 42 mixed (by kernel_rfl) (by kernel_rfl) ?_;simp [go_sem,F];refine Qb false (XM x2 a1 x3 e7) ?_;simp [go_sem,F];exact au
    ·have F:=nf F h8;obtain ⟨x4,e9,hM⟩:=bind_some hM;refine ZD 42 mixed (by kernel_rfl) (by kernel_rfl) ?_;simp [go_sem,F];refine Qb false (XM x2 a1 x3 e7) ?_;simp [go_sem,F];refine Qb false (UM x2 a1 x4 e9) ?_;simp [go_sem,F];exact au
   ·have F:=And.intro (nf F h5) (lF h5);refine ZD 42 mixed (by kernel_rfl) (by kernel_rfl) ?_;simp [go_sem,F];exact au
  ·have F:=And.intro (nf F h4) (lF h4);refine ZD 42 mixed (by kernel_rfl) (by kernel_rfl) ?_;simp [go_sem,F];exact au
 ·intro x1 hM;(try dsimp only at hM);exact au
instance:HC 255 (Ty @Qg):=⟨Qg⟩
theorem Ul (a0:Zd) (r:Zb×Zd) (hM:YR a0=some r):Kd Tryz.prog 223 [] (Zd.c a0) [] true [.agg (Zb.c r.1)] (Zd.c r.2):=by
 unfold YR at hM
 refine JL Tryz.func223 Tryz.ntmps223 Tryz.results223 fun N w0 hbad F=> ?_
 refine S1 ?_;refine mj (ι:=Int) [2] [2] [] (fun i=>[]) hM ?_ ?_ (cb:=fun i=>[(40,[cL Zi.c a0.toks,cI a0.i,cI a0.end_,cI i])])
 ·intro e1 hM K3 hK3;refine S1 ?_;refine Zp hM (fun h4 hM=> ?_) (fun h4 hM=> ?_)
  ·have F:=And.intro (nf F h4) (lT h4);refine S1 ?_;refine Zh fun K5 hK5=> ?_;refine ZD 9 mixed (by kernel_rfl) (by kernel_rfl) ?_;simp [go_sem,F];refine hK5 _ ?_;refine Zp hM (fun h6 hM=> ?_) (fun h6 hM=> ?_)
   ·have F:=And.intro (nf F h6) (lT h6);obtain ⟨x2,e7,hM⟩:=bind_some hM;have F:=And.intro F (Vs e7);refine ZD 12 mixed (by kernel_rfl) (by kernel_rfl) ?_;simp [go_sem,F];exact au
   ·have F:=And.intro (nf F h6) (lF h6);exact au
  ·have F:=And.intro (nf F h4) (lF h4);exact au
 ·intro x1 hM;(try dsimp only at hM);exact au
instance:HC 223 (Ty @Ul):=⟨Ul⟩
theorem Uk (k:Nat) (a0:Zd) (r:ByteArray×Zd) (hM:XJ k a0=some r):Kd Tryz.prog 256 [] (Zd.c a0) [] true [.one (.str r.1)] (Zd.c r.2):=by
 unfold XJ at hM
 refine JL Tryz.func256 Tryz.ntmps256 Tryz.results256 fun N w0 hbad F=> ?_
 refine S1 ?_;refine Zh fun K1 hK1=> ?_;refine mj (ι:=Bool) [0] [71] [] (fun i=>[(48,oB i)]) hM ?_ ?_
 ·intro e2 hM K4 hK4;rcases ifM hM with ⟨h5,hM⟩| ⟨h5,hM⟩
  ·have F:=And.intro (nf F h5) (eT h5);refine ZD 40 mixed (by kernel_rfl) (by kernel_rfl) ?_;simp [go_sem,F];exact au
  ·have F:=And.intro (nf F h5) (eF h5);rcases ifM hM with ⟨h6,hM⟩| ⟨h6,hM⟩
   ·have F:=And.intro (nf F h6) (eT h6);refine ZD 40 mixed (by kernel_rfl) (by kernel_rfl) ?_;simp [go_sem,F];exact au
   ·have F:=And.intro (nf F h6) (eF h6);obtain ⟨x2,e7,hM⟩:=bind_some hM;have F:=And.intro F (Vs e7);rcases ifM hM with ⟨h8,hM⟩| ⟨h8,hM⟩
    ·have F:=nf F h8;refine ZD 40 mixed (by kernel_rfl) (by kernel_rfl) ?_;simp [go_sem,F];exact au
    ·have F:=nf F h8;obtain ⟨x3,e9,hM⟩:=bind_some hM;refine ZD 40 mixed (by kernel_rfl) (by kernel_rfl) ?_;simp [go_sem,F];refine Qb false (VH k x2.text x3 e9) ?_;simp [go_sem,F];exact au
 ·intro x1 hM;(try dsimp only at hM);refine Zp hM (fun h10 hM=> ?_) (fun h10 hM=> ?_)
  ·have F:=nf F h10;exact au
  ·have F:=nf F h10;refine Zl ?_;refine hK1 _ ?_;refine S1 ?_;refine Zh fun K12 hK12=> ?_;obtain ⟨x5,e13,hM⟩:=bind_some hM;have F:=And.intro F (Vs e13);refine ZD 9 mixed (by kernel_rfl) (by kernel_rfl) ?_;simp [go_sem,F];exact au
instance:HC 256 (Ty @Uk):=⟨Uk⟩
theorem YU (a0:Zd) (a1:ByteArray) (r:Zd) (hM:ZC a0 a1=some r):Kd Tryz.prog 257 [] (Zd.c a0) [.one (.str a1)] true [] (Zd.c r):=by
 unfold ZC at hM
 refine JL Tryz.func257 Tryz.ntmps257 Tryz.results257 fun N w0 hbad F=> ?_
 exact au
instance:HC 257 (Ty @YU):=⟨YU⟩
theorem Zax (a0:Int) (r:Zb) (hM:ZcA a0=some r):Ctr Tryz.prog 373 [.one (.int .i64 a0)] true [.agg (Zb.c r)]:=by
 unfold ZcA at hM
 refine Zr Tryz.func373 Tryz.ntmps373 Tryz.results373 fun N w0 hbad F=> ?_
 exact au
instance:HC 373 (Ty @Zax):=⟨Zax⟩
theorem Kn (a0:ByteArray) (r:Zb) (hM:Zay a0=some r):Ctr Tryz.prog 374 [.one (.str a0)] true [.agg (Zb.c r)]:=by
 unfold Zay at hM
 refine Zr Tryz.func374 Tryz.ntmps374 Tryz.results374 fun N w0 hbad F=> ?_
 exact au
instance:HC 374 (Ty @Kn):=⟨Kn⟩
theorem US (a0:ByteArray) (r:Int) (hM:Z8 a0=some r):Ctr Tryz.prog 283 [.one (.str a0)] true [.one (.int .i64 r)]:=by
 unfold Z8 at hM
 refine Zr Tryz.func283 Tryz.ntmps283 Tryz.results283 fun N w0 hbad F=> ?_
 refine S1 ?_;refine Zh fun K1 hK1=> ?_;refine S1 ?_;refine Zg ?_;refine S1 ?_;refine Zp hM (fun h2 hM=> ?_) (fun h2 hM=> ?_)
 ·have F:=nf F h2;exact au
 ·have F:=nf F h2;refine mj (ι:=Bool) [3] [] [] (fun i=>[(6,oB i)]) hM ?_ ?_
  ·intro e3 hM K5 hK5;exact au
  ·intro x1 hM;(try dsimp only at hM);refine Zp hM (fun h10 hM=> ?_) (fun h10 hM=> ?_)
   ·have F:=nf F h10;exact au
   ·have F:=nf F h10;refine mj (ι:=Bool) [3] [] [] (fun i=>[(12,oB i)]) hM ?_ ?_
    ·intro e11 hM K13 hK13;exact au
    ·intro x2 hM;(try dsimp only at hM);refine Zp hM (fun h20 hM=> ?_) (fun h20 hM=> ?_)
     ·have F:=nf F h20;exact au
     ·have F:=nf F h20;refine mj (ι:=Bool) [3] [] [] (fun i=>[(20,oB i)]) hM ?_ ?_
      ·intro e21 hM K23 hK23;exact au
      ·intro x3 hM;(try dsimp only at hM);exact au
instance:HC 283 (Ty @US):=⟨US⟩
end Go.Proofs.YtfapaeabfcogkaaGreatDoor
