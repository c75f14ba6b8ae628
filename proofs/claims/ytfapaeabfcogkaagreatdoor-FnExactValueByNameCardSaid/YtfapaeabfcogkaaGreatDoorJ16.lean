import Derived.Test.YtfapaeabfcogkaaGreatDoorJ6
import Derived.Test.YtfapaeabfcogkaaGreatDoorJ7
import Derived.Test.YtfapaeabfcogkaaGreatDoorJ8
set_option linter.unusedSimpArgs false
set_option linter.unusedVariables false
namespace Go.Proofs.YtfapaeabfcogkaaGreatDoor
open Go.RowKit Am
set_option maxHeartbeats 4000000
set_option maxRecDepth 100000
theorem ZdM (a0:Zj) (a1:Int) (r:Int) (hM:Jf a0 a1=some r):Ctr Tryz.prog 72 [.agg (Zj.c a0),.one (.int .i64 a1)] true [.one (.int .i64 r)]:=by
 unfold Jf at hM
 refine Zr Tryz.func72 Tryz.ntmps72 Tryz.results72 fun N w0 hbad F=> ?_
 exact au
instance:HC 72 (Ty @ZdM):=⟨ZdM⟩
theorem Zcl (k:Nat) (a0:List Zj) (a1:Int) (r:Int) (hM:Zac k a0 a1=some r):Ctr Tryz.prog 35 [.one (.sl (a0.map Zj.c)),.one (.int .i64 a1)] true [.one (.int .i64 r)]:=by
 unfold Zac at hM
 refine Zr Tryz.func35 Tryz.ntmps35 Tryz.results35 fun N w0 hbad F=> ?_
 refine S1 ?_;refine S1 ?_;refine Zh fun K1 hK1=> ?_;refine S1 ?_;refine Zp hM (fun h2 hM=> ?_) (fun h2 hM=> ?_)
 ·have F:=And.intro (nf F h2) (lT h2);exact au
 ·have F:=And.intro (nf F h2) (lF h2);refine Zl ?_;refine hK1 _ ?_;refine mjE (ι:=Int) [] [] [] (fun i=>[(1,oI i)]) hM ?_ ?_
  ·intro e3 hM hR1 K5 hK5;refine S1 ?_;refine Zg ?_;refine lp (ι:=Int×Int) [0] [] [] (fun i=>[(1,oI i.1),(5,oI i.2)]) (fun n i=>Xo a0 n i.1 i.2=some e3) k ((IntKind.i64.wrap (a1-(a0.length:Int))),0) hM (by simp [Xo]) ?_;intro KL6 nL6 ⟨x2,x3⟩ hL6 hM _;have hM:Xo a0 (nL6+1) x2 x3=some e3:=hM;rw [Xo] at hM;exact au
  ·intro x1 hM;dsimp only at hM;exact au
instance:HC 35 (Ty @Zcl):=⟨Zcl⟩
theorem V9 (k:Nat) (a0:Ze) (a1:Int) (r:Int) (hM:WZ k a0 a1=some r):Ctr Tryz.prog 7 [.agg (Ze.c a0),.one (.int .i64 a1)] true [.one (.int .i64 r)]:=by
 unfold WZ at hM
 refine Zr Tryz.func7 Tryz.ntmps7 Tryz.results7 fun N w0 hbad F=> ?_
 exact au
instance:HC 7 (Ty @V9):=⟨V9⟩
theorem K0 (k:Nat) (a0:List ByteArray) (a1:Int) (r:Int) (hM:Uz k a0 a1=some r):Ctr Tryz.prog 156 [.one (.sl (a0.map sC)),.one (.int .i64 a1)] true [.one (.int .i64 r)]:=by
 unfold Uz at hM
 refine Zr Tryz.func156 Tryz.ntmps156 Tryz.results156 fun N w0 hbad F=> ?_
 refine S1 ?_;refine S1 ?_;refine Zh fun K1 hK1=> ?_;refine S1 ?_;refine Zp hM (fun h2 hM=> ?_) (fun h2 hM=> ?_)
 ·have F:=And.intro (nf F h2) (lT h2);exact au
 ·have F:=And.intro (nf F h2) (lF h2);refine Zl ?_;refine hK1 _ ?_;refine mjE (ι:=Int) [] [] [] (fun i=>[(1,oI i)]) hM ?_ ?_
  ·intro e3 hM hR1 K5 hK5;refine S1 ?_;refine Zg ?_;refine lp (ι:=Int×Int) [0] [] [] (fun i=>[(1,oI i.1),(5,oI i.2)]) (fun n i=>Ql a0 n i.1 i.2=some e3) k ((IntKind.i64.wrap (a1-(a0.length:Int))),0) hM (by simp [Ql]) ?_;intro KL6 nL6 ⟨x2,x3⟩ hL6 hM _;have hM:Ql a0 (nL6+1) x2 x3=some e3:=hM;rw [Ql] at hM;exact au
  ·intro x1 hM;dsimp only at hM;exact au
instance:HC 156 (Ty @K0):=⟨K0⟩
theorem ZdJ (a0:List Int) (a1:Int) (r:Int) (hM:ZaX a0 a1=some r):Ctr Tryz.prog 193 [.one (.sl (a0.map iC)),.one (.int .i64 a1)] true [.one (.int .i64 r)]:=by
 unfold ZaX at hM
 refine Zr Tryz.func193 Tryz.ntmps193 Tryz.results193 fun N w0 hbad F=> ?_
 exact au
instance:HC 193 (Ty @ZdJ):=⟨ZdJ⟩
theorem Zab (a0:List Zc) (a1:Int) (r:Int) (hM:UA a0 a1=some r):Ctr Tryz.prog 253 [.one (.sl (a0.map Zc.c)),.one (.int .i64 a1)] true [.one (.int .i64 r)]:=by
 unfold UA at hM
 refine Zr Tryz.func253 Tryz.ntmps253 Tryz.results253 fun N w0 hbad F=> ?_
 exact au
instance:HC 253 (Ty @Zab):=⟨Zab⟩
theorem Zez (a0:Zq) (a1:Int) (r:Int) (hM:ZbG a0 a1=some r):Ctr Tryz.prog 219 [.agg (Zq.c a0),.one (.int .i64 a1)] true [.one (.int .i64 r)]:=by
 unfold ZbG at hM
 refine Zr Tryz.func219 Tryz.ntmps219 Tryz.results219 fun N w0 hbad F=> ?_
 exact au
instance:HC 219 (Ty @Zez):=⟨Zez⟩
theorem ZdH (k:Nat) (a0:List Zq) (a1:Int) (r:Int) (hM:Zch k a0 a1=some r):Ctr Tryz.prog 157 [.one (.sl (a0.map Zq.c)),.one (.int .i64 a1)] true [.one (.int .i64 r)]:=by
 unfold Zch at hM
 refine Zr Tryz.func157 Tryz.ntmps157 Tryz.results157 fun N w0 hbad F=> ?_
 refine S1 ?_;refine S1 ?_;refine Zh fun K1 hK1=> ?_;refine S1 ?_;refine Zp hM (fun h2 hM=> ?_) (fun h2 hM=> ?_)
 ·have F:=And.intro (nf F h2) (lT h2);exact au
 ·have F:=And.intro (nf F h2) (lF h2);refine Zl ?_;refine hK1 _ ?_;refine mjE (ι:=Int) [] [] [] (fun i=>[(1,oI i)]) hM ?_ ?_
  ·intro e3 hM hR1 K5 hK5;refine S1 ?_;refine Zg ?_;refine lp (ι:=Int×Int) [0] [] [] (fun i=>[(1,oI i.1),(5,oI i.2)]) (fun n i=>XZ a0 n i.1 i.2=some e3) k ((IntKind.i64.wrap (a1-(a0.length:Int))),0) hM (by simp [XZ]) ?_;intro KL6 nL6 ⟨x2,x3⟩ hL6 hM _;have hM:XZ a0 (nL6+1) x2 x3=some e3:=hM;rw [XZ] at hM;exact au
  ·intro x1 hM;dsimp only at hM;exact au
instance:HC 157 (Ty @ZdH):=⟨ZdH⟩
theorem Zcf:∀(k:Nat),(∀(a0:Za) (a1:Int) (r:Int) (hM:Qw k a0 a1=some r),Ctr Tryz.prog 95 [.agg (Za.c a0),.one (.int .i64 a1)] true [.one (.int .i64 r)])∧
  (∀(a0:List Za) (a1:Int) (r:Int) (hM:Ws k a0 a1=some r),Ctr Tryz.prog 36 [.one (.sl (a0.map Za.c)),.one (.int .i64 a1)] true [.one (.int .i64 r)]):=by
 intro k
 induction k with
 | zero=>exact ⟨by intro a0 a1 r hM;simp [Qw] at hM,by intro a0 a1 r hM;simp [Ws] at hM⟩
 | succ k ih=>
  obtain ⟨ih_w_szValue,ih_w_szValueS⟩:=ih
  refine ⟨?_, ?_⟩
  ·intro a0 a1 r hM
   haveI:HC 95 _:=⟨ih_w_szValue⟩;haveI:HC 36 _:=⟨ih_w_szValueS⟩;rw [Qw] at hM
   refine Zr Tryz.func95 Tryz.ntmps95 Tryz.results95 fun N w0 hbad F=> ?_
   exact au
  ·intro a0 a1 r hM
   haveI:HC 95 _:=⟨ih_w_szValue⟩;haveI:HC 36 _:=⟨ih_w_szValueS⟩;rw [Ws] at hM
   refine Zr Tryz.func36 Tryz.ntmps36 Tryz.results36 fun N w0 hbad F=> ?_
   refine S1 ?_;refine S1 ?_;refine Zh fun K1 hK1=> ?_;refine S1 ?_;refine Zp hM (fun h2 hM=> ?_) (fun h2 hM=> ?_)
   ·have F:=And.intro (nf F h2) (lT h2);exact au
   ·have F:=And.intro (nf F h2) (lF h2);refine Zl ?_;refine hK1 _ ?_;refine mjE (ι:=Int) [] [] [] (fun i=>[(1,oI i)]) hM ?_ ?_
    ·intro e3 hM hR1 K5 hK5;refine S1 ?_;refine Zg ?_;refine lp (ι:=Int×Int) [0] [] [] (fun i=>[(1,oI i.1),(5,oI i.2)]) (fun n i=>QJ (Qw k) a0 n i.1 i.2=some e3) k ((IntKind.i64.wrap (a1-(a0.length:Int))),0) hM (by simp [QJ]) ?_;intro KL6 nL6 ⟨x2,x3⟩ hL6 hM _;have hM:QJ (Qw k) a0 (nL6+1) x2 x3=some e3:=hM;rw [QJ] at hM
     exact au
    ·intro x1 hM;dsimp only at hM;exact au
theorem Zce (k:Nat):∀(a0:Za) (a1:Int) (r:Int) (hM:Qw k a0 a1=some r),Ctr Tryz.prog 95 [.agg (Za.c a0),.one (.int .i64 a1)] true [.one (.int .i64 r)]:=(Zcf k).1
instance:HC 95 (Ty @Zce):=⟨Zce⟩
theorem Zbm (k:Nat):∀(a0:List Za) (a1:Int) (r:Int) (hM:Ws k a0 a1=some r),Ctr Tryz.prog 36 [.one (.sl (a0.map Za.c)),.one (.int .i64 a1)] true [.one (.int .i64 r)]:=(Zcf k).2
instance:HC 36 (Ty @Zbm):=⟨Zbm⟩
theorem ZdI (k:Nat) (a0:Zo) (a1:Int) (r:Int) (hM:ZaW k a0 a1=some r):Ctr Tryz.prog 220 [.agg (Zo.c a0),.one (.int .i64 a1)] true [.one (.int .i64 r)]:=by
 unfold ZaW at hM
 refine Zr Tryz.func220 Tryz.ntmps220 Tryz.results220 fun N w0 hbad F=> ?_
 exact au
instance:HC 220 (Ty @ZdI):=⟨ZdI⟩
theorem Zci (k:Nat) (a0:List Zo) (a1:Int) (r:Int) (hM:Zaa k a0 a1=some r):Ctr Tryz.prog 158 [.one (.sl (a0.map Zo.c)),.one (.int .i64 a1)] true [.one (.int .i64 r)]:=by
 unfold Zaa at hM
 refine Zr Tryz.func158 Tryz.ntmps158 Tryz.results158 fun N w0 hbad F=> ?_
 refine S1 ?_;refine S1 ?_;refine Zh fun K1 hK1=> ?_;refine S1 ?_;refine Zp hM (fun h2 hM=> ?_) (fun h2 hM=> ?_)
 ·have F:=And.intro (nf F h2) (lT h2);exact au
 ·have F:=And.intro (nf F h2) (lF h2);refine Zl ?_;refine hK1 _ ?_;refine mjE (ι:=Int) [] [] [] (fun i=>[(1,oI i)]) hM ?_ ?_
  ·intro e3 hM hR1 K5 hK5;refine S1 ?_;refine Zg ?_;refine lp (ι:=Int×Int) [0] [] [] (fun i=>[(1,oI i.1),(5,oI i.2)]) (fun n i=>Xn k a0 n i.1 i.2=some e3) k ((IntKind.i64.wrap (a1-(a0.length:Int))),0) hM (by simp [Xn]) ?_;intro KL6 nL6 ⟨x2,x3⟩ hL6 hM _;have hM:Xn k a0 (nL6+1) x2 x3=some e3:=hM;rw [Xn] at hM;exact au
  ·intro x1 hM;dsimp only at hM;exact au
instance:HC 158 (Ty @Zci):=⟨Zci⟩
theorem ZdG (k:Nat) (a0:Zn) (a1:Int) (r:Int) (hM:ZaV k a0 a1=some r):Ctr Tryz.prog 96 [.agg (Zn.c a0),.one (.int .i64 a1)] true [.one (.int .i64 r)]:=by
 unfold ZaV at hM
 refine Zr Tryz.func96 Tryz.ntmps96 Tryz.results96 fun N w0 hbad F=> ?_
 exact au
instance:HC 96 (Ty @ZdG):=⟨ZdG⟩
theorem Zcg (k:Nat) (a0:List Zn) (a1:Int) (r:Int) (hM:JM k a0 a1=some r):Ctr Tryz.prog 37 [.one (.sl (a0.map Zn.c)),.one (.int .i64 a1)] true [.one (.int .i64 r)]:=by
 unfold JM at hM
 refine Zr Tryz.func37 Tryz.ntmps37 Tryz.results37 fun N w0 hbad F=> ?_
 refine S1 ?_;refine S1 ?_;refine Zh fun K1 hK1=> ?_;refine S1 ?_;refine Zp hM (fun h2 hM=> ?_) (fun h2 hM=> ?_)
 ·have F:=And.intro (nf F h2) (lT h2);exact au
 ·have F:=And.intro (nf F h2) (lF h2);refine Zl ?_;refine hK1 _ ?_;refine mjE (ι:=Int) [] [] [] (fun i=>[(1,oI i)]) hM ?_ ?_
  ·intro e3 hM hR1 K5 hK5;refine S1 ?_;refine Zg ?_;refine lp (ι:=Int×Int) [0] [] [] (fun i=>[(1,oI i.1),(5,oI i.2)]) (fun n i=>Xm k a0 n i.1 i.2=some e3) k ((IntKind.i64.wrap (a1-(a0.length:Int))),0) hM (by simp [Xm]) ?_;intro KL6 nL6 ⟨x2,x3⟩ hL6 hM _;have hM:Xm k a0 (nL6+1) x2 x3=some e3:=hM;rw [Xm] at hM;exact au
  ·intro x1 hM;dsimp only at hM;exact au
instance:HC 37 (Ty @Zcg):=⟨Zcg⟩
end Go.Proofs.YtfapaeabfcogkaaGreatDoor
namespace Go.Proofs.YtfapaeabfcogkaaGreatDoor
open Go.RowKit Am
set_option maxHeartbeats 4000000
set_option maxRecDepth 100000
theorem ZbF (k:Nat) (a0:Qf) (a1:Int) (r:Int) (hM:Zey k a0 a1=some r):Ctr Tryz.prog 8 [.agg (Qf.c a0),.one (.int .i64 a1)] true [.one (.int .i64 r)]:=by
 unfold Zey at hM
 refine Zr Tryz.func8 Tryz.ntmps8 Tryz.results8 fun N w0 hbad F=> ?_
 exact au
instance:HC 8 (Ty @ZbF):=⟨ZbF⟩
theorem ZdF (a0:Zj) (r:Zj) (hM:Kf a0=some r):Ctr Tryz.prog 81 [.agg (Zj.c a0)] true [.agg (Zj.c r)]:=by
 unfold Kf at hM
 refine Zr Tryz.func81 Tryz.ntmps81 Tryz.results81 fun N w0 hbad F=> ?_
 exact au
instance:HC 81 (Ty @ZdF):=⟨ZdF⟩
theorem Zcb (k:Nat) (a0:List Zj) (r:List Zj) (hM:KZ k a0=some r):Ctr Tryz.prog 40 [.one (.sl (a0.map Zj.c))] true [.one (.sl (r.map Zj.c))]:=by
 unfold KZ at hM
 refine Zr Tryz.func40 Tryz.ntmps40 Tryz.results40 fun N w0 hbad F=> ?_
 refine S1 ?_;obtain ⟨x1,e1,hM⟩:=bind_some hM;obtain ⟨c2,s3⟩:=JD e1;replace c2:=c2.symm;subst c2;(try simp at s3);have F:=And.intro F s3;refine S1 ?_;refine mj (ι:=List Zj) [] [] [] (fun i=>[(3,oO 448 i.length)]) hM ?_ ?_ (ca:=fun i=>[(448,aT Zj.c i)])
 ·intro e6 hM K8 hK8;refine S1 ?_;refine Zg ?_;refine lp (ι:=(List Zj)×Int) [0] [] [] (fun i=>[(3,oO 448 i.1.length),(4,oI i.2)]) (fun n i=>Xl a0 n i.1 i.2=some e6) k ((List.replicate ((a0.length:Int).toNat) (Zj.mk 0 0 0 (⟨#[]⟩:ByteArray) (⟨#[]⟩:ByteArray) 0)),0) hM (by simp [Xl]) ?_ (ca:=fun i=>[(448,aT Zj.c i.1)]);intro KL9 nL9 ⟨x3,x4⟩ hL9 hM _
  have hM:Xl a0 (nL9+1) x3 x4=some e6:=hM;rw [Xl] at hM;exact au
 ·intro x2 hM;(try dsimp only at hM);exact au
instance:HC 40 (Ty @Zcb):=⟨Zcb⟩
theorem QG (k:Nat) (a0:Ze) (r:Ze) (hM:Xk k a0=some r):Ctr Tryz.prog 10 [.agg (Ze.c a0)] true [.agg (Ze.c r)]:=by
 unfold Xk at hM
 refine Zr Tryz.func10 Tryz.ntmps10 Tryz.results10 fun N w0 hbad F=> ?_
 exact au
instance:HC 10 (Ty @QG):=⟨QG⟩
theorem KV (k:Nat) (a0:List ByteArray) (r:List ByteArray) (hM:Ux k a0=some r):Ctr Tryz.prog 166 [.one (.sl (a0.map sC))] true [.one (.sl (r.map sC))]:=by
 unfold Ux at hM
 refine Zr Tryz.func166 Tryz.ntmps166 Tryz.results166 fun N w0 hbad F=> ?_
 refine S1 ?_;obtain ⟨x1,e1,hM⟩:=bind_some hM;obtain ⟨c2,s3⟩:=JD e1;replace c2:=c2.symm;subst c2;(try simp at s3);have F:=And.intro F s3;refine S1 ?_;refine mj (ι:=List ByteArray) [] [] [] (fun i=>[(3,oO 448 i.length)]) hM ?_ ?_ (ca:=fun i=>[(448,aT sC i)])
 ·intro e6 hM K8 hK8;refine S1 ?_;refine Zg ?_;refine lp (ι:=(List ByteArray)×Int) [0] [] [] (fun i=>[(3,oO 448 i.1.length),(4,oI i.2)]) (fun n i=>Qj a0 n i.1 i.2=some e6) k ((List.replicate ((a0.length:Int).toNat) (⟨#[]⟩:ByteArray)),0) hM (by simp [Qj]) ?_ (ca:=fun i=>[(448,aT sC i.1)]);intro KL9 nL9 ⟨x3,x4⟩ hL9 hM _;have hM:Qj a0 (nL9+1) x3 x4=some e6:=hM
  rw [Qj] at hM;exact au
 ·intro x2 hM;(try dsimp only at hM);exact au
instance:HC 166 (Ty @KV):=⟨KV⟩
theorem ZdD (k:Nat) (a0:List Int) (r:List Int) (hM:Zb9 k a0=some r):Ctr Tryz.prog 202 [.one (.sl (a0.map iC))] true [.one (.sl (r.map iC))]:=by
 unfold Zb9 at hM
 refine Zr Tryz.func202 Tryz.ntmps202 Tryz.results202 fun N w0 hbad F=> ?_
 refine S1 ?_;obtain ⟨x1,e1,hM⟩:=bind_some hM;obtain ⟨c2,s3⟩:=JD e1;replace c2:=c2.symm;subst c2;(try simp at s3);have F:=And.intro F s3;refine S1 ?_;refine mj (ι:=List Int) [] [] [] (fun i=>[(3,oO 448 i.length)]) hM ?_ ?_ (ca:=fun i=>[(448,aT iC i)])
 ·intro e6 hM K8 hK8;refine S1 ?_;refine Zg ?_;refine lp (ι:=(List Int)×Int) [0] [] [] (fun i=>[(3,oO 448 i.1.length),(4,oI i.2)]) (fun n i=>XY a0 n i.1 i.2=some e6) k ((List.replicate ((a0.length:Int).toNat) 0),0) hM (by simp [XY]) ?_ (ca:=fun i=>[(448,aT iC i.1)]);intro KL9 nL9 ⟨x3,x4⟩ hL9 hM _;have hM:XY a0 (nL9+1) x3 x4=some e6:=hM
  rw [XY] at hM;exact au
 ·intro x2 hM;(try dsimp only at hM);exact au
instance:HC 202 (Ty @ZdD):=⟨ZdD⟩
theorem Zbk (a0:Zc) (r:Zc) (hM:Vu a0=some r):Ctr Tryz.prog 314 [.agg (Zc.c a0)] true [.agg (Zc.c r)]:=by
 unfold Vu at hM
 refine Zr Tryz.func314 Tryz.ntmps314 Tryz.results314 fun N w0 hbad F=> ?_
 exact au
instance:HC 314 (Ty @Zbk):=⟨Zbk⟩
theorem KY (k:Nat) (a0:List Zc) (r:List Zc) (hM:Uy k a0=some r):Ctr Tryz.prog 265 [.one (.sl (a0.map Zc.c))] true [.one (.sl (r.map Zc.c))]:=by
 unfold Uy at hM
 refine Zr Tryz.func265 Tryz.ntmps265 Tryz.results265 fun N w0 hbad F=> ?_
 refine S1 ?_;obtain ⟨x1,e1,hM⟩:=bind_some hM;obtain ⟨c2,s3⟩:=JD e1;replace c2:=c2.symm;subst c2;(try simp at s3);have F:=And.intro F s3;refine S1 ?_;refine mj (ι:=List Zc) [] [] [] (fun i=>[(3,oO 448 i.length)]) hM ?_ ?_ (ca:=fun i=>[(448,aT Zc.c i)])
 ·intro e6 hM K8 hK8;refine S1 ?_;refine Zg ?_;refine lp (ι:=(List Zc)×Int) [0] [] [] (fun i=>[(3,oO 448 i.1.length),(4,oI i.2)]) (fun n i=>Qk a0 n i.1 i.2=some e6) k ((List.replicate ((a0.length:Int).toNat) (Zc.mk 0 0)),0) hM (by simp [Qk]) ?_ (ca:=fun i=>[(448,aT Zc.c i.1)]);intro KL9 nL9 ⟨x3,x4⟩ hL9 hM _;have hM:Qk a0 (nL9+1) x3 x4=some e6:=hM
  rw [Qk] at hM;exact au
 ·intro x2 hM;(try dsimp only at hM);exact au
instance:HC 265 (Ty @KY):=⟨KY⟩
theorem Zet (k:Nat) (a0:Zq) (r:Zq) (hM:Zc7 k a0=some r):Ctr Tryz.prog 229 [.agg (Zq.c a0)] true [.agg (Zq.c r)]:=by
 unfold Zc7 at hM
 refine Zr Tryz.func229 Tryz.ntmps229 Tryz.results229 fun N w0 hbad F=> ?_
 exact au
instance:HC 229 (Ty @Zet):=⟨Zet⟩
theorem ZdB (k:Nat) (a0:List Zq) (r:List Zq) (hM:Zb7 k a0=some r):Ctr Tryz.prog 167 [.one (.sl (a0.map Zq.c))] true [.one (.sl (r.map Zq.c))]:=by
 unfold Zb7 at hM
 refine Zr Tryz.func167 Tryz.ntmps167 Tryz.results167 fun N w0 hbad F=> ?_
 refine S1 ?_;obtain ⟨x1,e1,hM⟩:=bind_some hM;obtain ⟨c2,s3⟩:=JD e1;replace c2:=c2.symm;subst c2;(try simp at s3);have F:=And.intro F s3;refine S1 ?_;refine mj (ι:=List Zq) [] [] [] (fun i=>[(3,oO 448 i.length)]) hM ?_ ?_ (ca:=fun i=>[(448,aT Zq.c i)])
 ·intro e6 hM K8 hK8;refine S1 ?_;refine Zg ?_;refine lp (ι:=(List Zq)×Int) [0] [] [] (fun i=>[(3,oO 448 i.1.length),(4,oI i.2)]) (fun n i=>XX k a0 n i.1 i.2=some e6) k ((List.replicate ((a0.length:Int).toNat) (Zq.mk [] [])),0) hM (by simp [XX]) ?_ (ca:=fun i=>[(448,aT Zq.c i.1)]);intro KL9 nL9 ⟨x3,x4⟩ hL9 hM _;have hM:XX k a0 (nL9+1) x3 x4=some e6:=hM
  rw [XX] at hM;exact au
 ·intro x2 hM;(try dsimp only at hM);exact au
instance:HC 167 (Ty @ZdB):=⟨ZdB⟩
theorem Zb5:∀(k:Nat),(∀(a0:Za) (r:Za) (hM:QI k a0=some r),Ctr Tryz.prog 102 [.agg (Za.c a0)] true [.agg (Za.c r)])∧
  (∀(a0:List Za) (r:List Za) (hM:Wr k a0=some r),Ctr Tryz.prog 41 [.one (.sl (a0.map Za.c))] true [.one (.sl (r.map Za.c))]):=by
 intro k
 induction k with
 | zero=>exact ⟨by intro a0 r hM;simp [QI] at hM,by intro a0 r hM;simp [Wr] at hM⟩
 | succ k ih=>
  obtain ⟨ih_w_toValue,ih_w_toValueS⟩:=ih
  refine ⟨?_, ?_⟩
  ·intro a0 r hM
   haveI:HC 102 _:=⟨ih_w_toValue⟩;haveI:HC 41 _:=⟨ih_w_toValueS⟩;rw [QI] at hM
   refine Zr Tryz.func102 Tryz.ntmps102 Tryz.results102 fun N w0 hbad F=> ?_
   exact au
  ·intro a0 r hM
   haveI:HC 102 _:=⟨ih_w_toValue⟩;haveI:HC 41 _:=⟨ih_w_toValueS⟩;rw [Wr] at hM
   refine Zr Tryz.func41 Tryz.ntmps41 Tryz.results41 fun N w0 hbad F=> ?_
   refine S1 ?_;obtain ⟨x1,e1,hM⟩:=bind_some hM;obtain ⟨c2,s3⟩:=JD e1;replace c2:=c2.symm;subst c2;(try simp at s3);have F:=And.intro F s3;refine S1 ?_;refine mj (ι:=List Za) [] [] [] (fun i=>[(3,oO 448 i.length)]) hM ?_ ?_ (ca:=fun i=>[(448,aT Za.c i)])
   ·intro e6 hM K8 hK8;refine S1 ?_;refine Zg ?_;refine lp (ι:=(List Za)×Int) [0] [] [] (fun i=>[(3,oO 448 i.1.length),(4,oI i.2)]) (fun n i=>QH (QI k) a0 n i.1 i.2=some e6) k ((List.replicate ((a0.length:Int).toNat) (Za.mk 0 0 0 (⟨#[]⟩:ByteArray) [] [] [])),0) hM (by simp [QH]) ?_ (ca:=fun i=>[(448,aT Za.c i.1)]);intro KL9 nL9 ⟨x3,x4⟩ hL9 hM _
    have hM:QH (QI k) a0 (nL9+1) x3 x4=some e6:=hM;rw [QH] at hM;exact au
   ·intro x2 hM;(try dsimp only at hM);exact au
theorem Zb4 (k:Nat):∀(a0:Za) (r:Za) (hM:QI k a0=some r),Ctr Tryz.prog 102 [.agg (Za.c a0)] true [.agg (Za.c r)]:=(Zb5 k).1
instance:HC 102 (Ty @Zb4):=⟨Zb4⟩
theorem Zbj (k:Nat):∀(a0:List Za) (r:List Za) (hM:Wr k a0=some r),Ctr Tryz.prog 41 [.one (.sl (a0.map Za.c))] true [.one (.sl (r.map Za.c))]:=(Zb5 k).2
instance:HC 41 (Ty @Zbj):=⟨Zbj⟩
theorem ZdC (k:Nat) (a0:Zo) (r:Zo) (hM:ZaU k a0=some r):Ctr Tryz.prog 230 [.agg (Zo.c a0)] true [.agg (Zo.c r)]:=by
 unfold ZaU at hM
 refine Zr Tryz.func230 Tryz.ntmps230 Tryz.results230 fun N w0 hbad F=> ?_
 exact au
instance:HC 230 (Ty @ZdC):=⟨ZdC⟩
theorem Zb8 (k:Nat) (a0:List Zo) (r:List Zo) (hM:KX k a0=some r):Ctr Tryz.prog 168 [.one (.sl (a0.map Zo.c))] true [.one (.sl (r.map Zo.c))]:=by
 unfold KX at hM
 refine Zr Tryz.func168 Tryz.ntmps168 Tryz.results168 fun N w0 hbad F=> ?_
 refine S1 ?_;obtain ⟨x1,e1,hM⟩:=bind_some hM;obtain ⟨c2,s3⟩:=JD e1;replace c2:=c2.symm;subst c2;(try simp at s3);have F:=And.intro F s3;refine S1 ?_;refine mj (ι:=List Zo) [] [] [] (fun i=>[(3,oO 448 i.length)]) hM ?_ ?_ (ca:=fun i=>[(448,aT Zo.c i)])
 ·intro e6 hM K8 hK8;refine S1 ?_;refine Zg ?_;refine lp (ι:=(List Zo)×Int) [0] [] [] (fun i=>[(3,oO 448 i.1.length),(4,oI i.2)]) (fun n i=>Xj k a0 n i.1 i.2=some e6) k ((List.replicate ((a0.length:Int).toNat) (Zo.mk 0 0 0 (⟨#[]⟩:ByteArray) (Za.mk 0 0 0 (⟨#[]⟩:ByteArray) [] [] []))),0) hM (by simp [Xj]) ?_ (ca:=fun i=>[(448,aT Zo.c i.1)])
  intro KL9 nL9 ⟨x3,x4⟩ hL9 hM _;have hM:Xj k a0 (nL9+1) x3 x4=some e6:=hM;rw [Xj] at hM;exact au
 ·intro x2 hM;(try dsimp only at hM);exact au
instance:HC 168 (Ty @Zb8):=⟨Zb8⟩
end Go.Proofs.YtfapaeabfcogkaaGreatDoor
namespace Go.Proofs.YtfapaeabfcogkaaGreatDoor
open Go.RowKit Am
set_option maxHeartbeats 4000000
set_option maxRecDepth 100000
theorem ZdA (k:Nat) (a0:Zn) (r:Zn) (hM:ZaT k a0=some r):Ctr Tryz.prog 103 [.agg (Zn.c a0)] true [.agg (Zn.c r)]:=by
 unfold ZaT at hM
 refine Zr Tryz.func103 Tryz.ntmps103 Tryz.results103 fun N w0 hbad F=> ?_
 exact au
instance:HC 103 (Ty @ZdA):=⟨ZdA⟩
theorem Zb6 (k:Nat) (a0:List Zn) (r:List Zn) (hM:KU k a0=some r):Ctr Tryz.prog 42 [.one (.sl (a0.map Zn.c))] true [.one (.sl (r.map Zn.c))]:=by
 unfold KU at hM
 refine Zr Tryz.func42 Tryz.ntmps42 Tryz.results42 fun N w0 hbad F=> ?_
 refine S1 ?_;obtain ⟨x1,e1,hM⟩:=bind_some hM;obtain ⟨c2,s3⟩:=JD e1;replace c2:=c2.symm;subst c2;(try simp at s3);have F:=And.intro F s3;refine S1 ?_;refine mj (ι:=List Zn) [] [] [] (fun i=>[(3,oO 448 i.length)]) hM ?_ ?_ (ca:=fun i=>[(448,aT Zn.c i)])
 ·intro e6 hM K8 hK8;refine S1 ?_;refine Zg ?_;refine lp (ι:=(List Zn)×Int) [0] [] [] (fun i=>[(3,oO 448 i.1.length),(4,oI i.2)]) (fun n i=>Xi k a0 n i.1 i.2=some e6) k ((List.replicate ((a0.length:Int).toNat) (Zn.mk 0 0 [])),0) hM (by simp [Xi]) ?_ (ca:=fun i=>[(448,aT Zn.c i.1)]);intro KL9 nL9 ⟨x3,x4⟩ hL9 hM _;have hM:Xi k a0 (nL9+1) x3 x4=some e6:=hM
  rw [Xi] at hM;exact au
 ·intro x2 hM;(try dsimp only at hM);exact au
instance:HC 42 (Ty @Zb6):=⟨Zb6⟩
theorem Vt (k:Nat) (a0:Qf) (r:Qf) (hM:KW k a0=some r):Ctr Tryz.prog 11 [.agg (Qf.c a0)] true [.agg (Qf.c r)]:=by
 unfold KW at hM
 refine Zr Tryz.func11 Tryz.ntmps11 Tryz.results11 fun N w0 hbad F=> ?_
 exact au
instance:HC 11 (Ty @Vt):=⟨Vt⟩
theorem UB (k:Nat) (a0:List ByteArray) (a1:List ByteArray) (r:Bool) (hM:UC k a0 a1=some r):Ctr Tryz.prog 46 [.one (.sl (a0.map sC)),.one (.sl (a1.map sC))] true [.one (.bool r)]:=by
 unfold UC at hM
 refine Zr Tryz.func46 Tryz.ntmps46 Tryz.results46 fun N w0 hbad F=> ?_
 refine S1 ?_;refine Zh fun K1 hK1=> ?_;refine S1 ?_;refine Zp hM (fun h2 hM=> ?_) (fun h2 hM=> ?_)
 ·have F:=nf F h2;exact au
 ·have F:=nf F h2;refine Zl ?_;refine hK1 _ ?_;refine mjE (ι:=Unit) [] [] [] (fun i=>[]) hM ?_ ?_
  ·intro e3 hM hR1 K5 hK5;refine S1 ?_;refine Zg ?_;refine lp (ι:=Int) [0,1] [] [] (fun i=>[(5,oI i)]) (fun n i=>Qm a0 a1 n i=some e3) k 0 hM (by simp [Qm]) ?_;intro KL6 nL6 x1 hL6 hM _;have hM:Qm a0 a1 (nL6+1) x1=some e3:=hM;rw [Qm] at hM;refine Zh fun K7 hK7=> ?_;refine S1 ?_;refine Zp hM (fun h8 hM=> ?_) (fun h8 hM=> ?_)
   ·have F:=And.intro (nf F h8) (lT h8);refine Zl ?_;refine hK7 _ ?_;refine Zh fun K9 hK9=> ?_;refine Zg ?_;refine Zh fun K10 hK10=> ?_;obtain ⟨x2,e11,hM⟩:=bind_some hM;have F:=And.intro F (Vs e11);obtain ⟨x3,e12,hM⟩:=bind_some hM;have F:=And.intro F (Vs e12);refine ZD 8 mixed (by kernel_rfl) (by kernel_rfl) ?_;simp [go_sem,F];exact au
   ·have F:=And.intro (nf F h8) (lF h8);exact au
  ·intro _ hM;dsimp only at hM;exact au
instance:HC 46 (Ty @UB):=⟨UB⟩
theorem ZdN (k:Nat) (a0:List Int) (a1:List Int) (r:Bool) (hM:Zcp k a0 a1=some r):Ctr Tryz.prog 22 [.one (.sl (a0.map iC)),.one (.sl (a1.map iC))] true [.one (.bool r)]:=by
 unfold Zcp at hM
 refine Zr Tryz.func22 Tryz.ntmps22 Tryz.results22 fun N w0 hbad F=> ?_
 refine S1 ?_;refine Zh fun K1 hK1=> ?_;refine S1 ?_;refine Zp hM (fun h2 hM=> ?_) (fun h2 hM=> ?_)
 ·have F:=nf F h2;exact au
 ·have F:=nf F h2;refine Zl ?_;refine hK1 _ ?_;refine mjE (ι:=Unit) [] [] [] (fun i=>[]) hM ?_ ?_
  ·intro e3 hM hR1 K5 hK5;refine S1 ?_;refine Zg ?_;refine lp (ι:=Int) [0,1] [] [] (fun i=>[(5,oI i)]) (fun n i=>X1 a0 a1 n i=some e3) k 0 hM (by simp [X1]) ?_;intro KL6 nL6 x1 hL6 hM _;have hM:X1 a0 a1 (nL6+1) x1=some e3:=hM;rw [X1] at hM;refine Zh fun K7 hK7=> ?_;refine S1 ?_;refine Zp hM (fun h8 hM=> ?_) (fun h8 hM=> ?_)
   ·have F:=And.intro (nf F h8) (lT h8);refine Zl ?_;refine hK7 _ ?_;refine Zh fun K9 hK9=> ?_;refine Zg ?_;refine Zh fun K10 hK10=> ?_;obtain ⟨x2,e11,hM⟩:=bind_some hM;have F:=And.intro F (Vs e11);obtain ⟨x3,e12,hM⟩:=bind_some hM;have F:=And.intro F (Vs e12);refine ZD 8 mixed (by kernel_rfl) (by kernel_rfl) ?_;simp [go_sem,F];exact au
   ·have F:=And.intro (nf F h8) (lF h8);exact au
  ·intro _ hM;dsimp only at hM;exact au
instance:HC 22 (Ty @ZdN):=⟨ZdN⟩
theorem Jy (a0:Zc) (a1:Zc) (r:Bool) (hM:Vv a0 a1=some r):Ctr Tryz.prog 240 [.agg (Zc.c a0),.agg (Zc.c a1)] true [.one (.bool r)]:=by
 unfold Vv at hM
 refine Zr Tryz.func240 Tryz.ntmps240 Tryz.results240 fun N w0 hbad F=> ?_
 exact au
instance:HC 240 (Ty @Jy):=⟨Jy⟩
theorem Zai (k:Nat) (a0:List Zc) (a1:List Zc) (r:Bool) (hM:UD k a0 a1=some r):Ctr Tryz.prog 178 [.one (.sl (a0.map Zc.c)),.one (.sl (a1.map Zc.c))] true [.one (.bool r)]:=by
 unfold UD at hM
 refine Zr Tryz.func178 Tryz.ntmps178 Tryz.results178 fun N w0 hbad F=> ?_
 refine S1 ?_;refine Zh fun K1 hK1=> ?_;refine S1 ?_;refine Zp hM (fun h2 hM=> ?_) (fun h2 hM=> ?_)
 ·have F:=nf F h2;exact au
 ·have F:=nf F h2;refine Zl ?_;refine hK1 _ ?_;refine mjE (ι:=Unit) [] [] [] (fun i=>[]) hM ?_ ?_
  ·intro e3 hM hR1 K5 hK5;refine S1 ?_;refine Zg ?_;refine lp (ι:=Int) [0,1] [] [] (fun i=>[(5,oI i)]) (fun n i=>Qn a0 a1 n i=some e3) k 0 hM (by simp [Qn]) ?_;intro KL6 nL6 x1 hL6 hM _;have hM:Qn a0 a1 (nL6+1) x1=some e3:=hM;rw [Qn] at hM;refine Zh fun K7 hK7=> ?_;refine S1 ?_;refine Zp hM (fun h8 hM=> ?_) (fun h8 hM=> ?_)
   ·have F:=And.intro (nf F h8) (lT h8);refine Zl ?_;refine hK7 _ ?_;refine Zh fun K9 hK9=> ?_;refine Zg ?_;refine Zh fun K10 hK10=> ?_;obtain ⟨x2,e11,hM⟩:=bind_some hM;have F:=And.intro F (Vs e11);obtain ⟨x3,e12,hM⟩:=bind_some hM;have F:=And.intro F (Vs e12);obtain ⟨x4,e13,hM⟩:=bind_some hM;refine ZD 8 mixed (by kernel_rfl) (by kernel_rfl) ?_
    simp [go_sem,F];refine Qb false (Jy x2 x3 x4 e13) ?_;simp [go_sem,F];exact au
   ·have F:=And.intro (nf F h8) (lF h8);exact au
  ·intro _ hM;dsimp only at hM;exact au
instance:HC 178 (Ty @Zai):=⟨Zai⟩
theorem ZbI (k:Nat) (a0:Zq) (a1:Zq) (r:Bool) (hM:Zc9 k a0 a1=some r):Ctr Tryz.prog 109 [.agg (Zq.c a0),.agg (Zq.c a1)] true [.one (.bool r)]:=by
 unfold Zc9 at hM
 refine Zr Tryz.func109 Tryz.ntmps109 Tryz.results109 fun N w0 hbad F=> ?_
 exact au
instance:HC 109 (Ty @ZbI):=⟨ZbI⟩
theorem Zaf (k:Nat) (a0:List Zq) (a1:List Zq) (r:Bool) (hM:Zcn k a0 a1=some r):Ctr Tryz.prog 47 [.one (.sl (a0.map Zq.c)),.one (.sl (a1.map Zq.c))] true [.one (.bool r)]:=by
 unfold Zcn at hM
 refine Zr Tryz.func47 Tryz.ntmps47 Tryz.results47 fun N w0 hbad F=> ?_
 refine S1 ?_;refine Zh fun K1 hK1=> ?_;refine S1 ?_;refine Zp hM (fun h2 hM=> ?_) (fun h2 hM=> ?_)
 ·have F:=nf F h2;exact au
 ·have F:=nf F h2;refine Zl ?_;refine hK1 _ ?_;refine mjE (ι:=Unit) [] [] [] (fun i=>[]) hM ?_ ?_
  ·intro e3 hM hR1 K5 hK5;refine S1 ?_;refine Zg ?_;refine lp (ι:=Int) [0,1] [] [] (fun i=>[(5,oI i)]) (fun n i=>X0 k a0 a1 n i=some e3) k 0 hM (by simp [X0]) ?_;intro KL6 nL6 x1 hL6 hM _;have hM:X0 k a0 a1 (nL6+1) x1=some e3:=hM;rw [X0] at hM;refine Zh fun K7 hK7=> ?_;refine S1 ?_;refine Zp hM (fun h8 hM=> ?_) (fun h8 hM=> ?_)
   ·have F:=And.intro (nf F h8) (lT h8);refine Zl ?_;refine hK7 _ ?_;refine Zh fun K9 hK9=> ?_;refine Zg ?_;refine Zh fun K10 hK10=> ?_;obtain ⟨x2,e11,hM⟩:=bind_some hM;have F:=And.intro F (Vs e11);obtain ⟨x3,e12,hM⟩:=bind_some hM;have F:=And.intro F (Vs e12);obtain ⟨x4,e13,hM⟩:=bind_some hM;refine ZD 8 mixed (by kernel_rfl) (by kernel_rfl) ?_
    simp [go_sem,F];refine Qb false (ZbI k x2 x3 x4 e13) ?_;simp [go_sem,F];exact au
   ·have F:=And.intro (nf F h8) (lF h8);exact au
  ·intro _ hM;dsimp only at hM;exact au
instance:HC 47 (Ty @Zaf):=⟨Zaf⟩
theorem Zbr:∀(k:Nat),(∀(a0:List Za) (a1:List Za) (r:Bool) (hM:Wv k a0 a1=some r),Ctr Tryz.prog 45 [.one (.sl (a0.map Za.c)),.one (.sl (a1.map Za.c))] true [.one (.bool r)])∧
  (∀(a0:Za) (a1:Za) (r:Bool) (hM:Y0 k a0 a1=some r),Ctr Tryz.prog 13 [.agg (Za.c a0),.agg (Za.c a1)] true [.one (.bool r)]):=by
 intro k
 induction k with
 | zero=>exact ⟨by intro a0 a1 r hM;simp [Wv] at hM,by intro a0 a1 r hM;simp [Y0] at hM⟩
 | succ k ih=>
  obtain ⟨ih_w_eqValueS,ih_w_eqValue⟩:=ih
  refine ⟨?_, ?_⟩
  ·intro a0 a1 r hM
   haveI:HC 45 _:=⟨ih_w_eqValueS⟩;haveI:HC 13 _:=⟨ih_w_eqValue⟩;rw [Wv] at hM
   refine Zr Tryz.func45 Tryz.ntmps45 Tryz.results45 fun N w0 hbad F=> ?_
   refine S1 ?_;refine Zh fun K1 hK1=> ?_;refine S1 ?_;refine Zp hM (fun h2 hM=> ?_) (fun h2 hM=> ?_)
   ·have F:=nf F h2;exact au
   ·have F:=nf F h2;refine Zl ?_;refine hK1 _ ?_;refine mjE (ι:=Unit) [] [] [] (fun i=>[]) hM ?_ ?_
    ·intro e3 hM hR1 K5 hK5;refine S1 ?_;refine Zg ?_;refine lp (ι:=Int) [0,1] [] [] (fun i=>[(5,oI i)]) (fun n i=>QK (Y0 k) a0 a1 n i=some e3) k 0 hM (by simp [QK]) ?_;intro KL6 nL6 x1 hL6 hM _;have hM:QK (Y0 k) a0 a1 (nL6+1) x1=some e3:=hM;rw [QK] at hM;refine Zh fun K7 hK7=> ?_;refine S1 ?_;refine Zp hM (fun h8 hM=> ?_) (fun h8 hM=> ?_)
     ·have F:=And.intro (nf F h8) (lT h8);refine Zl ?_;refine hK7 _ ?_;refine Zh fun K9 hK9=> ?_;refine Zg ?_;refine Zh fun K10 hK10=> ?_;obtain ⟨x2,e11,hM⟩:=bind_some hM;have F:=And.intro F (Vs e11);obtain ⟨x3,e12,hM⟩:=bind_some hM;have F:=And.intro F (Vs e12);obtain ⟨x4,e13,hM⟩:=bind_some hM;refine ZD 8 mixed (by kernel_rfl) (by kernel_rfl) ?_
      simp [go_sem,F];refine Qb false (ih_w_eqValue x2 x3 x4 e13) ?_;simp [go_sem,F];exact au
     ·have F:=And.intro (nf F h8) (lF h8);exact au
    ·intro _ hM;dsimp only at hM;exact au
  ·intro a0 a1 r hM
   haveI:HC 45 _:=⟨ih_w_eqValueS⟩;haveI:HC 13 _:=⟨ih_w_eqValue⟩;rw [Y0] at hM
   refine Zr Tryz.func13 Tryz.ntmps13 Tryz.results13 fun N w0 hbad F=> ?_
   refine S1 ?_;refine Zh fun K1 hK1=> ?_;refine S1 ?_;refine Zp hM (fun h2 hM=> ?_) (fun h2 hM=> ?_)
   ·have F:=nf F h2;exact au
   ·have F:=nf F h2;refine Zl ?_;refine hK1 _ ?_;refine Zh fun K3 hK3=> ?_;refine S1 ?_;refine Zp hM (fun h4 hM=> ?_) (fun h4 hM=> ?_)
    ·have F:=nf F h4;exact au
    ·have F:=nf F h4;refine Zl ?_;refine hK3 _ ?_;refine Zh fun K5 hK5=> ?_;refine S1 ?_;refine Zp hM (fun h6 hM=> ?_) (fun h6 hM=> ?_)
     ·have F:=nf F h6;exact au
     ·have F:=nf F h6;refine Zl ?_;refine hK5 _ ?_;refine Zh fun K7 hK7=> ?_;refine S1 ?_;refine Zp hM (fun h8 hM=> ?_) (fun h8 hM=> ?_)
      ·have F:=nf F h8;exact au
      ·have F:=nf F h8;refine Zl ?_;refine hK7 _ ?_;refine Zh fun K9 hK9=> ?_;obtain ⟨x1,e10,hM⟩:=bind_some hM;refine Zw fun K h=> ?_;simp [go_sem,F];refine Qb false (ih_w_eqValueS a0.list a1.list x1 e10) ?_;simp [go_sem,F];refine h _ ?_;refine Zp hM (fun h11 hM=> ?_) (fun h11 hM=> ?_)
       ·have F:=nf F h11;exact au
       ·have F:=nf F h11;refine Zl ?_;refine hK9 _ ?_;refine Zh fun K12 hK12=> ?_;obtain ⟨x2,e13,hM⟩:=bind_some hM;refine Zw fun K h=> ?_;simp [go_sem,F];refine Qb false (UB k a0.columns a1.columns x2 e13) ?_;simp [go_sem,F];refine h _ ?_;refine Zp hM (fun h14 hM=> ?_) (fun h14 hM=> ?_)
        ·have F:=nf F h14;exact au
        ·have F:=nf F h14;refine Zl ?_;refine hK12 _ ?_;refine Zh fun K15 hK15=> ?_;obtain ⟨x3,e16,hM⟩:=bind_some hM;refine Zw fun K h=> ?_;simp [go_sem,F];refine Qb false (Zaf k a0.rows a1.rows x3 e16) ?_;simp [go_sem,F];refine h _ ?_;refine Zp hM (fun h17 hM=> ?_) (fun h17 hM=> ?_)
         ·have F:=nf F h17;refine le1 [] [] [] ?_;exact au
         ·have F:=nf F h17;refine Zl ?_;refine hK15 _ ?_;refine le1 [] [] [] ?_;exact au
theorem Zbq (k:Nat):∀(a0:List Za) (a1:List Za) (r:Bool) (hM:Wv k a0 a1=some r),Ctr Tryz.prog 45 [.one (.sl (a0.map Za.c)),.one (.sl (a1.map Za.c))] true [.one (.bool r)]:=(Zbr k).1
instance:HC 45 (Ty @Zbq):=⟨Zbq⟩
theorem W8 (k:Nat):∀(a0:Za) (a1:Za) (r:Bool) (hM:Y0 k a0 a1=some r),Ctr Tryz.prog 13 [.agg (Za.c a0),.agg (Za.c a1)] true [.one (.bool r)]:=(Zbr k).2
instance:HC 13 (Ty @W8):=⟨W8⟩
theorem Zaj (a0:Zj) (a1:Zj) (r:Bool) (hM:Kh a0 a1=some r):Ctr Tryz.prog 110 [.agg (Zj.c a0),.agg (Zj.c a1)] true [.one (.bool r)]:=by
 unfold Kh at hM
 refine Zr Tryz.func110 Tryz.ntmps110 Tryz.results110 fun N w0 hbad F=> ?_
 exact au
instance:HC 110 (Ty @Zaj):=⟨Zaj⟩
theorem Zcq (k:Nat) (a0:List Zj) (a1:List Zj) (r:Bool) (hM:Zak k a0 a1=some r):Ctr Tryz.prog 48 [.one (.sl (a0.map Zj.c)),.one (.sl (a1.map Zj.c))] true [.one (.bool r)]:=by
 unfold Zak at hM
 refine Zr Tryz.func48 Tryz.ntmps48 Tryz.results48 fun N w0 hbad F=> ?_
 refine S1 ?_;refine Zh fun K1 hK1=> ?_;refine S1 ?_;refine Zp hM (fun h2 hM=> ?_) (fun h2 hM=> ?_)
 ·have F:=nf F h2;exact au
 ·have F:=nf F h2;refine Zl ?_;refine hK1 _ ?_;refine mjE (ι:=Unit) [] [] [] (fun i=>[]) hM ?_ ?_
  ·intro e3 hM hR1 K5 hK5;refine S1 ?_;refine Zg ?_;refine lp (ι:=Int) [0,1] [] [] (fun i=>[(5,oI i)]) (fun n i=>Xr a0 a1 n i=some e3) k 0 hM (by simp [Xr]) ?_;intro KL6 nL6 x1 hL6 hM _;have hM:Xr a0 a1 (nL6+1) x1=some e3:=hM;rw [Xr] at hM;refine Zh fun K7 hK7=> ?_;refine S1 ?_;refine Zp hM (fun h8 hM=> ?_) (fun h8 hM=> ?_)
   ·have F:=And.intro (nf F h8) (lT h8);refine Zl ?_;refine hK7 _ ?_;refine Zh fun K9 hK9=> ?_;refine Zg ?_;refine Zh fun K10 hK10=> ?_;obtain ⟨x2,e11,hM⟩:=bind_some hM;have F:=And.intro F (Vs e11);obtain ⟨x3,e12,hM⟩:=bind_some hM;have F:=And.intro F (Vs e12);obtain ⟨x4,e13,hM⟩:=bind_some hM;refine ZD 8 mixed (by kernel_rfl) (by kernel_rfl) ?_
    simp [go_sem,F];refine Qb false (Zaj x2 x3 x4 e13) ?_;simp [go_sem,F];exact au
   ·have F:=And.intro (nf F h8) (lF h8);exact au
  ·intro _ hM;dsimp only at hM;exact au
instance:HC 48 (Ty @Zcq):=⟨Zcq⟩
theorem Ua (k:Nat) (a0:Ze) (a1:Ze) (r:Bool) (hM:VX k a0 a1=some r):Ctr Tryz.prog 14 [.agg (Ze.c a0),.agg (Ze.c a1)] true [.one (.bool r)]:=by
 unfold VX at hM
 refine Zr Tryz.func14 Tryz.ntmps14 Tryz.results14 fun N w0 hbad F=> ?_
 exact au
instance:HC 14 (Ty @Ua):=⟨Ua⟩
end Go.Proofs.YtfapaeabfcogkaaGreatDoor
namespace Go.Proofs.YtfapaeabfcogkaaGreatDoor
open Go.RowKit Am
set_option maxHeartbeats 4000000
set_option maxRecDepth 100000
theorem Zag (k:Nat) (a0:Zo) (a1:Zo) (r:Bool) (hM:ZaZ k a0 a1=some r):Ctr Tryz.prog 241 [.agg (Zo.c a0),.agg (Zo.c a1)] true [.one (.bool r)]:=by
 unfold ZaZ at hM
 refine Zr Tryz.func241 Tryz.ntmps241 Tryz.results241 fun N w0 hbad F=> ?_
 exact au
instance:HC 241 (Ty @Zag):=⟨Zag⟩
theorem Zco (k:Nat) (a0:List Zo) (a1:List Zo) (r:Bool) (hM:Zah k a0 a1=some r):Ctr Tryz.prog 179 [.one (.sl (a0.map Zo.c)),.one (.sl (a1.map Zo.c))] true [.one (.bool r)]:=by
 unfold Zah at hM
 refine Zr Tryz.func179 Tryz.ntmps179 Tryz.results179 fun N w0 hbad F=> ?_
 refine S1 ?_;refine Zh fun K1 hK1=> ?_;refine S1 ?_;refine Zp hM (fun h2 hM=> ?_) (fun h2 hM=> ?_)
 ·have F:=nf F h2;exact au
 ·have F:=nf F h2;refine Zl ?_;refine hK1 _ ?_;refine mjE (ι:=Unit) [] [] [] (fun i=>[]) hM ?_ ?_
  ·intro e3 hM hR1 K5 hK5;refine S1 ?_;refine Zg ?_;refine lp (ι:=Int) [0,1] [] [] (fun i=>[(5,oI i)]) (fun n i=>Xq k a0 a1 n i=some e3) k 0 hM (by simp [Xq]) ?_;intro KL6 nL6 x1 hL6 hM _;have hM:Xq k a0 a1 (nL6+1) x1=some e3:=hM;rw [Xq] at hM;refine Zh fun K7 hK7=> ?_;refine S1 ?_;refine Zp hM (fun h8 hM=> ?_) (fun h8 hM=> ?_)
   ·have F:=And.intro (nf F h8) (lT h8);refine Zl ?_;refine hK7 _ ?_;refine Zh fun K9 hK9=> ?_;refine Zg ?_;refine Zh fun K10 hK10=> ?_;obtain ⟨x2,e11,hM⟩:=bind_some hM;have F:=And.intro F (Vs e11);obtain ⟨x3,e12,hM⟩:=bind_some hM;have F:=And.intro F (Vs e12);obtain ⟨x4,e13,hM⟩:=bind_some hM;refine ZD 8 mixed (by kernel_rfl) (by kernel_rfl) ?_
    simp [go_sem,F];refine Qb false (Zag k x2 x3 x4 e13) ?_;simp [go_sem,F];exact au
   ·have F:=And.intro (nf F h8) (lF h8);exact au
  ·intro _ hM;dsimp only at hM;exact au
instance:HC 179 (Ty @Zco):=⟨Zco⟩
theorem Zad (k:Nat) (a0:Zn) (a1:Zn) (r:Bool) (hM:ZaY k a0 a1=some r):Ctr Tryz.prog 111 [.agg (Zn.c a0),.agg (Zn.c a1)] true [.one (.bool r)]:=by
 unfold ZaY at hM
 refine Zr Tryz.func111 Tryz.ntmps111 Tryz.results111 fun N w0 hbad F=> ?_
 exact au
instance:HC 111 (Ty @Zad):=⟨Zad⟩
theorem Zcm (k:Nat) (a0:List Zn) (a1:List Zn) (r:Bool) (hM:Zae k a0 a1=some r):Ctr Tryz.prog 49 [.one (.sl (a0.map Zn.c)),.one (.sl (a1.map Zn.c))] true [.one (.bool r)]:=by
 unfold Zae at hM
 refine Zr Tryz.func49 Tryz.ntmps49 Tryz.results49 fun N w0 hbad F=> ?_
 refine S1 ?_;refine Zh fun K1 hK1=> ?_;refine S1 ?_;refine Zp hM (fun h2 hM=> ?_) (fun h2 hM=> ?_)
 ·have F:=nf F h2;exact au
 ·have F:=nf F h2;refine Zl ?_;refine hK1 _ ?_;refine mjE (ι:=Unit) [] [] [] (fun i=>[]) hM ?_ ?_
  ·intro e3 hM hR1 K5 hK5;refine S1 ?_;refine Zg ?_;refine lp (ι:=Int) [0,1] [] [] (fun i=>[(5,oI i)]) (fun n i=>Xp k a0 a1 n i=some e3) k 0 hM (by simp [Xp]) ?_;intro KL6 nL6 x1 hL6 hM _;have hM:Xp k a0 a1 (nL6+1) x1=some e3:=hM;rw [Xp] at hM;refine Zh fun K7 hK7=> ?_;refine S1 ?_;refine Zp hM (fun h8 hM=> ?_) (fun h8 hM=> ?_)
   ·have F:=And.intro (nf F h8) (lT h8);refine Zl ?_;refine hK7 _ ?_;refine Zh fun K9 hK9=> ?_;refine Zg ?_;refine Zh fun K10 hK10=> ?_;obtain ⟨x2,e11,hM⟩:=bind_some hM;have F:=And.intro F (Vs e11);obtain ⟨x3,e12,hM⟩:=bind_some hM;have F:=And.intro F (Vs e12);obtain ⟨x4,e13,hM⟩:=bind_some hM;refine ZD 8 mixed (by kernel_rfl) (by kernel_rfl) ?_
    simp [go_sem,F];refine Qb false (Zad k x2 x3 x4 e13) ?_;simp [go_sem,F];exact au
   ·have F:=And.intro (nf F h8) (lF h8);exact au
  ·intro _ hM;dsimp only at hM;exact au
instance:HC 49 (Ty @Zcm):=⟨Zcm⟩
theorem ZbH (k:Nat) (a0:Qf) (a1:Qf) (r:Bool) (hM:ZeE k a0 a1=some r):Ctr Tryz.prog 15 [.agg (Qf.c a0),.agg (Qf.c a1)] true [.one (.bool r)]:=by
 unfold ZeE at hM
 refine Zr Tryz.func15 Tryz.ntmps15 Tryz.results15 fun N w0 hbad F=> ?_
 exact au
instance:HC 15 (Ty @ZbH):=⟨ZbH⟩
theorem ZdK (a0:YY) (a1:Int) (r:Int) (hM:ZgA a0 a1=some r):Ctr Tryz.prog 192 [.agg (YY.c a0),.one (.int .i64 a1)] true [.one (.int .i64 r)]:=by
 unfold ZgA at hM
 refine Zr Tryz.func192 Tryz.ntmps192 Tryz.results192 fun N w0 hbad F=> ?_
 exact au
instance:HC 192 (Ty @ZdK):=⟨ZdK⟩
theorem Zcj (k:Nat) (a0:List YY) (a1:Int) (r:Int) (hM:ZeB k a0 a1=some r):Ctr Tryz.prog 133 [.one (.sl (a0.map YY.c)),.one (.int .i64 a1)] true [.one (.int .i64 r)]:=by
 unfold ZeB at hM
 refine Zr Tryz.func133 Tryz.ntmps133 Tryz.results133 fun N w0 hbad F=> ?_
 refine S1 ?_;refine S1 ?_;refine Zh fun K1 hK1=> ?_;refine S1 ?_;refine Zp hM (fun h2 hM=> ?_) (fun h2 hM=> ?_)
 ·have F:=And.intro (nf F h2) (lT h2);exact au
 ·have F:=And.intro (nf F h2) (lF h2);refine Zl ?_;refine hK1 _ ?_;refine mjE (ι:=Int) [] [] [] (fun i=>[(1,oI i)]) hM ?_ ?_
  ·intro e3 hM hR1 K5 hK5;refine S1 ?_;refine Zg ?_;refine lp (ι:=Int×Int) [0] [] [] (fun i=>[(1,oI i.1),(5,oI i.2)]) (fun n i=>W0 a0 n i.1 i.2=some e3) k ((IntKind.i64.wrap (a1-(a0.length:Int))),0) hM (by simp [W0]) ?_;intro KL6 nL6 ⟨x2,x3⟩ hL6 hM _;have hM:W0 a0 (nL6+1) x2 x3=some e3:=hM;rw [W0] at hM;exact au
  ·intro x1 hM;dsimp only at hM;exact au
instance:HC 133 (Ty @Zcj):=⟨Zcj⟩
theorem Zcc (k:Nat) (a0:V7) (a1:Int) (r:Int) (hM:Zev k a0 a1=some r):Ctr Tryz.prog 70 [.agg (V7.c a0),.one (.int .i64 a1)] true [.one (.int .i64 r)]:=by
 unfold Zev at hM
 refine Zr Tryz.func70 Tryz.ntmps70 Tryz.results70 fun N w0 hbad F=> ?_
 exact au
instance:HC 70 (Ty @Zcc):=⟨Zcc⟩
theorem Zck (k:Nat) (a0:Wp) (a1:Int) (r:Int) (hM:ZeC k a0 a1=some r):Ctr Tryz.prog 134 [.agg (Wp.c a0),.one (.int .i64 a1)] true [.one (.int .i64 r)]:=by
 unfold ZeC at hM
 refine Zr Tryz.func134 Tryz.ntmps134 Tryz.results134 fun N w0 hbad F=> ?_
 exact au
instance:HC 134 (Ty @Zck):=⟨Zck⟩
theorem Zbn (k:Nat) (a0:List Wp) (a1:Int) (r:Int) (hM:Zc8 k a0 a1=some r):Ctr Tryz.prog 71 [.one (.sl (a0.map Wp.c)),.one (.int .i64 a1)] true [.one (.int .i64 r)]:=by
 unfold Zc8 at hM
 refine Zr Tryz.func71 Tryz.ntmps71 Tryz.results71 fun N w0 hbad F=> ?_
 refine S1 ?_;refine S1 ?_;refine Zh fun K1 hK1=> ?_;refine S1 ?_;refine Zp hM (fun h2 hM=> ?_) (fun h2 hM=> ?_)
 ·have F:=And.intro (nf F h2) (lT h2);exact au
 ·have F:=And.intro (nf F h2) (lF h2);refine Zl ?_;refine hK1 _ ?_;refine mjE (ι:=Int) [] [] [] (fun i=>[(1,oI i)]) hM ?_ ?_
  ·intro e3 hM hR1 K5 hK5;refine S1 ?_;refine Zg ?_;refine lp (ι:=Int×Int) [0] [] [] (fun i=>[(1,oI i.1),(5,oI i.2)]) (fun n i=>Wu k a0 n i.1 i.2=some e3) k ((IntKind.i64.wrap (a1-(a0.length:Int))),0) hM (by simp [Wu]) ?_;intro KL6 nL6 ⟨x2,x3⟩ hL6 hM _;have hM:Wu k a0 (nL6+1) x2 x3=some e3:=hM;rw [Wu] at hM;exact au
  ·intro x1 hM;dsimp only at hM;exact au
instance:HC 71 (Ty @Zbn):=⟨Zbn⟩
theorem Zbo (k:Nat) (a0:WM) (a1:Int) (r:Int) (hM:ZfW k a0 a1=some r):Ctr Tryz.prog 25 [.agg (WM.c a0),.one (.int .i64 a1)] true [.one (.int .i64 r)]:=by
 unfold ZfW at hM
 refine Zr Tryz.func25 Tryz.ntmps25 Tryz.results25 fun N w0 hbad F=> ?_
 exact au
instance:HC 25 (Ty @Zbo):=⟨Zbo⟩
theorem ZdL (a0:Ur) (a1:Int) (r:Int) (hM:ZjL a0 a1=some r):Ctr Tryz.prog 26 [.agg (Ur.c a0),.one (.int .i64 a1)] true [.one (.int .i64 r)]:=by
 unfold ZjL at hM
 refine Zr Tryz.func26 Tryz.ntmps26 Tryz.results26 fun N w0 hbad F=> ?_
 exact au
instance:HC 26 (Ty @ZdL):=⟨ZdL⟩
theorem ZdE (a0:YY) (r:YY) (hM:Zgw a0=some r):Ctr Tryz.prog 201 [.agg (YY.c a0)] true [.agg (YY.c r)]:=by
 unfold Zgw at hM
 refine Zr Tryz.func201 Tryz.ntmps201 Tryz.results201 fun N w0 hbad F=> ?_
 exact au
instance:HC 201 (Ty @ZdE):=⟨ZdE⟩
theorem Zca (k:Nat) (a0:List YY) (r:List YY) (hM:ZhD k a0=some r):Ctr Tryz.prog 143 [.one (.sl (a0.map YY.c))] true [.one (.sl (r.map YY.c))]:=by
 unfold ZhD at hM
 refine Zr Tryz.func143 Tryz.ntmps143 Tryz.results143 fun N w0 hbad F=> ?_
 refine S1 ?_;obtain ⟨x1,e1,hM⟩:=bind_some hM;obtain ⟨c2,s3⟩:=JD e1;replace c2:=c2.symm;subst c2;(try simp at s3);have F:=And.intro F s3;refine S1 ?_;refine mj (ι:=List YY) [] [] [] (fun i=>[(3,oO 448 i.length)]) hM ?_ ?_ (ca:=fun i=>[(448,aT YY.c i)])
 ·intro e6 hM K8 hK8;refine S1 ?_;refine Zg ?_;refine lp (ι:=(List YY)×Int) [0] [] [] (fun i=>[(3,oO 448 i.1.length),(4,oI i.2)]) (fun n i=>WY a0 n i.1 i.2=some e6) k ((List.replicate ((a0.length:Int).toNat) (YY.mk (⟨#[]⟩:ByteArray) 0)),0) hM (by simp [WY]) ?_ (ca:=fun i=>[(448,aT YY.c i.1)]);intro KL9 nL9 ⟨x3,x4⟩ hL9 hM _;have hM:WY a0 (nL9+1) x3 x4=some e6:=hM
  rw [WY] at hM;exact au
 ·intro x2 hM;(try dsimp only at hM);exact au
instance:HC 143 (Ty @Zca):=⟨Zca⟩
end Go.Proofs.YtfapaeabfcogkaaGreatDoor
