import Derived.Test.YtbkllghhcphkaaaGreatDoorJ5
set_option linter.unusedSimpArgs false
set_option linter.unusedVariables false
namespace Go.Proofs.YtbkllghhcphkaaaGreatDoor
open Go.RowKit Am
set_option maxHeartbeats 4000000
set_option maxRecDepth 100000
theorem Zfd (a0:Zk) (a1:Int) (r:Int) (hM:JR a0 a1=some r):Ctr Tryz.prog 42 [.agg (Zk.c a0),.one (.int .i64 a1)] true [.one (.int .i64 r)]:=by
 unfold JR at hM;refine Zn Tryz.func42 Tryz.ntmps42 Tryz.results42 fun N w0 hbad F=> ?_;exact au
instance:HC 42 (Ty @Zfd):=⟨Zfd⟩
theorem Zdy (k:Nat) (a0:List Zk) (a1:Int) (r:Int) (hM:Zbf k a0 a1=some r):Ctr Tryz.prog 21 [.one (.sl (a0.map Zk.c)),.one (.int .i64 a1)] true [.one (.int .i64 r)]:=by
 unfold Zbf at hM;refine Zn Tryz.func21 Tryz.ntmps21 Tryz.results21 fun N w0 hbad F=> ?_;refine S1 ?_;refine S1 ?_;refine Ze fun K1 hK1=> ?_;refine S1 ?_;refine Zj hM (fun h2 hM=> ?_) (fun h2 hM=> ?_)
 ·have F:=Zyn (nf F h2) (lT h2);exact au
 ·have F:=Zyn (nf F h2) (lF h2);refine Zh ?_;refine hK1 _ ?_;refine mjE (ι:=Int) [] [] [] (fun i=>[(1,oI i)]) hM ?_ ?_
  ·intro e3 hM hR1 K5 hK5;refine S1 ?_;refine Zc ?_;refine lp (ι:=Int×Int) [0] [] [] (fun i=>[(1,oI i.1),(5,oI i.2)]) (fun n i=>XM a0 n i.1 i.2=some e3) k ((IntKind.i64.wrap (a1-(a0.length:Int))),0) hM (by simp [XM]) ?_;intro KL6 nL6 ⟨x2,x3⟩ hL6 hM _;have hM:XM a0 (nL6+1) x2 x3=some e3:=hM;rw [XM] at hM;exact au
  ·intro x1 hM;dsimp only at hM;exact au
instance:HC 21 (Ty @Zdy):=⟨Zdy⟩
theorem ZaM (k:Nat) (a0:Zd) (a1:Int) (r:Int) (hM:Uk k a0 a1=some r):Ctr Tryz.prog 5 [.agg (Zd.c a0),.one (.int .i64 a1)] true [.one (.int .i64 r)]:=by
 unfold Uk at hM;refine Zn Tryz.func5 Tryz.ntmps5 Tryz.results5 fun N w0 hbad F=> ?_;exact au
instance:HC 5 (Ty @ZaM):=⟨ZaM⟩
theorem Ze4 (a0:Zk) (r:Zk) (hM:JQ a0=some r):Ctr Tryz.prog 52 [.agg (Zk.c a0)] true [.agg (Zk.c r)]:=by
 unfold JQ at hM;refine Zn Tryz.func52 Tryz.ntmps52 Tryz.results52 fun N w0 hbad F=> ?_;exact au
instance:HC 52 (Ty @Ze4):=⟨Ze4⟩
theorem Zdo (k:Nat) (a0:List Zk) (r:List Zk) (hM:Za7 k a0=some r):Ctr Tryz.prog 29 [.one (.sl (a0.map Zk.c))] true [.one (.sl (r.map Zk.c))]:=by
 unfold Za7 at hM;refine Zn Tryz.func29 Tryz.ntmps29 Tryz.results29 fun N w0 hbad F=> ?_;refine S1 ?_;obtain ⟨x1,e1,hM⟩:=bind_some hM;obtain ⟨c2,s3⟩:=Jy e1;replace c2:=c2.symm;subst c2;(try simp at s3);have F:=Zyn F s3;refine S1 ?_;refine mj (ι:=List Zk) [] [] [] (fun i=>[(3,oO 448 i.length)]) hM ?_ ?_ (ca:=fun i=>[(448,aT Zk.c i)])
 ·intro e6 hM K8 hK8;refine S1 ?_;refine Zc ?_;refine lp (ι:=(List Zk)×Int) [0] [] [] (fun i=>[(3,oO 448 i.1.length),(4,oI i.2)]) (fun n i=>XI a0 n i.1 i.2=some e6) k ((List.replicate ((a0.length:Int).toNat) (Zk.mk 0 0 0 (⟨#[]⟩:ByteArray) (⟨#[]⟩:ByteArray) 0)),0) hM (by simp [XI]) ?_ (ca:=fun i=>[(448,aT Zk.c i.1)]);intro KL9 nL9 ⟨x3,x4⟩ hL9 hM _;have hM:XI a0 (nL9+1) x3 x4=some e6:=hM;rw [XI] at hM;exact au
 ·intro x2 hM;(try dsimp only at hM);exact au
instance:HC 29 (Ty @Zdo):=⟨Zdo⟩
theorem ZaL (k:Nat) (a0:Zd) (r:Zd) (hM:Uj k a0=some r):Ctr Tryz.prog 7 [.agg (Zd.c a0)] true [.agg (Zd.c r)]:=by
 unfold Uj at hM;refine Zn Tryz.func7 Tryz.ntmps7 Tryz.results7 fun N w0 hbad F=> ?_;exact au
instance:HC 7 (Ty @ZaL):=⟨ZaL⟩
theorem Zff (k:Nat) (a0:List Int) (a1:List Int) (r:Bool) (hM:Zb6 k a0 a1=some r):Ctr Tryz.prog 9 [.one (.sl (a0.map iC)),.one (.sl (a1.map iC))] true [.one (.bool r)]:=by
 unfold Zb6 at hM;refine Zn Tryz.func9 Tryz.ntmps9 Tryz.results9 fun N w0 hbad F=> ?_;refine S1 ?_;refine Ze fun K1 hK1=> ?_;refine S1 ?_;refine Zj hM (fun h2 hM=> ?_) (fun h2 hM=> ?_)
 ·have F:=nf F h2;exact au
 ·have F:=nf F h2;refine Zh ?_;refine hK1 _ ?_;refine mjE (ι:=Unit) [] [] [] (fun i=>[]) hM ?_ ?_
  ·intro e3 hM hR1 K5 hK5;refine S1 ?_;refine Zc ?_;refine lp (ι:=Int) [0,1] [] [] (fun i=>[(5,oI i)]) (fun n i=>Wp a0 a1 n i=some e3) k 0 hM (by simp [Wp]) ?_;intro KL6 nL6 x1 hL6 hM _;have hM:Wp a0 a1 (nL6+1) x1=some e3:=hM;rw [Wp] at hM;refine Ze fun K7 hK7=> ?_;refine S1 ?_;refine Zj hM (fun h8 hM=> ?_) (fun h8 hM=> ?_)
   ·have F:=Zyn (nf F h8) (lT h8);refine Zh ?_;refine hK7 _ ?_;refine Ze fun K9 hK9=> ?_;refine Zc ?_;refine Ze fun K10 hK10=> ?_;obtain ⟨x2,e11,hM⟩:=bind_some hM;have F:=Zyn F (Xy e11);obtain ⟨x3,e12,hM⟩:=bind_some hM;have F:=Zyn F (Xy e12);refine Zt 8 mixed (by kernel_rfl) (by kernel_rfl) ?_;simp [go_sem,F];exact au
   ·have F:=Zyn (nf F h8) (lF h8);exact au
  ·intro _ hM;dsimp only at hM;exact au
instance:HC 9 (Ty @Zff):=⟨Zff⟩
theorem Zbp (a0:Zk) (a1:Zk) (r:Bool) (hM:Zah a0 a1=some r):Ctr Tryz.prog 87 [.agg (Zk.c a0),.agg (Zk.c a1)] true [.one (.bool r)]:=by
 unfold Zah at hM;refine Zn Tryz.func87 Tryz.ntmps87 Tryz.results87 fun N w0 hbad F=> ?_;exact au
instance:HC 87 (Ty @Zbp):=⟨Zbp⟩
theorem ZdE (k:Nat) (a0:List Zk) (a1:List Zk) (r:Bool) (hM:Zbq k a0 a1=some r):Ctr Tryz.prog 37 [.one (.sl (a0.map Zk.c)),.one (.sl (a1.map Zk.c))] true [.one (.bool r)]:=by
 unfold Zbq at hM;refine Zn Tryz.func37 Tryz.ntmps37 Tryz.results37 fun N w0 hbad F=> ?_;refine S1 ?_;refine Ze fun K1 hK1=> ?_;refine S1 ?_;refine Zj hM (fun h2 hM=> ?_) (fun h2 hM=> ?_)
 ·have F:=nf F h2;exact au
 ·have F:=nf F h2;refine Zh ?_;refine hK1 _ ?_;refine mjE (ι:=Unit) [] [] [] (fun i=>[]) hM ?_ ?_
  ·intro e3 hM hR1 K5 hK5;refine S1 ?_;refine Zc ?_;refine lp (ι:=Int) [0,1] [] [] (fun i=>[(5,oI i)]) (fun n i=>XQ a0 a1 n i=some e3) k 0 hM (by simp [XQ]) ?_;intro KL6 nL6 x1 hL6 hM _;have hM:XQ a0 a1 (nL6+1) x1=some e3:=hM;rw [XQ] at hM;refine Ze fun K7 hK7=> ?_;refine S1 ?_;refine Zj hM (fun h8 hM=> ?_) (fun h8 hM=> ?_)
   ·have F:=Zyn (nf F h8) (lT h8);refine Zh ?_;refine hK7 _ ?_;refine Ze fun K9 hK9=> ?_;refine Zc ?_;refine Ze fun K10 hK10=> ?_;obtain ⟨x2,e11,hM⟩:=bind_some hM;have F:=Zyn F (Xy e11);obtain ⟨x3,e12,hM⟩:=bind_some hM;have F:=Zyn F (Xy e12);obtain ⟨x4,e13,hM⟩:=bind_some hM;refine Zt 8 mixed (by kernel_rfl) (by kernel_rfl) ?_;simp [go_sem,F];refine Yl false (Zbp x2 x3 x4 e13) ?_;simp [go_sem,F];exact au
   ·have F:=Zyn (nf F h8) (lF h8);exact au
  ·intro _ hM;dsimp only at hM;exact au
instance:HC 37 (Ty @ZdE):=⟨ZdE⟩
theorem UC (k:Nat) (a0:Zd) (a1:Zd) (r:Bool) (hM:Ul k a0 a1=some r):Ctr Tryz.prog 10 [.agg (Zd.c a0),.agg (Zd.c a1)] true [.one (.bool r)]:=by
 unfold Ul at hM;refine Zn Tryz.func10 Tryz.ntmps10 Tryz.results10 fun N w0 hbad F=> ?_;exact au
instance:HC 10 (Ty @UC):=⟨UC⟩
theorem Zfa (a0:ZS) (a1:Int) (r:Int) (hM:Zac a0 a1=some r):Ctr Tryz.prog 140 [.agg (ZS.c a0),.one (.int .i64 a1)] true [.one (.int .i64 r)]:=by
 unfold Zac at hM;refine Zn Tryz.func140 Tryz.ntmps140 Tryz.results140 fun N w0 hbad F=> ?_;exact au
instance:HC 140 (Ty @Zfa):=⟨Zfa⟩
theorem Zdv (k:Nat) (a0:List ZS) (a1:Int) (r:Int) (hM:Zbd k a0 a1=some r):Ctr Tryz.prog 89 [.one (.sl (a0.map ZS.c)),.one (.int .i64 a1)] true [.one (.int .i64 r)]:=by
 unfold Zbd at hM;refine Zn Tryz.func89 Tryz.ntmps89 Tryz.results89 fun N w0 hbad F=> ?_;refine S1 ?_;refine S1 ?_;refine Ze fun K1 hK1=> ?_;refine S1 ?_;refine Zj hM (fun h2 hM=> ?_) (fun h2 hM=> ?_)
 ·have F:=Zyn (nf F h2) (lT h2);exact au
 ·have F:=Zyn (nf F h2) (lF h2);refine Zh ?_;refine hK1 _ ?_;refine mjE (ι:=Int) [] [] [] (fun i=>[(1,oI i)]) hM ?_ ?_
  ·intro e3 hM hR1 K5 hK5;refine S1 ?_;refine Zc ?_;refine lp (ι:=Int×Int) [0] [] [] (fun i=>[(1,oI i.1),(5,oI i.2)]) (fun n i=>XL a0 n i.1 i.2=some e3) k ((IntKind.i64.wrap (a1-(a0.length:Int))),0) hM (by simp [XL]) ?_;intro KL6 nL6 ⟨x2,x3⟩ hL6 hM _;have hM:XL a0 (nL6+1) x2 x3=some e3:=hM;rw [XL] at hM;exact au
  ·intro x1 hM;dsimp only at hM;exact au
instance:HC 89 (Ty @Zdv):=⟨Zdv⟩
theorem Zdp (k:Nat) (a0:Yo) (a1:Int) (r:Int) (hM:Za8 k a0 a1=some r):Ctr Tryz.prog 39 [.agg (Yo.c a0),.one (.int .i64 a1)] true [.one (.int .i64 r)]:=by
 unfold Za8 at hM;refine Zn Tryz.func39 Tryz.ntmps39 Tryz.results39 fun N w0 hbad F=> ?_;exact au
instance:HC 39 (Ty @Zdp):=⟨Zdp⟩
theorem Zba (k:Nat) (a0:List ByteArray) (a1:Int) (r:Int) (hM:U5 k a0 a1=some r):Ctr Tryz.prog 191 [.one (.sl (a0.map sC)),.one (.int .i64 a1)] true [.one (.int .i64 r)]:=by
 unfold U5 at hM;refine Zn Tryz.func191 Tryz.ntmps191 Tryz.results191 fun N w0 hbad F=> ?_;refine S1 ?_;refine S1 ?_;refine Ze fun K1 hK1=> ?_;refine S1 ?_;refine Zj hM (fun h2 hM=> ?_) (fun h2 hM=> ?_)
 ·have F:=Zyn (nf F h2) (lT h2);exact au
 ·have F:=Zyn (nf F h2) (lF h2);refine Zh ?_;refine hK1 _ ?_;refine mjE (ι:=Int) [] [] [] (fun i=>[(1,oI i)]) hM ?_ ?_
  ·intro e3 hM hR1 K5 hK5;refine S1 ?_;refine Zc ?_;refine lp (ι:=Int×Int) [0] [] [] (fun i=>[(1,oI i.1),(5,oI i.2)]) (fun n i=>QD a0 n i.1 i.2=some e3) k ((IntKind.i64.wrap (a1-(a0.length:Int))),0) hM (by simp [QD]) ?_;intro KL6 nL6 ⟨x2,x3⟩ hL6 hM _;have hM:QD a0 (nL6+1) x2 x3=some e3:=hM;rw [QD] at hM;exact au
  ·intro x1 hM;dsimp only at hM;exact au
instance:HC 191 (Ty @Zba):=⟨Zba⟩
set_option maxHeartbeats 4000000
set_option maxRecDepth 100000
theorem Ze9 (a0:List Int) (a1:Int) (r:Int) (hM:Zb3 a0 a1=some r):Ctr Tryz.prog 142 [.one (.sl (a0.map iC)),.one (.int .i64 a1)] true [.one (.int .i64 r)]:=by
 unfold Zb3 at hM;refine Zn Tryz.func142 Tryz.ntmps142 Tryz.results142 fun N w0 hbad F=> ?_;exact au
instance:HC 142 (Ty @Ze9):=⟨Ze9⟩
theorem Zbc (a0:List Zo) (a1:Int) (r:Int) (hM:U6 a0 a1=some r):Ctr Tryz.prog 280 [.one (.sl (a0.map Zo.c)),.one (.int .i64 a1)] true [.one (.int .i64 r)]:=by
 unfold U6 at hM;refine Zn Tryz.func280 Tryz.ntmps280 Tryz.results280 fun N w0 hbad F=> ?_;exact au
instance:HC 280 (Ty @Zbc):=⟨Zbc⟩
theorem Zf6 (a0:ZN) (a1:Int) (r:Int) (hM:ZcO a0 a1=some r):Ctr Tryz.prog 246 [.agg (ZN.c a0),.one (.int .i64 a1)] true [.one (.int .i64 r)]:=by
 unfold ZcO at hM;refine Zn Tryz.func246 Tryz.ntmps246 Tryz.results246 fun N w0 hbad F=> ?_;exact au
instance:HC 246 (Ty @Zf6):=⟨Zf6⟩
theorem Ze6 (k:Nat) (a0:List ZN) (a1:Int) (r:Int) (hM:Zdt k a0 a1=some r):Ctr Tryz.prog 192 [.one (.sl (a0.map ZN.c)),.one (.int .i64 a1)] true [.one (.int .i64 r)]:=by
 unfold Zdt at hM;refine Zn Tryz.func192 Tryz.ntmps192 Tryz.results192 fun N w0 hbad F=> ?_;refine S1 ?_;refine S1 ?_;refine Ze fun K1 hK1=> ?_;refine S1 ?_;refine Zj hM (fun h2 hM=> ?_) (fun h2 hM=> ?_)
 ·have F:=Zyn (nf F h2) (lT h2);exact au
 ·have F:=Zyn (nf F h2) (lF h2);refine Zh ?_;refine hK1 _ ?_;refine mjE (ι:=Int) [] [] [] (fun i=>[(1,oI i)]) hM ?_ ?_
  ·intro e3 hM hR1 K5 hK5;refine S1 ?_;refine Zc ?_;refine lp (ι:=Int×Int) [0] [] [] (fun i=>[(1,oI i.1),(5,oI i.2)]) (fun n i=>Wn a0 n i.1 i.2=some e3) k ((IntKind.i64.wrap (a1-(a0.length:Int))),0) hM (by simp [Wn]) ?_;intro KL6 nL6 ⟨x2,x3⟩ hL6 hM _;have hM:Wn a0 (nL6+1) x2 x3=some e3:=hM;rw [Wn] at hM;exact au
  ·intro x1 hM;dsimp only at hM;exact au
instance:HC 192 (Ty @Ze6):=⟨Ze6⟩
theorem Zha:∀(k:Nat),(∀(a0:List Za) (a1:Int) (r:Int) (hM:US k a0 a1=some r),Ctr Tryz.prog 190 [.one (.sl (a0.map Za.c)),.one (.int .i64 a1)] true [.one (.int .i64 r)])/\
  (∀(a0:Za) (a1:Int) (r:Int) (hM:QU k a0 a1=some r),Ctr Tryz.prog 143 [.agg (Za.c a0),.one (.int .i64 a1)] true [.one (.int .i64 r)]):=by
 intro k
 induction k with
 | zero=>exact ⟨by intro a0 a1 r hM;simp [US] at hM,by intro a0 a1 r hM;simp [QU] at hM⟩
 | succ k ih=>
  obtain ⟨ih_w_szValueS,ih_w_szValue⟩:=ih;refine ⟨?_, ?_⟩
  ·intro a0 a1 r hM;haveI:HC 190 _:=⟨ih_w_szValueS⟩;haveI:HC 143 _:=⟨ih_w_szValue⟩;rw [US] at hM;refine Zn Tryz.func190 Tryz.ntmps190 Tryz.results190 fun N w0 hbad F=> ?_;refine S1 ?_;refine S1 ?_;refine Ze fun K1 hK1=> ?_;refine S1 ?_;refine Zj hM (fun h2 hM=> ?_) (fun h2 hM=> ?_)
   ·have F:=Zyn (nf F h2) (lT h2);exact au
   ·have F:=Zyn (nf F h2) (lF h2);refine Zh ?_;refine hK1 _ ?_;refine mjE (ι:=Int) [] [] [] (fun i=>[(1,oI i)]) hM ?_ ?_
    ·intro e3 hM hR1 K5 hK5;refine S1 ?_;refine Zc ?_;refine lp (ι:=Int×Int) [0] [] [] (fun i=>[(1,oI i.1),(5,oI i.2)]) (fun n i=>Q7 (QU k) a0 n i.1 i.2=some e3) k ((IntKind.i64.wrap (a1-(a0.length:Int))),0) hM (by simp [Q7]) ?_;intro KL6 nL6 ⟨x2,x3⟩ hL6 hM _;have hM:Q7 (QU k) a0 (nL6+1) x2 x3=some e3:=hM;rw [Q7] at hM;exact au
    ·intro x1 hM;dsimp only at hM;exact au
  ·intro a0 a1 r hM;haveI:HC 190 _:=⟨ih_w_szValueS⟩;haveI:HC 143 _:=⟨ih_w_szValue⟩;rw [QU] at hM;refine Zn Tryz.func143 Tryz.ntmps143 Tryz.results143 fun N w0 hbad F=> ?_;exact au
theorem Zdr (k:Nat):∀(a0:Za) (a1:Int) (r:Int) (hM:QU k a0 a1=some r),Ctr Tryz.prog 143 [.agg (Za.c a0),.one (.int .i64 a1)] true [.one (.int .i64 r)]:=(Zha k).2
instance:HC 143 (Ty @Zdr):=⟨Zdr⟩
theorem Ze7 (k:Nat) (a0:ZR) (a1:Int) (r:Int) (hM:Zb2 k a0 a1=some r):Ctr Tryz.prog 189 [.agg (ZR.c a0),.one (.int .i64 a1)] true [.one (.int .i64 r)]:=by
 unfold Zb2 at hM;refine Zn Tryz.func189 Tryz.ntmps189 Tryz.results189 fun N w0 hbad F=> ?_;exact au
instance:HC 189 (Ty @Ze7):=⟨Ze7⟩
theorem Zdu (k:Nat) (a0:List ZR) (a1:Int) (r:Int) (hM:Zbb k a0 a1=some r):Ctr Tryz.prog 141 [.one (.sl (a0.map ZR.c)),.one (.int .i64 a1)] true [.one (.int .i64 r)]:=by
 unfold Zbb at hM;refine Zn Tryz.func141 Tryz.ntmps141 Tryz.results141 fun N w0 hbad F=> ?_;refine S1 ?_;refine S1 ?_;refine Ze fun K1 hK1=> ?_;refine S1 ?_;refine Zj hM (fun h2 hM=> ?_) (fun h2 hM=> ?_)
 ·have F:=Zyn (nf F h2) (lT h2);exact au
 ·have F:=Zyn (nf F h2) (lF h2);refine Zh ?_;refine hK1 _ ?_;refine mjE (ι:=Int) [] [] [] (fun i=>[(1,oI i)]) hM ?_ ?_
  ·intro e3 hM hR1 K5 hK5;refine S1 ?_;refine Zc ?_;refine lp (ι:=Int×Int) [0] [] [] (fun i=>[(1,oI i.1),(5,oI i.2)]) (fun n i=>XK k a0 n i.1 i.2=some e3) k ((IntKind.i64.wrap (a1-(a0.length:Int))),0) hM (by simp [XK]) ?_;intro KL6 nL6 ⟨x2,x3⟩ hL6 hM _;have hM:XK k a0 (nL6+1) x2 x3=some e3:=hM;rw [XK] at hM;exact au
  ·intro x1 hM;dsimp only at hM;exact au
instance:HC 141 (Ty @Zdu):=⟨Zdu⟩
theorem Ze5 (k:Nat) (a0:ZQ) (a1:Int) (r:Int) (hM:Zb1 k a0 a1=some r):Ctr Tryz.prog 90 [.agg (ZQ.c a0),.one (.int .i64 a1)] true [.one (.int .i64 r)]:=by
 unfold Zb1 at hM;refine Zn Tryz.func90 Tryz.ntmps90 Tryz.results90 fun N w0 hbad F=> ?_;exact au
instance:HC 90 (Ty @Ze5):=⟨Ze5⟩
theorem Zds (k:Nat) (a0:List ZQ) (a1:Int) (r:Int) (hM:Za9 k a0 a1=some r):Ctr Tryz.prog 40 [.one (.sl (a0.map ZQ.c)),.one (.int .i64 a1)] true [.one (.int .i64 r)]:=by
 unfold Za9 at hM;refine Zn Tryz.func40 Tryz.ntmps40 Tryz.results40 fun N w0 hbad F=> ?_;refine S1 ?_;refine S1 ?_;refine Ze fun K1 hK1=> ?_;refine S1 ?_;refine Zj hM (fun h2 hM=> ?_) (fun h2 hM=> ?_)
 ·have F:=Zyn (nf F h2) (lT h2);exact au
 ·have F:=Zyn (nf F h2) (lF h2);refine Zh ?_;refine hK1 _ ?_;refine mjE (ι:=Int) [] [] [] (fun i=>[(1,oI i)]) hM ?_ ?_
  ·intro e3 hM hR1 K5 hK5;refine S1 ?_;refine Zc ?_;refine lp (ι:=Int×Int) [0] [] [] (fun i=>[(1,oI i.1),(5,oI i.2)]) (fun n i=>XJ k a0 n i.1 i.2=some e3) k ((IntKind.i64.wrap (a1-(a0.length:Int))),0) hM (by simp [XJ]) ?_;intro KL6 nL6 ⟨x2,x3⟩ hL6 hM _;have hM:XJ k a0 (nL6+1) x2 x3=some e3:=hM;rw [XJ] at hM;exact au
  ·intro x1 hM;dsimp only at hM;exact au
instance:HC 40 (Ty @Zds):=⟨Zds⟩
theorem Zdw (k:Nat) (a0:Zw) (a1:Int) (r:Int) (hM:Ku k a0 a1=some r):Ctr Tryz.prog 91 [.agg (Zw.c a0),.one (.int .i64 a1)] true [.one (.int .i64 r)]:=by
 unfold Ku at hM;refine Zn Tryz.func91 Tryz.ntmps91 Tryz.results91 fun N w0 hbad F=> ?_;exact au
instance:HC 91 (Ty @Zdw):=⟨Zdw⟩
theorem Zcz (k:Nat) (a0:List Zw) (a1:Int) (r:Int) (hM:Kt k a0 a1=some r):Ctr Tryz.prog 41 [.one (.sl (a0.map Zw.c)),.one (.int .i64 a1)] true [.one (.int .i64 r)]:=by
 unfold Kt at hM;refine Zn Tryz.func41 Tryz.ntmps41 Tryz.results41 fun N w0 hbad F=> ?_;refine S1 ?_;refine S1 ?_;refine Ze fun K1 hK1=> ?_;refine S1 ?_;refine Zj hM (fun h2 hM=> ?_) (fun h2 hM=> ?_)
 ·have F:=Zyn (nf F h2) (lT h2);exact au
 ·have F:=Zyn (nf F h2) (lF h2);refine Zh ?_;refine hK1 _ ?_;refine mjE (ι:=Int) [] [] [] (fun i=>[(1,oI i)]) hM ?_ ?_
  ·intro e3 hM hR1 K5 hK5;refine S1 ?_;refine Zc ?_;refine lp (ι:=Int×Int) [0] [] [] (fun i=>[(1,oI i.1),(5,oI i.2)]) (fun n i=>Q8 k a0 n i.1 i.2=some e3) k ((IntKind.i64.wrap (a1-(a0.length:Int))),0) hM (by simp [Q8]) ?_;intro KL6 nL6 ⟨x2,x3⟩ hL6 hM _;have hM:Q8 k a0 (nL6+1) x2 x3=some e3:=hM;rw [Q8] at hM;exact au
  ·intro x1 hM;dsimp only at hM;exact au
instance:HC 41 (Ty @Zcz):=⟨Zcz⟩
theorem Kb (k:Nat) (a0:Zz) (a1:Int) (r:Int) (hM:Kv k a0 a1=some r):Ctr Tryz.prog 14 [.agg (Zz.c a0),.one (.int .i64 a1)] true [.one (.int .i64 r)]:=by
 unfold Kv at hM;refine Zn Tryz.func14 Tryz.ntmps14 Tryz.results14 fun N w0 hbad F=> ?_;exact au
instance:HC 14 (Ty @Kb):=⟨Kb⟩
theorem Zbe (a0:YA) (a1:Int) (r:Int) (hM:Zdx a0 a1=some r):Ctr Tryz.prog 15 [.agg (YA.c a0),.one (.int .i64 a1)] true [.one (.int .i64 r)]:=by
 unfold Zdx at hM;refine Zn Tryz.func15 Tryz.ntmps15 Tryz.results15 fun N w0 hbad F=> ?_;exact au
instance:HC 15 (Ty @Zbe):=⟨Zbe⟩
set_option maxHeartbeats 4000000
set_option maxRecDepth 100000
theorem Ze2 (a0:ZS) (r:ZS) (hM:Zab a0=some r):Ctr Tryz.prog 151 [.agg (ZS.c a0)] true [.agg (ZS.c r)]:=by
 unfold Zab at hM;refine Zn Tryz.func151 Tryz.ntmps151 Tryz.results151 fun N w0 hbad F=> ?_;exact au
instance:HC 151 (Ty @Ze2):=⟨Ze2⟩
theorem Zdm (k:Nat) (a0:List ZS) (r:List ZS) (hM:Za6 k a0=some r):Ctr Tryz.prog 100 [.one (.sl (a0.map ZS.c))] true [.one (.sl (r.map ZS.c))]:=by
 unfold Za6 at hM;refine Zn Tryz.func100 Tryz.ntmps100 Tryz.results100 fun N w0 hbad F=> ?_;refine S1 ?_;obtain ⟨x1,e1,hM⟩:=bind_some hM;obtain ⟨c2,s3⟩:=Jy e1;replace c2:=c2.symm;subst c2;(try simp at s3);have F:=Zyn F s3;refine S1 ?_;refine mj (ι:=List ZS) [] [] [] (fun i=>[(3,oO 448 i.length)]) hM ?_ ?_ (ca:=fun i=>[(448,aT ZS.c i)])
 ·intro e6 hM K8 hK8;refine S1 ?_;refine Zc ?_;refine lp (ι:=(List ZS)×Int) [0] [] [] (fun i=>[(3,oO 448 i.1.length),(4,oI i.2)]) (fun n i=>XH a0 n i.1 i.2=some e6) k ((List.replicate ((a0.length:Int).toNat) (ZS.mk (⟨#[]⟩:ByteArray) 0)),0) hM (by simp [XH]) ?_ (ca:=fun i=>[(448,aT ZS.c i.1)]);intro KL9 nL9 ⟨x3,x4⟩ hL9 hM _;have hM:XH a0 (nL9+1) x3 x4=some e6:=hM;rw [XH] at hM;exact au
 ·intro x2 hM;(try dsimp only at hM);exact au
instance:HC 100 (Ty @Zdm):=⟨Zdm⟩
theorem Zdg (k:Nat) (a0:Yo) (r:Yo) (hM:Za1 k a0=some r):Ctr Tryz.prog 49 [.agg (Yo.c a0)] true [.agg (Yo.c r)]:=by
 unfold Za1 at hM;refine Zn Tryz.func49 Tryz.ntmps49 Tryz.results49 fun N w0 hbad F=> ?_;exact au
instance:HC 49 (Ty @Zdg):=⟨Zdg⟩
theorem Za3 (k:Nat) (a0:List ByteArray) (r:List ByteArray) (hM:U3 k a0=some r):Ctr Tryz.prog 198 [.one (.sl (a0.map sC))] true [.one (.sl (r.map sC))]:=by
 unfold U3 at hM;refine Zn Tryz.func198 Tryz.ntmps198 Tryz.results198 fun N w0 hbad F=> ?_;refine S1 ?_;obtain ⟨x1,e1,hM⟩:=bind_some hM;obtain ⟨c2,s3⟩:=Jy e1;replace c2:=c2.symm;subst c2;(try simp at s3);have F:=Zyn F s3;refine S1 ?_;refine mj (ι:=List ByteArray) [] [] [] (fun i=>[(3,oO 448 i.length)]) hM ?_ ?_ (ca:=fun i=>[(448,aT sC i)])
 ·intro e6 hM K8 hK8;refine S1 ?_;refine Zc ?_;refine lp (ι:=(List ByteArray)×Int) [0] [] [] (fun i=>[(3,oO 448 i.1.length),(4,oI i.2)]) (fun n i=>QB a0 n i.1 i.2=some e6) k ((List.replicate ((a0.length:Int).toNat) (⟨#[]⟩:ByteArray)),0) hM (by simp [QB]) ?_ (ca:=fun i=>[(448,aT sC i.1)]);intro KL9 nL9 ⟨x3,x4⟩ hL9 hM _;have hM:QB a0 (nL9+1) x3 x4=some e6:=hM;rw [QB] at hM;exact au
 ·intro x2 hM;(try dsimp only at hM);exact au
instance:HC 198 (Ty @Za3):=⟨Za3⟩
theorem Ze1 (k:Nat) (a0:List Int) (r:List Int) (hM:ZbZ k a0=some r):Ctr Tryz.prog 153 [.one (.sl (a0.map iC))] true [.one (.sl (r.map iC))]:=by
 unfold ZbZ at hM;refine Zn Tryz.func153 Tryz.ntmps153 Tryz.results153 fun N w0 hbad F=> ?_;refine S1 ?_;obtain ⟨x1,e1,hM⟩:=bind_some hM;obtain ⟨c2,s3⟩:=Jy e1;replace c2:=c2.symm;subst c2;(try simp at s3);have F:=Zyn F s3;refine S1 ?_;refine mj (ι:=List Int) [] [] [] (fun i=>[(3,oO 448 i.length)]) hM ?_ ?_ (ca:=fun i=>[(448,aT iC i)])
 ·intro e6 hM K8 hK8;refine S1 ?_;refine Zc ?_;refine lp (ι:=(List Int)×Int) [0] [] [] (fun i=>[(3,oO 448 i.1.length),(4,oI i.2)]) (fun n i=>Wm a0 n i.1 i.2=some e6) k ((List.replicate ((a0.length:Int).toNat) 0),0) hM (by simp [Wm]) ?_ (ca:=fun i=>[(448,aT iC i.1)]);intro KL9 nL9 ⟨x3,x4⟩ hL9 hM _;have hM:Wm a0 (nL9+1) x3 x4=some e6:=hM;rw [Wm] at hM;exact au
 ·intro x2 hM;(try dsimp only at hM);exact au
instance:HC 153 (Ty @Ze1):=⟨Ze1⟩
theorem Zcx (a0:Zo) (r:Zo) (hM:VL a0=some r):Ctr Tryz.prog 298 [.agg (Zo.c a0)] true [.agg (Zo.c r)]:=by
 unfold VL at hM;refine Zn Tryz.func298 Tryz.ntmps298 Tryz.results298 fun N w0 hbad F=> ?_;exact au
instance:HC 298 (Ty @Zcx):=⟨Zcx⟩
theorem Za5 (k:Nat) (a0:List Zo) (r:List Zo) (hM:U4 k a0=some r):Ctr Tryz.prog 281 [.one (.sl (a0.map Zo.c))] true [.one (.sl (r.map Zo.c))]:=by
 unfold U4 at hM;refine Zn Tryz.func281 Tryz.ntmps281 Tryz.results281 fun N w0 hbad F=> ?_;refine S1 ?_;obtain ⟨x1,e1,hM⟩:=bind_some hM;obtain ⟨c2,s3⟩:=Jy e1;replace c2:=c2.symm;subst c2;(try simp at s3);have F:=Zyn F s3;refine S1 ?_;refine mj (ι:=List Zo) [] [] [] (fun i=>[(3,oO 448 i.length)]) hM ?_ ?_ (ca:=fun i=>[(448,aT Zo.c i)])
 ·intro e6 hM K8 hK8;refine S1 ?_;refine Zc ?_;refine lp (ι:=(List Zo)×Int) [0] [] [] (fun i=>[(3,oO 448 i.1.length),(4,oI i.2)]) (fun n i=>QC a0 n i.1 i.2=some e6) k ((List.replicate ((a0.length:Int).toNat) (Zo.mk 0 0)),0) hM (by simp [QC]) ?_ (ca:=fun i=>[(448,aT Zo.c i.1)]);intro KL9 nL9 ⟨x3,x4⟩ hL9 hM _;have hM:QC a0 (nL9+1) x3 x4=some e6:=hM;rw [QC] at hM;exact au
 ·intro x2 hM;(try dsimp only at hM);exact au
instance:HC 281 (Ty @Za5):=⟨Za5⟩
theorem Zf3 (k:Nat) (a0:ZN) (r:ZN) (hM:Zex k a0=some r):Ctr Tryz.prog 249 [.agg (ZN.c a0)] true [.agg (ZN.c r)]:=by
 unfold Zex at hM;refine Zn Tryz.func249 Tryz.ntmps249 Tryz.results249 fun N w0 hbad F=> ?_;exact au
instance:HC 249 (Ty @Zf3):=⟨Zf3⟩
theorem ZeY (k:Nat) (a0:List ZN) (r:List ZN) (hM:Zdk k a0=some r):Ctr Tryz.prog 199 [.one (.sl (a0.map ZN.c))] true [.one (.sl (r.map ZN.c))]:=by
 unfold Zdk at hM;refine Zn Tryz.func199 Tryz.ntmps199 Tryz.results199 fun N w0 hbad F=> ?_;refine S1 ?_;obtain ⟨x1,e1,hM⟩:=bind_some hM;obtain ⟨c2,s3⟩:=Jy e1;replace c2:=c2.symm;subst c2;(try simp at s3);have F:=Zyn F s3;refine S1 ?_;refine mj (ι:=List ZN) [] [] [] (fun i=>[(3,oO 448 i.length)]) hM ?_ ?_ (ca:=fun i=>[(448,aT ZN.c i)])
 ·intro e6 hM K8 hK8;refine S1 ?_;refine Zc ?_;refine lp (ι:=(List ZN)×Int) [0] [] [] (fun i=>[(3,oO 448 i.1.length),(4,oI i.2)]) (fun n i=>Wl k a0 n i.1 i.2=some e6) k ((List.replicate ((a0.length:Int).toNat) (ZN.mk [] [])),0) hM (by simp [Wl]) ?_ (ca:=fun i=>[(448,aT ZN.c i.1)]);intro KL9 nL9 ⟨x3,x4⟩ hL9 hM _;have hM:Wl k a0 (nL9+1) x3 x4=some e6:=hM;rw [Wl] at hM;exact au
 ·intro x2 hM;(try dsimp only at hM);exact au
instance:HC 199 (Ty @ZeY):=⟨ZeY⟩
theorem Zg5:∀(k:Nat),(∀(a0:List Za) (r:List Za) (hM:UR k a0=some r),Ctr Tryz.prog 197 [.one (.sl (a0.map Za.c))] true [.one (.sl (r.map Za.c))])/\
  (∀(a0:Za) (r:Za) (hM:QT k a0=some r),Ctr Tryz.prog 154 [.agg (Za.c a0)] true [.agg (Za.c r)]):=by
 intro k
 induction k with
 | zero=>exact ⟨by intro a0 r hM;simp [UR] at hM,by intro a0 r hM;simp [QT] at hM⟩
 | succ k ih=>
  obtain ⟨ih_w_toValueS,ih_w_toValue⟩:=ih;refine ⟨?_, ?_⟩
  ·intro a0 r hM;haveI:HC 197 _:=⟨ih_w_toValueS⟩;haveI:HC 154 _:=⟨ih_w_toValue⟩;rw [UR] at hM;refine Zn Tryz.func197 Tryz.ntmps197 Tryz.results197 fun N w0 hbad F=> ?_;refine S1 ?_;obtain ⟨x1,e1,hM⟩:=bind_some hM;obtain ⟨c2,s3⟩:=Jy e1;replace c2:=c2.symm;subst c2;(try simp at s3);have F:=Zyn F s3;refine S1 ?_;refine mj (ι:=List Za) [] [] [] (fun i=>[(3,oO 448 i.length)]) hM ?_ ?_ (ca:=fun i=>[(448,aT Za.c i)])
   ·intro e6 hM K8 hK8;refine S1 ?_;refine Zc ?_;refine lp (ι:=(List Za)×Int) [0] [] [] (fun i=>[(3,oO 448 i.1.length),(4,oI i.2)]) (fun n i=>Q5 (QT k) a0 n i.1 i.2=some e6) k ((List.replicate ((a0.length:Int).toNat) (Za.mk 0 0 0 (⟨#[]⟩:ByteArray) [] [] [])),0) hM (by simp [Q5]) ?_ (ca:=fun i=>[(448,aT Za.c i.1)]);intro KL9 nL9 ⟨x3,x4⟩ hL9 hM _;have hM:Q5 (QT k) a0 (nL9+1) x3 x4=some e6:=hM;rw [Q5] at hM;exact au
   ·intro x2 hM;(try dsimp only at hM);exact au
  ·intro a0 r hM;haveI:HC 197 _:=⟨ih_w_toValueS⟩;haveI:HC 154 _:=⟨ih_w_toValue⟩;rw [QT] at hM;refine Zn Tryz.func154 Tryz.ntmps154 Tryz.results154 fun N w0 hbad F=> ?_;exact au
theorem Zdi (k:Nat):∀(a0:Za) (r:Za) (hM:QT k a0=some r),Ctr Tryz.prog 154 [.agg (Za.c a0)] true [.agg (Za.c r)]:=(Zg5 k).2
instance:HC 154 (Ty @Zdi):=⟨Zdi⟩
theorem ZeZ (k:Nat) (a0:ZR) (r:ZR) (hM:ZbY k a0=some r):Ctr Tryz.prog 196 [.agg (ZR.c a0)] true [.agg (ZR.c r)]:=by
 unfold ZbY at hM;refine Zn Tryz.func196 Tryz.ntmps196 Tryz.results196 fun N w0 hbad F=> ?_;exact au
instance:HC 196 (Ty @ZeZ):=⟨ZeZ⟩
theorem Zdl (k:Nat) (a0:List ZR) (r:List ZR) (hM:Za4 k a0=some r):Ctr Tryz.prog 152 [.one (.sl (a0.map ZR.c))] true [.one (.sl (r.map ZR.c))]:=by
 unfold Za4 at hM;refine Zn Tryz.func152 Tryz.ntmps152 Tryz.results152 fun N w0 hbad F=> ?_;refine S1 ?_;obtain ⟨x1,e1,hM⟩:=bind_some hM;obtain ⟨c2,s3⟩:=Jy e1;replace c2:=c2.symm;subst c2;(try simp at s3);have F:=Zyn F s3;refine S1 ?_;refine mj (ι:=List ZR) [] [] [] (fun i=>[(3,oO 448 i.length)]) hM ?_ ?_ (ca:=fun i=>[(448,aT ZR.c i)])
 ·intro e6 hM K8 hK8;refine S1 ?_;refine Zc ?_;refine lp (ι:=(List ZR)×Int) [0] [] [] (fun i=>[(3,oO 448 i.1.length),(4,oI i.2)]) (fun n i=>XG k a0 n i.1 i.2=some e6) k ((List.replicate ((a0.length:Int).toNat) (ZR.mk 0 0 0 (⟨#[]⟩:ByteArray) (Za.mk 0 0 0 (⟨#[]⟩:ByteArray) [] [] []))),0) hM (by simp [XG]) ?_ (ca:=fun i=>[(448,aT ZR.c i.1)]);intro KL9 nL9 ⟨x3,x4⟩ hL9 hM _;have hM:XG k a0 (nL9+1) x3 x4=some e6:=hM;rw [XG] at hM;exact au
 ·intro x2 hM;(try dsimp only at hM);exact au
instance:HC 152 (Ty @Zdl):=⟨Zdl⟩
theorem ZeX (k:Nat) (a0:ZQ) (r:ZQ) (hM:ZbX k a0=some r):Ctr Tryz.prog 101 [.agg (ZQ.c a0)] true [.agg (ZQ.c r)]:=by
 unfold ZbX at hM;refine Zn Tryz.func101 Tryz.ntmps101 Tryz.results101 fun N w0 hbad F=> ?_;exact au
instance:HC 101 (Ty @ZeX):=⟨ZeX⟩
set_option maxHeartbeats 4000000
set_option maxRecDepth 100000
theorem Zdj (k:Nat) (a0:List ZQ) (r:List ZQ) (hM:Za2 k a0=some r):Ctr Tryz.prog 50 [.one (.sl (a0.map ZQ.c))] true [.one (.sl (r.map ZQ.c))]:=by
 unfold Za2 at hM;refine Zn Tryz.func50 Tryz.ntmps50 Tryz.results50 fun N w0 hbad F=> ?_;refine S1 ?_;obtain ⟨x1,e1,hM⟩:=bind_some hM;obtain ⟨c2,s3⟩:=Jy e1;replace c2:=c2.symm;subst c2;(try simp at s3);have F:=Zyn F s3;refine S1 ?_;refine mj (ι:=List ZQ) [] [] [] (fun i=>[(3,oO 448 i.length)]) hM ?_ ?_ (ca:=fun i=>[(448,aT ZQ.c i)])
 ·intro e6 hM K8 hK8;refine S1 ?_;refine Zc ?_;refine lp (ι:=(List ZQ)×Int) [0] [] [] (fun i=>[(3,oO 448 i.1.length),(4,oI i.2)]) (fun n i=>XF k a0 n i.1 i.2=some e6) k ((List.replicate ((a0.length:Int).toNat) (ZQ.mk 0 0 [])),0) hM (by simp [XF]) ?_ (ca:=fun i=>[(448,aT ZQ.c i.1)]);intro KL9 nL9 ⟨x3,x4⟩ hL9 hM _;have hM:XF k a0 (nL9+1) x3 x4=some e6:=hM;rw [XF] at hM;exact au
 ·intro x2 hM;(try dsimp only at hM);exact au
instance:HC 50 (Ty @Zdj):=⟨Zdj⟩
theorem Zdn (k:Nat) (a0:Zw) (r:Zw) (hM:Ks k a0=some r):Ctr Tryz.prog 102 [.agg (Zw.c a0)] true [.agg (Zw.c r)]:=by
 unfold Ks at hM;refine Zn Tryz.func102 Tryz.ntmps102 Tryz.results102 fun N w0 hbad F=> ?_;exact au
instance:HC 102 (Ty @Zdn):=⟨Zdn⟩
theorem Zcy (k:Nat) (a0:List Zw) (r:List Zw) (hM:Kr k a0=some r):Ctr Tryz.prog 51 [.one (.sl (a0.map Zw.c))] true [.one (.sl (r.map Zw.c))]:=by
 unfold Kr at hM;refine Zn Tryz.func51 Tryz.ntmps51 Tryz.results51 fun N w0 hbad F=> ?_;refine S1 ?_;obtain ⟨x1,e1,hM⟩:=bind_some hM;obtain ⟨c2,s3⟩:=Jy e1;replace c2:=c2.symm;subst c2;(try simp at s3);have F:=Zyn F s3;refine S1 ?_;refine mj (ι:=List Zw) [] [] [] (fun i=>[(3,oO 448 i.length)]) hM ?_ ?_ (ca:=fun i=>[(448,aT Zw.c i)])
 ·intro e6 hM K8 hK8;refine S1 ?_;refine Zc ?_;refine lp (ι:=(List Zw)×Int) [0] [] [] (fun i=>[(3,oO 448 i.1.length),(4,oI i.2)]) (fun n i=>Q6 k a0 n i.1 i.2=some e6) k ((List.replicate ((a0.length:Int).toNat) (Zw.mk 0 0 0 [] (Za.mk 0 0 0 (⟨#[]⟩:ByteArray) [] [] []) false)),0) hM (by simp [Q6]) ?_ (ca:=fun i=>[(448,aT Zw.c i.1)]);intro KL9 nL9 ⟨x3,x4⟩ hL9 hM _;have hM:Q6 k a0 (nL9+1) x3 x4=some e6:=hM;rw [Q6] at hM;exact au
 ·intro x2 hM;(try dsimp only at hM);exact au
instance:HC 51 (Ty @Zcy):=⟨Zcy⟩
theorem W5 (k:Nat) (a0:Zz) (r:Zz) (hM:VM k a0=some r):Ctr Tryz.prog 17 [.agg (Zz.c a0)] true [.agg (Zz.c r)]:=by
 unfold VM at hM;refine Zn Tryz.func17 Tryz.ntmps17 Tryz.results17 fun N w0 hbad F=> ?_;exact au
instance:HC 17 (Ty @W5):=⟨W5⟩
theorem JP (a0:YA) (r:YA) (hM:Zb0 a0=some r):Ctr Tryz.prog 18 [.agg (YA.c a0)] true [.agg (YA.c r)]:=by
 unfold Zb0 at hM;refine Zn Tryz.func18 Tryz.ntmps18 Tryz.results18 fun N w0 hbad F=> ?_;exact au
instance:HC 18 (Ty @JP):=⟨JP⟩
theorem Zbn (a0:ZS) (a1:ZS) (r:Bool) (hM:Zaf a0 a1=some r):Ctr Tryz.prog 163 [.agg (ZS.c a0),.agg (ZS.c a1)] true [.one (.bool r)]:=by
 unfold Zaf at hM;refine Zn Tryz.func163 Tryz.ntmps163 Tryz.results163 fun N w0 hbad F=> ?_;exact au
instance:HC 163 (Ty @Zbn):=⟨Zbn⟩
theorem ZdD (k:Nat) (a0:List ZS) (a1:List ZS) (r:Bool) (hM:Zbo k a0 a1=some r):Ctr Tryz.prog 108 [.one (.sl (a0.map ZS.c)),.one (.sl (a1.map ZS.c))] true [.one (.bool r)]:=by
 unfold Zbo at hM;refine Zn Tryz.func108 Tryz.ntmps108 Tryz.results108 fun N w0 hbad F=> ?_;refine S1 ?_;refine Ze fun K1 hK1=> ?_;refine S1 ?_;refine Zj hM (fun h2 hM=> ?_) (fun h2 hM=> ?_)
 ·have F:=nf F h2;exact au
 ·have F:=nf F h2;refine Zh ?_;refine hK1 _ ?_;refine mjE (ι:=Unit) [] [] [] (fun i=>[]) hM ?_ ?_
  ·intro e3 hM hR1 K5 hK5;refine S1 ?_;refine Zc ?_;refine lp (ι:=Int) [0,1] [] [] (fun i=>[(5,oI i)]) (fun n i=>XP a0 a1 n i=some e3) k 0 hM (by simp [XP]) ?_;intro KL6 nL6 x1 hL6 hM _;have hM:XP a0 a1 (nL6+1) x1=some e3:=hM;rw [XP] at hM;refine Ze fun K7 hK7=> ?_;refine S1 ?_;refine Zj hM (fun h8 hM=> ?_) (fun h8 hM=> ?_)
   ·have F:=Zyn (nf F h8) (lT h8);refine Zh ?_;refine hK7 _ ?_;refine Ze fun K9 hK9=> ?_;refine Zc ?_;refine Ze fun K10 hK10=> ?_;obtain ⟨x2,e11,hM⟩:=bind_some hM;have F:=Zyn F (Xy e11);obtain ⟨x3,e12,hM⟩:=bind_some hM;have F:=Zyn F (Xy e12);obtain ⟨x4,e13,hM⟩:=bind_some hM;refine Zt 8 mixed (by kernel_rfl) (by kernel_rfl) ?_;simp [go_sem,F];refine Yl false (Zbn x2 x3 x4 e13) ?_;simp [go_sem,F];exact au
   ·have F:=Zyn (nf F h8) (lF h8);exact au
  ·intro _ hM;dsimp only at hM;exact au
instance:HC 108 (Ty @ZdD):=⟨ZdD⟩
theorem Zad (k:Nat) (a0:Yo) (a1:Yo) (r:Bool) (hM:Zbg k a0 a1=some r):Ctr Tryz.prog 59 [.agg (Yo.c a0),.agg (Yo.c a1)] true [.one (.bool r)]:=by
 unfold Zbg at hM;refine Zn Tryz.func59 Tryz.ntmps59 Tryz.results59 fun N w0 hbad F=> ?_;exact au
instance:HC 59 (Ty @Zad):=⟨Zad⟩
theorem U7 (k:Nat) (a0:List ByteArray) (a1:List ByteArray) (r:Bool) (hM:U8 k a0 a1=some r):Ctr Tryz.prog 203 [.one (.sl (a0.map sC)),.one (.sl (a1.map sC))] true [.one (.bool r)]:=by
 unfold U8 at hM;refine Zn Tryz.func203 Tryz.ntmps203 Tryz.results203 fun N w0 hbad F=> ?_;refine S1 ?_;refine Ze fun K1 hK1=> ?_;refine S1 ?_;refine Zj hM (fun h2 hM=> ?_) (fun h2 hM=> ?_)
 ·have F:=nf F h2;exact au
 ·have F:=nf F h2;refine Zh ?_;refine hK1 _ ?_;refine mjE (ι:=Unit) [] [] [] (fun i=>[]) hM ?_ ?_
  ·intro e3 hM hR1 K5 hK5;refine S1 ?_;refine Zc ?_;refine lp (ι:=Int) [0,1] [] [] (fun i=>[(5,oI i)]) (fun n i=>QE a0 a1 n i=some e3) k 0 hM (by simp [QE]) ?_;intro KL6 nL6 x1 hL6 hM _;have hM:QE a0 a1 (nL6+1) x1=some e3:=hM;rw [QE] at hM;refine Ze fun K7 hK7=> ?_;refine S1 ?_;refine Zj hM (fun h8 hM=> ?_) (fun h8 hM=> ?_)
   ·have F:=Zyn (nf F h8) (lT h8);refine Zh ?_;refine hK7 _ ?_;refine Ze fun K9 hK9=> ?_;refine Zc ?_;refine Ze fun K10 hK10=> ?_;obtain ⟨x2,e11,hM⟩:=bind_some hM;have F:=Zyn F (Xy e11);obtain ⟨x3,e12,hM⟩:=bind_some hM;have F:=Zyn F (Xy e12);refine Zt 8 mixed (by kernel_rfl) (by kernel_rfl) ?_;simp [go_sem,F];exact au
   ·have F:=Zyn (nf F h8) (lF h8);exact au
  ·intro _ hM;dsimp only at hM;exact au
instance:HC 203 (Ty @U7):=⟨U7⟩
theorem Kc (a0:Zo) (a1:Zo) (r:Bool) (hM:VN a0 a1=some r):Ctr Tryz.prog 308 [.agg (Zo.c a0),.agg (Zo.c a1)] true [.one (.bool r)]:=by
 unfold VN at hM;refine Zn Tryz.func308 Tryz.ntmps308 Tryz.results308 fun N w0 hbad F=> ?_;exact au
instance:HC 308 (Ty @Kc):=⟨Kc⟩
theorem Zbm (k:Nat) (a0:List Zo) (a1:List Zo) (r:Bool) (hM:U9 k a0 a1=some r):Ctr Tryz.prog 283 [.one (.sl (a0.map Zo.c)),.one (.sl (a1.map Zo.c))] true [.one (.bool r)]:=by
 unfold U9 at hM;refine Zn Tryz.func283 Tryz.ntmps283 Tryz.results283 fun N w0 hbad F=> ?_;refine S1 ?_;refine Ze fun K1 hK1=> ?_;refine S1 ?_;refine Zj hM (fun h2 hM=> ?_) (fun h2 hM=> ?_)
 ·have F:=nf F h2;exact au
 ·have F:=nf F h2;refine Zh ?_;refine hK1 _ ?_;refine mjE (ι:=Unit) [] [] [] (fun i=>[]) hM ?_ ?_
  ·intro e3 hM hR1 K5 hK5;refine S1 ?_;refine Zc ?_;refine lp (ι:=Int) [0,1] [] [] (fun i=>[(5,oI i)]) (fun n i=>QF a0 a1 n i=some e3) k 0 hM (by simp [QF]) ?_;intro KL6 nL6 x1 hL6 hM _;have hM:QF a0 a1 (nL6+1) x1=some e3:=hM;rw [QF] at hM;refine Ze fun K7 hK7=> ?_;refine S1 ?_;refine Zj hM (fun h8 hM=> ?_) (fun h8 hM=> ?_)
   ·have F:=Zyn (nf F h8) (lT h8);refine Zh ?_;refine hK7 _ ?_;refine Ze fun K9 hK9=> ?_;refine Zc ?_;refine Ze fun K10 hK10=> ?_;obtain ⟨x2,e11,hM⟩:=bind_some hM;have F:=Zyn F (Xy e11);obtain ⟨x3,e12,hM⟩:=bind_some hM;have F:=Zyn F (Xy e12);obtain ⟨x4,e13,hM⟩:=bind_some hM;refine Zt 8 mixed (by kernel_rfl) (by kernel_rfl) ?_;simp [go_sem,F];refine Yl false (Kc x2 x3 x4 e13) ?_;simp [go_sem,F];exact au
   ·have F:=Zyn (nf F h8) (lF h8);exact au
  ·intro _ hM;dsimp only at hM;exact au
instance:HC 283 (Ty @Zbm):=⟨Zbm⟩
theorem ZcP (k:Nat) (a0:ZN) (a1:ZN) (r:Bool) (hM:Zey k a0 a1=some r):Ctr Tryz.prog 251 [.agg (ZN.c a0),.agg (ZN.c a1)] true [.one (.bool r)]:=by
 unfold Zey at hM;refine Zn Tryz.func251 Tryz.ntmps251 Tryz.results251 fun N w0 hbad F=> ?_;exact au
instance:HC 251 (Ty @ZcP):=⟨ZcP⟩
theorem Zbj (k:Nat) (a0:List ZN) (a1:List ZN) (r:Bool) (hM:ZdB k a0 a1=some r):Ctr Tryz.prog 204 [.one (.sl (a0.map ZN.c)),.one (.sl (a1.map ZN.c))] true [.one (.bool r)]:=by
 unfold ZdB at hM;refine Zn Tryz.func204 Tryz.ntmps204 Tryz.results204 fun N w0 hbad F=> ?_;refine S1 ?_;refine Ze fun K1 hK1=> ?_;refine S1 ?_;refine Zj hM (fun h2 hM=> ?_) (fun h2 hM=> ?_)
 ·have F:=nf F h2;exact au
 ·have F:=nf F h2;refine Zh ?_;refine hK1 _ ?_;refine mjE (ι:=Unit) [] [] [] (fun i=>[]) hM ?_ ?_
  ·intro e3 hM hR1 K5 hK5;refine S1 ?_;refine Zc ?_;refine lp (ι:=Int) [0,1] [] [] (fun i=>[(5,oI i)]) (fun n i=>Wo k a0 a1 n i=some e3) k 0 hM (by simp [Wo]) ?_;intro KL6 nL6 x1 hL6 hM _;have hM:Wo k a0 a1 (nL6+1) x1=some e3:=hM;rw [Wo] at hM;refine Ze fun K7 hK7=> ?_;refine S1 ?_;refine Zj hM (fun h8 hM=> ?_) (fun h8 hM=> ?_)
   ·have F:=Zyn (nf F h8) (lT h8);refine Zh ?_;refine hK7 _ ?_;refine Ze fun K9 hK9=> ?_;refine Zc ?_;refine Ze fun K10 hK10=> ?_;obtain ⟨x2,e11,hM⟩:=bind_some hM;have F:=Zyn F (Xy e11);obtain ⟨x3,e12,hM⟩:=bind_some hM;have F:=Zyn F (Xy e12);obtain ⟨x4,e13,hM⟩:=bind_some hM;refine Zt 8 mixed (by kernel_rfl) (by kernel_rfl) ?_;simp [go_sem,F];refine Yl false (ZcP k x2 x3 x4 e13) ?_;simp [go_sem,F];exact au
   ·have F:=Zyn (nf F h8) (lF h8);exact au
  ·intro _ hM;dsimp only at hM;exact au
instance:HC 204 (Ty @Zbj):=⟨Zbj⟩
theorem Zhd:∀(k:Nat),(∀(a0:List Za) (a1:List Za) (r:Bool) (hM:UT k a0 a1=some r),Ctr Tryz.prog 202 [.one (.sl (a0.map Za.c)),.one (.sl (a1.map Za.c))] true [.one (.bool r)])/\
  (∀(a0:Za) (a1:Za) (r:Bool) (hM:QV k a0 a1=some r),Ctr Tryz.prog 165 [.agg (Za.c a0),.agg (Za.c a1)] true [.one (.bool r)]):=by
 intro k
 induction k with
 | zero=>exact ⟨by intro a0 a1 r hM;simp [UT] at hM,by intro a0 a1 r hM;simp [QV] at hM⟩
 | succ k ih=>
  obtain ⟨ih_w_eqValueS,ih_w_eqValue⟩:=ih;refine ⟨?_, ?_⟩
  ·intro a0 a1 r hM;haveI:HC 202 _:=⟨ih_w_eqValueS⟩;haveI:HC 165 _:=⟨ih_w_eqValue⟩;rw [UT] at hM;refine Zn Tryz.func202 Tryz.ntmps202 Tryz.results202 fun N w0 hbad F=> ?_;refine S1 ?_;refine Ze fun K1 hK1=> ?_;refine S1 ?_;refine Zj hM (fun h2 hM=> ?_) (fun h2 hM=> ?_)
   ·have F:=nf F h2;exact au
   ·have F:=nf F h2;refine Zh ?_;refine hK1 _ ?_;refine mjE (ι:=Unit) [] [] [] (fun i=>[]) hM ?_ ?_
    ·intro e3 hM hR1 K5 hK5;refine S1 ?_;refine Zc ?_;refine lp (ι:=Int) [0,1] [] [] (fun i=>[(5,oI i)]) (fun n i=>Q9 (QV k) a0 a1 n i=some e3) k 0 hM (by simp [Q9]) ?_;intro KL6 nL6 x1 hL6 hM _;have hM:Q9 (QV k) a0 a1 (nL6+1) x1=some e3:=hM;rw [Q9] at hM;refine Ze fun K7 hK7=> ?_;refine S1 ?_;refine Zj hM (fun h8 hM=> ?_) (fun h8 hM=> ?_)
     ·have F:=Zyn (nf F h8) (lT h8);refine Zh ?_;refine hK7 _ ?_;refine Ze fun K9 hK9=> ?_;refine Zc ?_;refine Ze fun K10 hK10=> ?_;obtain ⟨x2,e11,hM⟩:=bind_some hM;have F:=Zyn F (Xy e11);obtain ⟨x3,e12,hM⟩:=bind_some hM;have F:=Zyn F (Xy e12);obtain ⟨x4,e13,hM⟩:=bind_some hM;refine Zt 8 mixed (by kernel_rfl) (by kernel_rfl) ?_;simp [go_sem,F];refine Yl false (ih_w_eqValue x2 x3 x4 e13) ?_;simp [go_sem,F];exact au
     ·have F:=Zyn (nf F h8) (lF h8);exact au
    ·intro _ hM;dsimp only at hM;exact au
  ·intro a0 a1 r hM;haveI:HC 202 _:=⟨ih_w_eqValueS⟩;haveI:HC 165 _:=⟨ih_w_eqValue⟩;rw [QV] at hM;refine Zn Tryz.func165 Tryz.ntmps165 Tryz.results165 fun N w0 hbad F=> ?_;refine S1 ?_;refine Ze fun K1 hK1=> ?_;refine S1 ?_;refine Zj hM (fun h2 hM=> ?_) (fun h2 hM=> ?_)
   ·have F:=nf F h2;exact au
   ·have F:=nf F h2;refine Zh ?_;refine hK1 _ ?_;refine Ze fun K3 hK3=> ?_;refine S1 ?_;refine Zj hM (fun h4 hM=> ?_) (fun h4 hM=> ?_)
    ·have F:=nf F h4;exact au
    ·have F:=nf F h4;refine Zh ?_;refine hK3 _ ?_;refine Ze fun K5 hK5=> ?_;refine S1 ?_;refine Zj hM (fun h6 hM=> ?_) (fun h6 hM=> ?_)
     ·have F:=nf F h6;exact au
     ·have F:=nf F h6;refine Zh ?_;refine hK5 _ ?_;refine Ze fun K7 hK7=> ?_;refine S1 ?_;refine Zj hM (fun h8 hM=> ?_) (fun h8 hM=> ?_)
      ·have F:=nf F h8;exact au
      ·have F:=nf F h8;refine Zh ?_;refine hK7 _ ?_;refine Ze fun K9 hK9=> ?_;obtain ⟨x1,e10,hM⟩:=bind_some hM;refine Zv fun K h=> ?_;simp [go_sem,F];refine Yl false (ih_w_eqValueS a0.list a1.list x1 e10) ?_;simp [go_sem,F];refine h _ ?_;refine Zj hM (fun h11 hM=> ?_) (fun h11 hM=> ?_)
       ·have F:=nf F h11;exact au
       ·have F:=nf F h11;refine Zh ?_;refine hK9 _ ?_;refine Ze fun K12 hK12=> ?_;obtain ⟨x2,e13,hM⟩:=bind_some hM;refine Zv fun K h=> ?_;simp [go_sem,F];refine Yl false (U7 k a0.columns a1.columns x2 e13) ?_;simp [go_sem,F];refine h _ ?_;refine Zj hM (fun h14 hM=> ?_) (fun h14 hM=> ?_)
        ·have F:=nf F h14;exact au
        ·have F:=nf F h14;refine Zh ?_;refine hK12 _ ?_;refine Ze fun K15 hK15=> ?_;obtain ⟨x3,e16,hM⟩:=bind_some hM;refine Zv fun K h=> ?_;simp [go_sem,F];refine Yl false (Zbj k a0.rows a1.rows x3 e16) ?_;simp [go_sem,F];refine h _ ?_;refine Zj hM (fun h17 hM=> ?_) (fun h17 hM=> ?_)
         ·have F:=nf F h17;refine le1 [] [] [] ?_;exact au
         ·have F:=nf F h17;refine Zh ?_;refine hK15 _ ?_;refine le1 [] [] [] ?_;exact au
theorem ZdA (k:Nat):∀(a0:Za) (a1:Za) (r:Bool) (hM:QV k a0 a1=some r),Ctr Tryz.prog 165 [.agg (Za.c a0),.agg (Za.c a1)] true [.one (.bool r)]:=(Zhd k).2
instance:HC 165 (Ty @ZdA):=⟨ZdA⟩
end Go.Proofs.YtbkllghhcphkaaaGreatDoor
