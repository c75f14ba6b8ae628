import Derived.Test.YtbkllghhcphkaaaGreatDoorJ18
set_option linter.unusedSimpArgs false
set_option linter.unusedVariables false
namespace Go.Proofs.YtbkllghhcphkaaaGreatDoor
open Go.RowKit Am
set_option maxHeartbeats 4000000
set_option maxRecDepth 100000
theorem Zbk (k:Nat) (a0:ZR) (a1:ZR) (r:Bool) (hM:Zb5 k a0 a1=some r):Ctr Tryz.prog 201 [.agg (ZR.c a0),.agg (ZR.c a1)] true [.one (.bool r)]:=by
 unfold Zb5 at hM;refine Zn Tryz.func201 Tryz.ntmps201 Tryz.results201 fun N w0 hbad F=> ?_;exact au
instance:HC 201 (Ty @Zbk):=⟨Zbk⟩
theorem ZdC (k:Nat) (a0:List ZR) (a1:List ZR) (r:Bool) (hM:Zbl k a0 a1=some r):Ctr Tryz.prog 164 [.one (.sl (a0.map ZR.c)),.one (.sl (a1.map ZR.c))] true [.one (.bool r)]:=by
 unfold Zbl at hM;refine Zn Tryz.func164 Tryz.ntmps164 Tryz.results164 fun N w0 hbad F=> ?_;refine S1 ?_;refine Ze fun K1 hK1=> ?_;refine S1 ?_;refine Zj hM (fun h2 hM=> ?_) (fun h2 hM=> ?_)
 ·have F:=nf F h2;exact au
 ·have F:=nf F h2;refine Zh ?_;refine hK1 _ ?_;refine mjE (ι:=Unit) [] [] [] (fun i=>[]) hM ?_ ?_
  ·intro e3 hM hR1 K5 hK5;refine S1 ?_;refine Zc ?_;refine lp (ι:=Int) [0,1] [] [] (fun i=>[(5,oI i)]) (fun n i=>XO k a0 a1 n i=some e3) k 0 hM (by simp [XO]) ?_;intro KL6 nL6 x1 hL6 hM _;have hM:XO k a0 a1 (nL6+1) x1=some e3:=hM;rw [XO] at hM;refine Ze fun K7 hK7=> ?_;refine S1 ?_;refine Zj hM (fun h8 hM=> ?_) (fun h8 hM=> ?_)
   ·have F:=Zyn (nf F h8) (lT h8);refine Zh ?_;refine hK7 _ ?_;refine Ze fun K9 hK9=> ?_;refine Zc ?_;refine Ze fun K10 hK10=> ?_;obtain ⟨x2,e11,hM⟩:=bind_some hM;have F:=Zyn F (Xy e11);obtain ⟨x3,e12,hM⟩:=bind_some hM;have F:=Zyn F (Xy e12);obtain ⟨x4,e13,hM⟩:=bind_some hM;refine Zt 8 mixed (by kernel_rfl) (by kernel_rfl) ?_;simp [go_sem,F];refine Yl false (Zbk k x2 x3 x4 e13) ?_;simp [go_sem,F];exact au
   ·have F:=Zyn (nf F h8) (lF h8);exact au
  ·intro _ hM;dsimp only at hM;exact au
instance:HC 164 (Ty @ZdC):=⟨ZdC⟩
theorem Zbh (k:Nat) (a0:ZQ) (a1:ZQ) (r:Bool) (hM:Zb4 k a0 a1=some r):Ctr Tryz.prog 109 [.agg (ZQ.c a0),.agg (ZQ.c a1)] true [.one (.bool r)]:=by
 unfold Zb4 at hM;refine Zn Tryz.func109 Tryz.ntmps109 Tryz.results109 fun N w0 hbad F=> ?_;exact au
instance:HC 109 (Ty @Zbh):=⟨Zbh⟩
theorem Zae (k:Nat) (a0:List ZQ) (a1:List ZQ) (r:Bool) (hM:Zbi k a0 a1=some r):Ctr Tryz.prog 60 [.one (.sl (a0.map ZQ.c)),.one (.sl (a1.map ZQ.c))] true [.one (.bool r)]:=by
 unfold Zbi at hM;refine Zn Tryz.func60 Tryz.ntmps60 Tryz.results60 fun N w0 hbad F=> ?_;refine S1 ?_;refine Ze fun K1 hK1=> ?_;refine S1 ?_;refine Zj hM (fun h2 hM=> ?_) (fun h2 hM=> ?_)
 ·have F:=nf F h2;exact au
 ·have F:=nf F h2;refine Zh ?_;refine hK1 _ ?_;refine mjE (ι:=Unit) [] [] [] (fun i=>[]) hM ?_ ?_
  ·intro e3 hM hR1 K5 hK5;refine S1 ?_;refine Zc ?_;refine lp (ι:=Int) [0,1] [] [] (fun i=>[(5,oI i)]) (fun n i=>XN k a0 a1 n i=some e3) k 0 hM (by simp [XN]) ?_;intro KL6 nL6 x1 hL6 hM _;have hM:XN k a0 a1 (nL6+1) x1=some e3:=hM;rw [XN] at hM;refine Ze fun K7 hK7=> ?_;refine S1 ?_;refine Zj hM (fun h8 hM=> ?_) (fun h8 hM=> ?_)
   ·have F:=Zyn (nf F h8) (lT h8);refine Zh ?_;refine hK7 _ ?_;refine Ze fun K9 hK9=> ?_;refine Zc ?_;refine Ze fun K10 hK10=> ?_;obtain ⟨x2,e11,hM⟩:=bind_some hM;have F:=Zyn F (Xy e11);obtain ⟨x3,e12,hM⟩:=bind_some hM;have F:=Zyn F (Xy e12);obtain ⟨x4,e13,hM⟩:=bind_some hM;refine Zt 8 mixed (by kernel_rfl) (by kernel_rfl) ?_;simp [go_sem,F];refine Yl false (Zbh k x2 x3 x4 e13) ?_;simp [go_sem,F];exact au
   ·have F:=Zyn (nf F h8) (lF h8);exact au
  ·intro _ hM;dsimp only at hM;exact au
instance:HC 60 (Ty @Zae):=⟨Zae⟩
theorem Zag (k:Nat) (a0:Zw) (a1:Zw) (r:Bool) (hM:Kx k a0 a1=some r):Ctr Tryz.prog 110 [.agg (Zw.c a0),.agg (Zw.c a1)] true [.one (.bool r)]:=by
 unfold Kx at hM;refine Zn Tryz.func110 Tryz.ntmps110 Tryz.results110 fun N w0 hbad F=> ?_;exact au
instance:HC 110 (Ty @Zag):=⟨Zag⟩
theorem Kd (k:Nat) (a0:List Zw) (a1:List Zw) (r:Bool) (hM:Kw k a0 a1=some r):Ctr Tryz.prog 61 [.one (.sl (a0.map Zw.c)),.one (.sl (a1.map Zw.c))] true [.one (.bool r)]:=by
 unfold Kw at hM;refine Zn Tryz.func61 Tryz.ntmps61 Tryz.results61 fun N w0 hbad F=> ?_;refine S1 ?_;refine Ze fun K1 hK1=> ?_;refine S1 ?_;refine Zj hM (fun h2 hM=> ?_) (fun h2 hM=> ?_)
 ·have F:=nf F h2;exact au
 ·have F:=nf F h2;refine Zh ?_;refine hK1 _ ?_;refine mjE (ι:=Unit) [] [] [] (fun i=>[]) hM ?_ ?_
  ·intro e3 hM hR1 K5 hK5;refine S1 ?_;refine Zc ?_;refine lp (ι:=Int) [0,1] [] [] (fun i=>[(5,oI i)]) (fun n i=>Xa k a0 a1 n i=some e3) k 0 hM (by simp [Xa]) ?_;intro KL6 nL6 x1 hL6 hM _;have hM:Xa k a0 a1 (nL6+1) x1=some e3:=hM;rw [Xa] at hM;refine Ze fun K7 hK7=> ?_;refine S1 ?_;refine Zj hM (fun h8 hM=> ?_) (fun h8 hM=> ?_)
   ·have F:=Zyn (nf F h8) (lT h8);refine Zh ?_;refine hK7 _ ?_;refine Ze fun K9 hK9=> ?_;refine Zc ?_;refine Ze fun K10 hK10=> ?_;obtain ⟨x2,e11,hM⟩:=bind_some hM;have F:=Zyn F (Xy e11);obtain ⟨x3,e12,hM⟩:=bind_some hM;have F:=Zyn F (Xy e12);obtain ⟨x4,e13,hM⟩:=bind_some hM;refine Zt 8 mixed (by kernel_rfl) (by kernel_rfl) ?_;simp [go_sem,F];refine Yl false (Zag k x2 x3 x4 e13) ?_;simp [go_sem,F];exact au
   ·have F:=Zyn (nf F h8) (lF h8);exact au
  ·intro _ hM;dsimp only at hM;exact au
instance:HC 61 (Ty @Kd):=⟨Kd⟩
theorem Ke (k:Nat) (a0:Zz) (a1:Zz) (r:Bool) (hM:Ky k a0 a1=some r):Ctr Tryz.prog 20 [.agg (Zz.c a0),.agg (Zz.c a1)] true [.one (.bool r)]:=by
 unfold Ky at hM;refine Zn Tryz.func20 Tryz.ntmps20 Tryz.results20 fun N w0 hbad F=> ?_;refine S1 ?_;refine Ze fun K1 hK1=> ?_;obtain ⟨x1,e2,hM⟩:=bind_some hM;refine Zv fun K h=> ?_;simp [go_sem,F];refine Yl false (UC k a0.notebook a1.notebook x1 e2) ?_;simp [go_sem,F];refine h _ ?_;refine Zj hM (fun h3 hM=> ?_) (fun h3 hM=> ?_)
 ·have F:=nf F h3;exact au
 ·have F:=nf F h3;refine Zh ?_;refine hK1 _ ?_;refine Ze fun K4 hK4=> ?_;obtain ⟨x2,e5,hM⟩:=bind_some hM;refine Zv fun K h=> ?_;simp [go_sem,F];refine Yl false (Zad k a0.world a1.world x2 e5) ?_;simp [go_sem,F];refine h _ ?_;refine Zj hM (fun h6 hM=> ?_) (fun h6 hM=> ?_)
  ·have F:=nf F h6;exact au
  ·have F:=nf F h6;refine Zh ?_;refine hK4 _ ?_;refine Ze fun K7 hK7=> ?_;obtain ⟨x3,e8,hM⟩:=bind_some hM;refine Zv fun K h=> ?_;simp [go_sem,F];refine Yl false (Zae k a0.tapes a1.tapes x3 e8) ?_;simp [go_sem,F];refine h _ ?_;refine Zj hM (fun h9 hM=> ?_) (fun h9 hM=> ?_)
   ·have F:=nf F h9;exact au
   ·have F:=nf F h9;refine Zh ?_;refine hK7 _ ?_;refine Ze fun K10 hK10=> ?_;obtain ⟨x4,e11,hM⟩:=bind_some hM;refine Zv fun K h=> ?_;simp [go_sem,F];refine Yl false (Kd k a0.entries a1.entries x4 e11) ?_;simp [go_sem,F];refine h _ ?_;refine Zj hM (fun h12 hM=> ?_) (fun h12 hM=> ?_)
    ·have F:=nf F h12;exact au
    ·have F:=nf F h12;refine Zh ?_;refine hK10 _ ?_;refine Ze fun K13 hK13=> ?_;refine S1 ?_;refine Zj hM (fun h14 hM=> ?_) (fun h14 hM=> ?_)
     ·have F:=nf F h14;exact au
     ·have F:=nf F h14;refine Zh ?_;refine hK13 _ ?_;refine Ze fun K15 hK15=> ?_;refine S1 ?_;refine Zj hM (fun h16 hM=> ?_) (fun h16 hM=> ?_)
      ·have F:=nf F h16;exact au
      ·have F:=nf F h16;refine Zh ?_;refine hK15 _ ?_;refine Ze fun K17 hK17=> ?_;refine S1 ?_;refine Zj hM (fun h18 hM=> ?_) (fun h18 hM=> ?_)
       ·have F:=nf F h18;refine le1 [] [] [] ?_;exact au
       ·have F:=nf F h18;refine Zh ?_;refine hK17 _ ?_;refine le1 [] [] [] ?_;exact au
instance:HC 20 (Ty @Ke):=⟨Ke⟩
end Go.Proofs.YtbkllghhcphkaaaGreatDoor
