import Derived.Test.YtbkllghhcphkaaaGreatDoorJ17
import Derived.Test.YtbkllghhcphkaaaGreatDoorCtA4
set_option linter.unusedSimpArgs false
set_option linter.unusedVariables false
namespace Go.Proofs.YtbkllghhcphkaaaGreatDoor
open Go.RowKit Am
def Qr (k:Nat) (a0:Zz) (a1:YA):Option Bool:= (Kv k a0 1048576).bind fun x1=> if (decide (x1<0)) then some true else (Zdx a1 x1).bind fun x2=> if (decide (x2<0)) then some true else (VM k a0).bind fun x3=> (Zb0 a1).bind fun x4=> (Jj k x3 x4).bind fun x5=> (VM k a0).bind fun x6=> (Zb0 a1).bind fun x7=> (JB k x6 x7).bind fun x8=> if (!decide (x8=x5)) then some false else (VM k a0).bind fun x9=> (Ky k x6 x9).bind fun x10=> if (!x10) then some false else some true
set_option maxHeartbeats 4000000 in
set_option maxRecDepth 100000 in
theorem ZaV (k:Nat) (a0:Zz) (a1:YA) (r:Bool) (hM:Qr k a0 a1=some r):Ctr Tryz.prog 4 [.agg (Zz.c a0),.agg (YA.c a1)] true [.one (.bool r)]:=by
 unfold Qr at hM;refine Zn Tryz.func4 Tryz.ntmps4 Tryz.results4 fun N w0 hbad F=> ?_;refine S1 ?_;refine S1 ?_;obtain ⟨x1,e1,hM⟩:=bind_some hM;refine Zv fun K h=> ?_;simp (maxSteps:=9999999) [go_sem,F];refine Yl false (Kb k a0 1048576 x1 e1) ?_;simp (maxSteps:=9999999) [go_sem,F];refine h _ ?_;refine Ze fun K2 hK2=> ?_;refine S1 ?_;refine Zj hM (fun h3 hM=> ?_) (fun h3 hM=> ?_)
 ·have F:=Zyn (nf F h3) (lT h3);exact au
 ·have F:=Zyn (nf F h3) (lF h3);refine Zh ?_;refine hK2 _ ?_;obtain ⟨x2,e4,hM⟩:=bind_some hM;refine Zv fun K h=> ?_;simp (maxSteps:=9999999) [go_sem,F];refine Yl false (Zbe a1 x1 x2 e4) ?_;simp (maxSteps:=9999999) [go_sem,F];refine h _ ?_;refine Ze fun K5 hK5=> ?_;refine S1 ?_;refine Zj hM (fun h6 hM=> ?_) (fun h6 hM=> ?_)
  ·have F:=Zyn (nf F h6) (lT h6);exact au
  ·have F:=Zyn (nf F h6) (lF h6);refine Zh ?_;refine hK5 _ ?_;refine Ze fun K7 hK7=> ?_;refine le1 [2,3] [2,3] [] ?_;obtain ⟨x3,e8,hM⟩:=bind_some hM;obtain ⟨x4,e9,hM⟩:=bind_some hM;obtain ⟨x5,e10,hM⟩:=bind_some hM;refine ZE [[],[0],[],[0,1,2],[0,1,2,3],[0,1,2,3,4]] mixed (by kernel_rfl) ?_;simp (maxSteps:=9999999) [go_sem,F];refine Yl false (W5 k a0 x3 e8) ?_;simp (maxSteps:=9999999) [go_sem,F];refine Yl false (JP a1 x4 e9) ?_;simp (maxSteps:=9999999) [go_sem,F];refine Yl false (Ji k x3 x4 x5 e10) ?_;simp (maxSteps:=9999999) [go_sem,F];refine ⟨Zp (by kernel_rfl), ?_⟩;refine hK7 _ ?_;obtain ⟨x6,e11,hM⟩:=bind_some hM;refine Zv fun K h=> ?_;simp (maxSteps:=9999999) [go_sem,F];refine Yl false (W5 k a0 x6 e11) ?_;simp (maxSteps:=9999999) [go_sem,F];refine h _ ?_;refine Ze fun K12 hK12=> ?_;obtain ⟨x7,e13,hM⟩:=bind_some hM;obtain ⟨x8,e14,hM⟩:=bind_some hM;refine Zt 3 mixed (by kernel_rfl) (by kernel_rfl) ?_;simp (maxSteps:=9999999) [go_sem,F];refine Yl false (JP a1 x7 e13) ?_;simp (maxSteps:=9999999) [go_sem,F];refine Yl false (JA k x6 x7 x8 e14) ?_;simp (maxSteps:=9999999) [go_sem,F];refine hK12 _ ?_;refine Ze fun K15 hK15=> ?_;refine S1 ?_;refine Zj hM (fun h16 hM=> ?_) (fun h16 hM=> ?_)
   ·have F:=nf F h16;exact au
   ·have F:=nf F h16;refine Zh ?_;refine hK15 _ ?_;refine Ze fun K17 hK17=> ?_;refine Ze fun K18 hK18=> ?_;refine le1 [2,7] [2,7] [1600,1601,1602,1603] ?_;obtain ⟨x9,e19,hM⟩:=bind_some hM;obtain ⟨x10,e20,hM⟩:=bind_some hM;refine ZE [[],[],[1],[0,1,2],[0,1,2,3]] mixed (by kernel_rfl) ?_;simp (maxSteps:=9999999) [go_sem,F];refine Yl false (W5 k a0 x9 e19) ?_;simp (maxSteps:=9999999) [go_sem,F];refine Yl false (Ke k x6 x9 x10 e20) ?_;simp (maxSteps:=9999999) [go_sem,F];refine ⟨Zp (by kernel_rfl), ?_⟩;exact au
end Go.Proofs.YtbkllghhcphkaaaGreatDoor
