import Derived.Test.YtneeinggggadpaaJ3
import Derived.Test.YtneeinggggadpaaJ7
import Derived.Test.YtneeinggggadpaaCt2
import Derived.Test.YtneeinggggadpaaJ9
import Derived.Test.YtneeinggggadpaaCt5
set_option linter.unusedSimpArgs false
set_option linter.unusedVariables false
namespace Go.Proofs.Ytneeinggggadpaa
open Go.RowKit Am
def YQ (k:Nat) (a0:List Int):Option Bool:=
 (Zbw a0).bind fun x1=>
 if x1 then
  some true
 else
  (Qc k a0).bind fun x2=>
  (Yn k x2).bind fun x3=>
  (Qm k x2).bind fun x4=>
  if (!(x3==x4)) then
   some false
  else
   if (!x3) then
    some true
   else
    ((ZS k x2).bind fun x6=>
    if x6 then
     some true
    else
     (Xk k x2).bind fun x7=>
     if (!decide ((x7.length:Int)=0)) then
      some true
     else
      (XK k x2).bind fun x8=>
      if (decide ((x8.length:Int)=0)) then
       some true
      else
       (ZJ k x2).bind fun x9=>
       some (!x9)).bind fun x5=>
    if x5 then
     some false
    else
     (if (decide ((x2.args.length:Int)=0)) then
      if (decide (x2.kind=3)) then
       some true
      else
       if (decide (0<(x2.args.length:Int))) then
        (at? x2.args (IntKind.i64.wrap ((x2.args.length:Int)-1))).bind fun x11=>
        (Yn k x11).bind fun x12=>
        if x12 then
         (ZB x2.text).bind fun x13=>
         some (decide (x13=(x2.args.length:Int)))
        else
         some false
       else
        some false
     else
      if (decide (0<(x2.args.length:Int))) then
       (at? x2.args (IntKind.i64.wrap ((x2.args.length:Int)-1))).bind fun x14=>
       (Yn k x14).bind fun x15=>
       if x15 then
        (ZB x2.text).bind fun x16=>
        some (decide (x16=(x2.args.length:Int)))
       else
        some false
      else
       some false).bind fun x10=>
     some x10
set_option maxHeartbeats 4000000 in
set_option maxRecDepth 100000 in
theorem VP (k:Nat) (a0:List Int) (r:Bool) (hM:YQ k a0=some r):Ctr Try.prog 3 [.one (.sl (a0.map uC))] true [.one (.bool r)]:=by
 unfold YQ at hM
 refine Yp Try.func3 Try.ntmps3 Try.results3 fun N w0 hbad F=> ?_
 refine S1 ?_;refine Zk fun K1 hK1=> ?_;obtain ⟨x1,e2,hM⟩:=bind_some hM;refine ZH fun K h=> ?_;simp (maxSteps:=9999999) [go_sem,F];refine Uu false (Jt a0 x1 e2) ?_;simp (maxSteps:=9999999) [go_sem,F];refine h _ ?_;refine Zs hM (fun h3 hM=> ?_) (fun h3 hM=> ?_)
 ·have F:=nf F h3;exact au
 ·have F:=nf F h3;refine ZC ?_;refine hK1 _ ?_;obtain ⟨x2,e4,hM⟩:=bind_some hM;refine ZH fun K h=> ?_;simp (maxSteps:=9999999) [go_sem,F];refine Uu false (QC k a0 x2 e4) ?_;simp (maxSteps:=9999999) [go_sem,F];refine h _ ?_;obtain ⟨x3,e5,hM⟩:=bind_some hM;refine ZH fun K h=> ?_;simp (maxSteps:=9999999) [go_sem,F];refine Uu false (Xr k x2 x3 e5) ?_
  simp (maxSteps:=9999999) [go_sem,F];refine h _ ?_;refine Zk fun K6 hK6=> ?_;obtain ⟨x4,e7,hM⟩:=bind_some hM;refine ZH fun K h=> ?_;simp (maxSteps:=9999999) [go_sem,F];refine Uu false (Xp k x2 x4 e7) ?_;simp (maxSteps:=9999999) [go_sem,F];refine h _ ?_;refine Zs hM (fun h8 hM=> ?_) (fun h8 hM=> ?_)
  ·have F:=nf F h8;exact au
  ·have F:=nf F h8;refine ZC ?_;refine hK6 _ ?_;refine Zk fun K9 hK9=> ?_;refine S1 ?_;refine Zs hM (fun h10 hM=> ?_) (fun h10 hM=> ?_)
   ·have F:=nf F h10;exact au
   ·have F:=nf F h10;refine ZC ?_;refine hK9 _ ?_;refine Zk fun K11 hK11=> ?_;refine mj (ι:=Bool) [3] [3] [] (fun i=>[(36,oB i)]) hM ?_ ?_
    ·intro e12 hM K14 hK14;exact au
    ·intro x5 hM;(try dsimp only at hM);refine Zs hM (fun h22 hM=> ?_) (fun h22 hM=> ?_)
     ·have F:=nf F h22;exact au
     ·have F:=nf F h22;refine ZC ?_;refine hK11 _ ?_;refine S1 ?_;refine mj (ι:=Bool) [] [] [] (fun i=>[(2,oB i)]) hM ?_ ?_
      ·intro e23 hM K25 hK25;rcases ifM hM with ⟨h1,hM⟩| ⟨h1,hM⟩
       ·have F:=nf F h1;rcases ifM hM with ⟨h2,hM⟩| ⟨h2,hM⟩
        ·have F:=nf F h2;exact au
        ·have F:=nf F h2;rw [show decide ((0:Int)<(x2.args.length:Int))=false by have h3:=of_decide_eq_true h1;exact decide_eq_false (by omega)] at hM;have hM:=hM;exact au
       ·have F:=nf F h1;exact au
      ·intro x10 hM;(try dsimp only at hM);exact au
end Go.Proofs.Ytneeinggggadpaa
