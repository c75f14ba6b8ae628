import Derived.Test.YtlbjjjhamfbhaaaGreatDoorJ4
import Derived.Test.YtlbjjjhamfbhaaaGreatDoorJ18
import Derived.Test.YtlbjjjhamfbhaaaGreatDoorJ15
set_option linter.unusedSimpArgs false
set_option linter.unusedVariables false
namespace Go.Proofs.YtlbjjjhamfbhaaaGreatDoor
open Go.RowKit Am
def YY (k:Nat) (a0:Ze):Option Bool:=
 (VU k a0 1048576).bind fun x1=>
 if (decide (x1<0)) then
  some true
 else
  (Xv k a0).bind fun x2=>
  (Wh k x2).bind fun x3=>
  (Xv k a0).bind fun x4=>
  (Xr k x4).bind fun x5=>
  (J5 k x5 x3).bind fun x6=>
  if (!x6) then
   some false
  else
   (Xv k a0).bind fun x7=>
   (VV k x4 x7).bind fun x8=>
   if (!x8) then
    some false
   else
    (wr? Ze.Ziv Ze.cnV 1 x4).bind fun x9=>
    (if (decide (x9.2<0)) then
     some true
    else
     (J5 k x5 x3).bind fun x11=>
     some (!x11)).bind fun x10=>
    if x10 then
     some false
    else
     (wr? XN QR 1 x5).bind fun x12=>
     (hd? 1 (QR x5)).bind fun x13=>
     if (decide (x13<0)) then
      some false
     else
      if (!decide (x13=x12.2)) then
       some false
      else
       (Xv k a0).bind fun x14=>
       (Xr k x14).bind fun x15=>
       (J5 k x15 x3).bind fun x16=>
       if (!x16) then
        some false
       else
        (hd? 1 (QR x5)).bind fun x17=>
        if (decide (x17<0)) then
         some false
        else
         if (!decide (x17=x12.2)) then
          some false
         else
          some true
set_option maxHeartbeats 4000000 in
set_option maxRecDepth 100000 in
theorem U3 (k:Nat) (a0:Ze) (r:Bool) (hM:YY k a0=some r):Ctr Tryz.prog 3 [.agg (Ze.c a0)] true [.one (.bool r)]:=by
 unfold YY at hM;refine Zr Tryz.func3 Tryz.ntmps3 Tryz.results3 fun N w0 hbad F=> ?_;refine Zs fun K h=> ?_;simp (maxSteps:=9999999) [go_sem,F];refine h _ ?_;refine Zs fun K h=> ?_;simp (maxSteps:=9999999) [go_sem,F];refine h _ ?_;obtain ⟨x1,e1,hM⟩:=bind_some hM;refine Zs fun K h=> ?_;simp (maxSteps:=9999999) [go_sem,F];refine Qt true (V9 k a0 1048576 x1 e1) ?_;simp (maxSteps:=9999999) [go_sem,F];refine h _ ?_;refine Zg fun K2 hK2=> ?_;refine Zs fun K h=> ?_;simp (maxSteps:=9999999) [go_sem,F];refine h _ ?_;refine Zn hM (fun h3 hM=> ?_) (fun h3 hM=> ?_)
 ·have g:=h3;(try simp at g);have F:=ZtU F (ZtU h3 (ZtU g (lT h3)));refine Zs fun K h=> ?_;simp (maxSteps:=9999999) [go_sem,F];refine h _ ?_;obtain rfl:=si hM;refine Jn ?_;simp (maxSteps:=9999999) [go_sem,F]
 ·have g:=h3;(try simp at g);have F:=ZtU F (ZtU h3 (ZtU g (lF h3)));refine Zi ?_;refine hK2 _ ?_;obtain ⟨x2,e4,hM⟩:=bind_some hM;obtain ⟨x3,e5,hM⟩:=bind_some hM;refine Zs fun K h=> ?_;simp (maxSteps:=9999999) [go_sem,F];refine Qt true (QT k a0 x2 e4) ?_;simp (maxSteps:=9999999) [go_sem,F];refine Qt true (WV k x2 x3 e5) ?_;simp (maxSteps:=9999999) [go_sem,F];refine h _ ?_;obtain ⟨x4,e6,hM⟩:=bind_some hM;refine Zs fun K h=> ?_;simp (maxSteps:=9999999) [go_sem,F];refine Qt true (QT k a0 x4 e6) ?_;simp (maxSteps:=9999999) [go_sem,F];refine h _ ?_;obtain ⟨x5,e7,hM⟩:=bind_some hM;refine Zs fun K h=> ?_;simp (maxSteps:=9999999) [go_sem,F];refine Qt true (XP k x4 x5 e7) ?_;simp (maxSteps:=9999999) [go_sem,F];refine h _ ?_;refine Zg fun K8 hK8=> ?_;obtain ⟨x6,e9,hM⟩:=bind_some hM;refine Zs fun K h=> ?_;simp (maxSteps:=9999999) [go_sem,F];refine Qt true (VW k x5 x3 x6 e9) ?_;simp (maxSteps:=9999999) [go_sem,F];refine h _ ?_;refine Zn hM (fun h10 hM=> ?_) (fun h10 hM=> ?_)
  ·have g:=h10;(try simp at g);have F:=ZtU F (ZtU h10 g);refine Zs fun K h=> ?_;simp (maxSteps:=9999999) [go_sem,F];refine h _ ?_;obtain rfl:=si hM;refine Jn ?_;simp (maxSteps:=9999999) [go_sem,F]
  ·have g:=h10;(try simp at g);have F:=ZtU F (ZtU h10 g);refine Zi ?_;refine hK8 _ ?_;refine Zg fun K11 hK11=> ?_;refine Zg fun K12 hK12=> ?_;refine ZsF (σ':=⟨69,[(1,.one (.box 1 0)),(4,.one (.own 1001152 x3.length)),(5,.one (.box 5 0)),(6,.one (.own 1001408 x5.length))],[(1,[.l (.sl (a0.cells.map Zk.c))]),(5,[.own 1001280 x4.cells.length])],[(1001152,some ⟨true,x3.map iC⟩),(1001280,some ⟨true,x4.cells.map Zk.c⟩),(1001408,some ⟨true,x5.map iC⟩)]⟩) ?_;obtain ⟨x7,e13,hM⟩:=bind_some hM;obtain ⟨x8,e14,hM⟩:=bind_some hM;refine ZJ [[],[],[1],[0,1,2],[0,1,2,3]] mixed (by kernel_rfl) ?_;simp (maxSteps:=9999999) [go_sem,F];refine Qt true (QT k a0 x7 e13) ?_;simp (maxSteps:=9999999) [go_sem,F];refine Qt true (Ua k x4 x7 x8 e14) ?_;simp (maxSteps:=9999999) [go_sem,F];refine ⟨Zq (by kernel_rfl), ?_⟩;refine hK12 _ ?_;refine Zn hM (fun h15 hM=> ?_) (fun h15 hM=> ?_)
   ·have g:=h15;(try simp at g);have F:=ZtU F (ZtU h15 g);refine Zs fun K h=> ?_;simp (maxSteps:=9999999) [go_sem,F];refine h _ ?_;obtain rfl:=si hM;refine Jn ?_;simp (maxSteps:=9999999) [go_sem,F]
   ·have g:=h15;(try simp at g);have F:=ZtU F (ZtU h15 g);refine Zi ?_;refine hK11 _ ?_;refine Zs fun K h=> ?_;simp (maxSteps:=9999999) [go_sem,F];refine h _ ?_;refine Zg fun K16 hK16=> ?_;obtain ⟨x9,e17,hM⟩:=bind_some hM;obtain ⟨q18,q19,q20,q21⟩:=ZcH e17;have F:=ZtU F (ZtU q20 q21);have F:=ZtU F (Ze.ZlN e17);refine Zkc hbad 2 ?_;simp (maxSteps:=9999999) [go_sem,F];refine Zrt (Zit e17) (by simp (maxSteps:=9999999) [go_sem,F]) (by simp (maxSteps:=9999999) [go_sem,F]) ?_;simp (maxSteps:=9999999) [go_sem,F];refine hK16 _ ?_;refine Zg fun K22 hK22=> ?_;obtain ⟨e23,hU24,hR1⟩:=bind_some hM;clear hM;refine ZmK (ι:=Bool) (fun i=>⟨69,[(1,.one (.box 1 0)),(4,.one (.own 1001152 x3.length)),(6,.one (.own 1001408 x5.length)),(42,.one (.l (.bool i)))],[(1,[.l (.sl (a0.cells.map Zk.c))])],[(1001152,some ⟨true,x3.map iC⟩),(1001408,some ⟨true,x5.map iC⟩)]⟩) (fun i=>i=e23) ?_ ?_
    ·intro K25 hK25;have hM:=hU24;clear hU24;rcases ifM hM with ⟨h26,hM⟩| ⟨h26,hM⟩
     ·have g:=h26;(try simp at g);have F:=ZtU F (ZtU h26 (ZtU g (lT h26)));refine WA ?_;simp (maxSteps:=9999999) [go_sem,F];obtain rfl:=si hM;exact fin hK25 true rfl
     ·have g:=h26;(try simp at g);have F:=ZtU F (ZtU h26 (ZtU g (lF h26)));obtain ⟨x11,e27,hM⟩:=bind_some hM;refine WA ?_;simp (maxSteps:=9999999) [go_sem,F];refine Qt true (VW k x5 x3 x11 e27) ?_;simp (maxSteps:=9999999) [go_sem,F];obtain rfl:=si hM;exact fin hK25 (!x11) rfl
    ·rintro x10 rfl;have hM:=hR1;clear hR1;(try dsimp only at hM);refine Zn hM (fun h28 hM=> ?_) (fun h28 hM=> ?_)
     ·have g:=h28;(try simp at g);have F:=ZtU F (ZtU h28 g);refine Zs fun K h=> ?_;simp (maxSteps:=9999999) [go_sem,F];refine h _ ?_;obtain rfl:=si hM;refine Jn ?_;simp (maxSteps:=9999999) [go_sem,F]
     ·have g:=h28;(try simp at g);have F:=ZtU F (ZtU h28 g);refine Zi ?_;refine hK22 _ ?_;refine Zs fun K h=> ?_;simp (maxSteps:=9999999) [go_sem,F];refine h _ ?_;refine Zg fun K29 hK29=> ?_;obtain ⟨x12,e30,hM⟩:=bind_some hM;obtain ⟨q31,q32,q33,q34⟩:=ZcH e30;have F:=ZtU F (ZtU q33 q34);have F:=ZtU F (Zhk e30);refine Zkc hbad 2 ?_;simp (maxSteps:=9999999) [go_sem,F];refine Zrt (Zo0 e30) (by simp (maxSteps:=9999999) [go_sem,F]) (by simp (maxSteps:=9999999) [go_sem,F]) ?_;simp (maxSteps:=9999999) [go_sem,F];refine hK29 _ ?_;refine Zs fun K h=> ?_;simp (maxSteps:=9999999) [go_sem,F];refine h _ ?_;refine Zg fun K35 hK35=> ?_;obtain ⟨x13,e36,hM⟩:=bind_some hM;refine WA ?_;simp (maxSteps:=9999999) [go_sem,F];refine Qt true (Zmb (k:=1) (ys:=x12.1) e36 (by first | exact q31| (rw [q31];first | done| rfl))) ?_;simp (maxSteps:=9999999) [go_sem,F];refine hK35 _ ?_;refine Zg fun K37 hK37=> ?_;refine Zs fun K h=> ?_;simp (maxSteps:=9999999) [go_sem,F];refine h _ ?_;refine Zn hM (fun h38 hM=> ?_) (fun h38 hM=> ?_)
      ·have g:=h38;(try simp at g);have F:=ZtU F (ZtU h38 (ZtU g (lT h38)));refine Zs fun K h=> ?_;simp (maxSteps:=9999999) [go_sem,F];refine h _ ?_;obtain rfl:=si hM;refine Jn ?_;simp (maxSteps:=9999999) [go_sem,F]
      ·have g:=h38;(try simp at g);have F:=ZtU F (ZtU h38 (ZtU g (lF h38)));refine Zi ?_;refine hK37 _ ?_;refine Zg fun K39 hK39=> ?_;refine Zs fun K h=> ?_;simp (maxSteps:=9999999) [go_sem,F];refine h _ ?_;refine Zn hM (fun h40 hM=> ?_) (fun h40 hM=> ?_)
       ·have g:=h40;(try simp at g);have F:=ZtU F (ZtU h40 g);refine Zs fun K h=> ?_;simp (maxSteps:=9999999) [go_sem,F];refine h _ ?_;obtain rfl:=si hM;refine Jn ?_;simp (maxSteps:=9999999) [go_sem,F]
       ·have g:=h40;(try simp at g);have F:=ZtU F (ZtU h40 g);refine Zi ?_;refine hK39 _ ?_;obtain ⟨x14,e41,hM⟩:=bind_some hM;obtain ⟨x15,e42,hM⟩:=bind_some hM;refine Zs fun K h=> ?_;simp (maxSteps:=9999999) [go_sem,F];refine Qt true (QT k a0 x14 e41) ?_;simp (maxSteps:=9999999) [go_sem,F];refine Qt true (XP k x14 x15 e42) ?_;simp (maxSteps:=9999999) [go_sem,F];refine h _ ?_;refine Zg fun K43 hK43=> ?_;obtain ⟨x16,e44,hM⟩:=bind_some hM;refine Zs fun K h=> ?_;simp (maxSteps:=9999999) [go_sem,F];refine Qt true (VW k x15 x3 x16 e44) ?_;simp (maxSteps:=9999999) [go_sem,F];refine h _ ?_;refine Zn hM (fun h45 hM=> ?_) (fun h45 hM=> ?_)
        ·have g:=h45;(try simp at g);have F:=ZtU F (ZtU h45 g);refine Zs fun K h=> ?_;simp (maxSteps:=9999999) [go_sem,F];refine h _ ?_;obtain rfl:=si hM;refine Jn ?_;simp (maxSteps:=9999999) [go_sem,F]
        ·have g:=h45;(try simp at g);have F:=ZtU F (ZtU h45 g);refine Zi ?_;refine hK43 _ ?_;refine Zs fun K h=> ?_;simp (maxSteps:=9999999) [go_sem,F];refine h _ ?_;refine Zg fun K46 hK46=> ?_;obtain ⟨x17,e47,hM⟩:=bind_some hM;refine WA ?_;simp (maxSteps:=9999999) [go_sem,F];refine Qt true (Zmb (k:=1) (ys:=x12.1) e47 (by first | exact q31| (rw [q31];first | done| rfl))) ?_;simp (maxSteps:=9999999) [go_sem,F];refine hK46 _ ?_;refine Zg fun K48 hK48=> ?_;refine Zs fun K h=> ?_;simp (maxSteps:=9999999) [go_sem,F];refine h _ ?_;refine Zn hM (fun h49 hM=> ?_) (fun h49 hM=> ?_)
         ·have g:=h49;(try simp at g);have F:=ZtU F (ZtU h49 (ZtU g (lT h49)));refine Zs fun K h=> ?_;simp (maxSteps:=9999999) [go_sem,F];refine h _ ?_;obtain rfl:=si hM;refine Jn ?_;simp (maxSteps:=9999999) [go_sem,F]
         ·have g:=h49;(try simp at g);have F:=ZtU F (ZtU h49 (ZtU g (lF h49)));refine Zi ?_;refine hK48 _ ?_;refine Zg fun K50 hK50=> ?_;refine Zs fun K h=> ?_;simp (maxSteps:=9999999) [go_sem,F];refine h _ ?_;refine Zn hM (fun h51 hM=> ?_) (fun h51 hM=> ?_)
          ·have g:=h51;(try simp at g);have F:=ZtU F (ZtU h51 g);refine Zs fun K h=> ?_;simp (maxSteps:=9999999) [go_sem,F];refine h _ ?_;obtain rfl:=si hM;refine Jn ?_;simp (maxSteps:=9999999) [go_sem,F]
          ·have g:=h51;(try simp at g);have F:=ZtU F (ZtU h51 g);refine Zi ?_;refine hK50 _ ?_;refine Zs fun K h=> ?_;simp (maxSteps:=9999999) [go_sem,F];refine h _ ?_;obtain rfl:=si hM;refine Jn ?_;simp (maxSteps:=9999999) [go_sem,F]
end Go.Proofs.YtlbjjjhamfbhaaaGreatDoor
