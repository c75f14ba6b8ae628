import Derived.Test.YtfapaeabfcogkaaGreatDoorJ5
import Derived.Test.YtfapaeabfcogkaaGreatDoorJ4
import Derived.Test.YtfapaeabfcogkaaGreatDoorJ13
import Derived.Test.YtfapaeabfcogkaaGreatDoorJ15
import Derived.Test.YtfapaeabfcogkaaGreatDoorJ16
set_option linter.unusedSimpArgs false
set_option linter.unusedVariables false
namespace Go.Proofs.YtfapaeabfcogkaaGreatDoor
open Go.RowKit Am
def Yn (k:Nat) (a0:Ze) (a1:Qf) (a2:ByteArray):Option Bool:=
 if (decide (1048576<(a2.size:Int))) then
  some true
 else
  (WZ k a0 1048576).bind fun x1=>
  if (decide (x1<0)) then
   some true
  else
   (Zey k a1 x1).bind fun x2=>
   if (decide (x2<0)) then
    some true
   else
    (Xk k a0).bind fun x3=>
    (KW k a1).bind fun x4=>
    (Va k x3 x4 a2).bind fun x5=>
    (Xk k a0).bind fun x6=>
    (KW k a1).bind fun x7=>
    (WE k x6 x7 a2).bind fun x8=>
    (Y0 k x8 x5).bind fun x9=>
    if (!x9) then
     some false
    else
     (Xk k a0).bind fun x10=>
     (VX k x6 x10).bind fun x11=>
     if (!x11) then
      some false
     else
      (KW k a1).bind fun x12=>
      (ZeE k x7 x12).bind fun x13=>
      if (!x13) then
       some false
      else
       (wr? Ze.XF Ze.cnV 1 x6).bind fun x14=>
       (wr? Qf.XF Qf.cnV x14.2 x7).bind fun x15=>
       (if (decide (x15.2<0)) then
        some true
       else
        (Y0 k x8 x5).bind fun x17=>
        some (!x17)).bind fun x16=>
       if x16 then
        some false
       else
        (wr? Za.XF Za.cnV 1 x8).bind fun x18=>
        (hd? 1 (Za.cnV x8)).bind fun x19=>
        if (decide (x19<0)) then
         some false
        else
         if (!decide (x19=x18.2)) then
          some false
         else
          (Xk k a0).bind fun x20=>
          (KW k a1).bind fun x21=>
          (WE k x20 x21 a2).bind fun x22=>
          (Y0 k x22 x5).bind fun x23=>
          if (!x23) then
           some false
          else
           (hd? 1 (Za.cnV x8)).bind fun x24=>
           if (decide (x24<0)) then
            some false
           else
            if (!decide (x24=x18.2)) then
             some false
            else
             some true
set_option maxHeartbeats 4000000 in
set_option maxRecDepth 100000 in
theorem JN (k:Nat) (a0:Ze) (a1:Qf) (a2:ByteArray) (r:Bool) (hM:Yn k a0 a1 a2=some r):Ctr Tryz.prog 3 [.agg (Ze.c a0),.agg (Qf.c a1),.one (.str a2)] true [.one (.bool r)]:=by
 unfold Yn at hM
 refine Zr Tryz.func3 Tryz.ntmps3 Tryz.results3 fun N w0 hbad F=> ?_
 refine Zw fun K h=> ?_;simp (maxSteps:=9999999) [go_sem,F];refine h _ ?_;refine Zh fun K1 hK1=> ?_;refine Zw fun K h=> ?_;simp (maxSteps:=9999999) [go_sem,F];refine h _ ?_;refine Zp hM (fun h2 hM=> ?_) (fun h2 hM=> ?_)
 ·have g:=h2;(try simp at g);have F:=And.intro F (And.intro h2 (And.intro g (lT h2)));refine Zw fun K h=> ?_;simp (maxSteps:=9999999) [go_sem,F];refine h _ ?_;obtain rfl:=si hM;refine Ja ?_;simp (maxSteps:=9999999) [go_sem,F]
 ·have g:=h2;(try simp at g);have F:=And.intro F (And.intro h2 (And.intro g (lF h2)));refine Zl ?_;refine hK1 _ ?_;refine Zw fun K h=> ?_;simp (maxSteps:=9999999) [go_sem,F];refine h _ ?_;obtain ⟨x1,e3,hM⟩:=bind_some hM;refine Zw fun K h=> ?_;simp (maxSteps:=9999999) [go_sem,F];refine Qb true (V9 k a0 1048576 x1 e3) ?_;simp (maxSteps:=9999999) [go_sem,F]
  refine h _ ?_;refine Zh fun K4 hK4=> ?_;refine Zw fun K h=> ?_;simp (maxSteps:=9999999) [go_sem,F];refine h _ ?_;refine Zp hM (fun h5 hM=> ?_) (fun h5 hM=> ?_)
  ·have g:=h5;(try simp at g);have F:=And.intro F (And.intro h5 (And.intro g (lT h5)));refine Zw fun K h=> ?_;simp (maxSteps:=9999999) [go_sem,F];refine h _ ?_;obtain rfl:=si hM;refine Ja ?_;simp (maxSteps:=9999999) [go_sem,F]
  ·have g:=h5;(try simp at g);have F:=And.intro F (And.intro h5 (And.intro g (lF h5)));refine Zl ?_;refine hK4 _ ?_;obtain ⟨x2,e6,hM⟩:=bind_some hM;refine Zw fun K h=> ?_;simp (maxSteps:=9999999) [go_sem,F];refine Qb true (ZbF k a1 x1 x2 e6) ?_;simp (maxSteps:=9999999) [go_sem,F];refine h _ ?_;refine Zh fun K7 hK7=> ?_;refine Zw fun K h=> ?_
   simp (maxSteps:=9999999) [go_sem,F];refine h _ ?_;refine Zp hM (fun h8 hM=> ?_) (fun h8 hM=> ?_)
   ·have g:=h8;(try simp at g);have F:=And.intro F (And.intro h8 (And.intro g (lT h8)));refine Zw fun K h=> ?_;simp (maxSteps:=9999999) [go_sem,F];refine h _ ?_;obtain rfl:=si hM;refine Ja ?_;simp (maxSteps:=9999999) [go_sem,F]
   ·have g:=h8;(try simp at g);have F:=And.intro F (And.intro h8 (And.intro g (lF h8)));refine Zl ?_;refine hK7 _ ?_;refine Zh fun K9 hK9=> ?_;refine Zoq (σ':=⟨100,[(2,.one (.l (.str a2))),(3,.one (.box 3 0)),(4,.one (.box 4 0))],[(3,[.l (.sl (a0.cells.map Zj.c))]),(4,[.l (.sl (a1.values.map Za.c)),.l (.sl (a1.tapes.map Zn.c)),.l (.int .i64 a1.steps)])],[]⟩) ?_
    obtain ⟨x3,e10,hM⟩:=bind_some hM;obtain ⟨x4,e11,hM⟩:=bind_some hM;obtain ⟨x5,e12,hM⟩:=bind_some hM;refine ZT [[],[0],[],[0,1,2],[],[0,1,2,3,4],[],[0,1,2,3,4,5,6]] mixed (by kernel_rfl) ?_;simp (maxSteps:=9999999) [go_sem,F];refine Qb true (QG k a0 x3 e10) ?_;simp (maxSteps:=9999999) [go_sem,F];refine Qb true (Vt k a1 x4 e11) ?_
    simp (maxSteps:=9999999) [go_sem,F];refine Qb true (VC k x3 x4 a2 x5 e12) ?_;simp (maxSteps:=9999999) [go_sem,F];refine ⟨Zu (by kernel_rfl), ?_⟩;refine hK9 _ ?_;obtain ⟨x6,e13,hM⟩:=bind_some hM;refine Zw fun K h=> ?_;simp (maxSteps:=9999999) [go_sem,F];refine Qb true (QG k a0 x6 e13) ?_;simp (maxSteps:=9999999) [go_sem,F]
    refine h _ ?_;obtain ⟨x7,e14,hM⟩:=bind_some hM;refine Zw fun K h=> ?_;simp (maxSteps:=9999999) [go_sem,F];refine Qb true (Vt k a1 x7 e14) ?_;simp (maxSteps:=9999999) [go_sem,F];refine h _ ?_;obtain ⟨x8,e15,hM⟩:=bind_some hM;refine Zw fun K h=> ?_;simp (maxSteps:=9999999) [go_sem,F];refine Qb true (WD k x6 x7 a2 x8 e15) ?_;simp (maxSteps:=9999999) [go_sem,F]
    refine h _ ?_;refine Zh fun K16 hK16=> ?_;obtain ⟨x9,e17,hM⟩:=bind_some hM;refine Zw fun K h=> ?_;simp (maxSteps:=9999999) [go_sem,F];refine Qb true (W8 k x8 x5 x9 e17) ?_;simp (maxSteps:=9999999) [go_sem,F];refine h _ ?_;refine Zp hM (fun h18 hM=> ?_) (fun h18 hM=> ?_)
    ·have g:=h18;(try simp at g);have F:=And.intro F (And.intro h18 g);refine Zw fun K h=> ?_;simp (maxSteps:=9999999) [go_sem,F];refine h _ ?_;obtain rfl:=si hM;refine Ja ?_;simp (maxSteps:=9999999) [go_sem,F]
    ·have g:=h18;(try simp at g);have F:=And.intro F (And.intro h18 g);refine Zl ?_;refine hK16 _ ?_;refine Zh fun K19 hK19=> ?_;refine Zh fun K20 hK20=> ?_;refine Zoq (σ':=⟨100,[(2,.one (.l (.str a2))),(3,.one (.box 3 0)),(4,.one (.box 4 0)),(8,.one (.box 8 0)),(9,.one (.box 9 0)),(10,.one (.box 10 0)),(11,.one (.box 11 0))],[(3,[.l (.sl (a0.cells.map Zj.c))]),(4,[.l (.sl (a1.values.map Za.c)),.l (.sl (a1.tapes.map Zn.c)),.l (.int .i64 a1.steps)]),(8,[.l (.int .i64 x5.kind),.l (.int .i64 x5.n),.l (.int .i64 x5.step),.l (.str x5.text),.own 1002176 x5.list.length,.own 1002177 x5.columns.length,.own 1002178 x5.rows.length]),(9,[.own 1002304 x6.cells.length]),(10,[.own 1002432 x7.values.length,.own 1002433 x7.tapes.length,.l (.int .i64 x7.steps)]),(11,[.l (.int .i64 x8.kind),.l (.int .i64 x8.n),.l (.int .i64 x8.step),.l (.str x8.text),.own 1002688 x8.list.length,.own 1002689 x8.columns.length,.own 1002690 x8.rows.length])],[(1002176,some ⟨true,x5.list.map Za.c⟩),(1002177,some ⟨true,x5.columns.map sC⟩),(1002178,some ⟨true,x5.rows.map Zq.c⟩),(1002304,some ⟨true,x6.cells.map Zj.c⟩),(1002432,some ⟨true,x7.values.map Za.c⟩),(1002433,some ⟨true,x7.tapes.map Zn.c⟩),(1002688,some ⟨true,x8.list.map Za.c⟩),(1002689,some ⟨true,x8.columns.map sC⟩),(1002690,some ⟨true,x8.rows.map Zq.c⟩)]⟩) ?_
     obtain ⟨x10,e21,hM⟩:=bind_some hM;obtain ⟨x11,e22,hM⟩:=bind_some hM;refine ZT [[],[],[1],[0,1,2],[0,1,2,3]] mixed (by kernel_rfl) ?_;simp (maxSteps:=9999999) [go_sem,F];refine Qb true (QG k a0 x10 e21) ?_;simp (maxSteps:=9999999) [go_sem,F];refine Qb true (Ua k x6 x10 x11 e22) ?_;simp (maxSteps:=9999999) [go_sem,F];refine ⟨Zu (by kernel_rfl), ?_⟩
     refine hK20 _ ?_;refine Zp hM (fun h23 hM=> ?_) (fun h23 hM=> ?_)
     ·have g:=h23;(try simp at g);have F:=And.intro F (And.intro h23 g);refine Zw fun K h=> ?_;simp (maxSteps:=9999999) [go_sem,F];refine h _ ?_;obtain rfl:=si hM;refine Ja ?_;simp (maxSteps:=9999999) [go_sem,F]
     ·have g:=h23;(try simp at g);have F:=And.intro F (And.intro h23 g);refine Zl ?_;refine hK19 _ ?_;refine Zh fun K24 hK24=> ?_;refine Zh fun K25 hK25=> ?_;refine Zoq (σ':=⟨100,[(2,.one (.l (.str a2))),(3,.one (.box 3 0)),(4,.one (.box 4 0)),(8,.one (.box 8 0)),(9,.one (.box 9 0)),(10,.one (.box 10 0)),(11,.one (.box 11 0))],[(3,[.l (.sl (a0.cells.map Zj.c))]),(4,[.l (.sl (a1.values.map Za.c)),.l (.sl (a1.tapes.map Zn.c)),.l (.int .i64 a1.steps)]),(8,[.l (.int .i64 x5.kind),.l (.int .i64 x5.n),.l (.int .i64 x5.step),.l (.str x5.text),.own 1002176 x5.list.length,.own 1002177 x5.columns.length,.own 1002178 x5.rows.length]),(9,[.own 1002304 x6.cells.length]),(10,[.own 1002432 x7.values.length,.own 1002433 x7.tapes.length,.l (.int .i64 x7.steps)]),(11,[.l (.int .i64 x8.kind),.l (.int .i64 x8.n),.l (.int .i64 x8.step),.l (.str x8.text),.own 1002688 x8.list.length,.own 1002689 x8.columns.length,.own 1002690 x8.rows.length])],[(1002176,some ⟨true,x5.list.map Za.c⟩),(1002177,some ⟨true,x5.columns.map sC⟩),(1002178,some ⟨true,x5.rows.map Zq.c⟩),(1002304,some ⟨true,x6.cells.map Zj.c⟩),(1002432,some ⟨true,x7.values.map Za.c⟩),(1002433,some ⟨true,x7.tapes.map Zn.c⟩),(1002688,some ⟨true,x8.list.map Za.c⟩),(1002689,some ⟨true,x8.columns.map sC⟩),(1002690,some ⟨true,x8.rows.map Zq.c⟩)]⟩) ?_
      obtain ⟨x12,e26,hM⟩:=bind_some hM;obtain ⟨x13,e27,hM⟩:=bind_some hM;refine ZT [[],[],[1],[0,1,2],[0,1,2,3]] mixed (by kernel_rfl) ?_;simp (maxSteps:=9999999) [go_sem,F];refine Qb true (Vt k a1 x12 e26) ?_;simp (maxSteps:=9999999) [go_sem,F];refine Qb true (ZbH k x7 x12 x13 e27) ?_;simp (maxSteps:=9999999) [go_sem,F];refine ⟨Zu (by kernel_rfl), ?_⟩
      refine hK25 _ ?_;refine Zp hM (fun h28 hM=> ?_) (fun h28 hM=> ?_)
      ·have g:=h28;(try simp at g);have F:=And.intro F (And.intro h28 g);refine Zw fun K h=> ?_;simp (maxSteps:=9999999) [go_sem,F];refine h _ ?_;obtain rfl:=si hM;refine Ja ?_;simp (maxSteps:=9999999) [go_sem,F]
      ·have g:=h28;(try simp at g);have F:=And.intro F (And.intro h28 g);refine Zl ?_;refine hK24 _ ?_;refine Zw fun K h=> ?_;simp (maxSteps:=9999999) [go_sem,F];refine h _ ?_;refine Zh fun K29 hK29=> ?_;obtain ⟨x14,e30,hM⟩:=bind_some hM;obtain ⟨q31,q32,q33,q34⟩:=Ke e30;have F:=And.intro F (And.intro q33 q34);have F:=And.intro F (Ze.ZaD e30)
       refine Zhu hbad 2 ?_;simp (maxSteps:=9999999) [go_sem,F];refine Zqf (Zji e30) (by simp (maxSteps:=9999999) [go_sem,F]) (by simp (maxSteps:=9999999) [go_sem,F]) ?_;simp (maxSteps:=9999999) [go_sem,F];refine hK29 _ ?_;refine Zh fun K35 hK35=> ?_;obtain ⟨x15,e36,hM⟩:=bind_some hM;obtain ⟨q37,q38,q39,q40⟩:=Ke e36;have F:=And.intro F (And.intro q39 q40)
       have F:=And.intro F (Qf.ZaD e36);refine Zhu hbad 2 ?_;simp (maxSteps:=9999999) [go_sem,F];refine Zqf (Zra e36) (by simp (maxSteps:=9999999) [go_sem,F]) (by simp (maxSteps:=9999999) [go_sem,F]) ?_;simp (maxSteps:=9999999) [go_sem,F];refine hK35 _ ?_;refine Zh fun K41 hK41=> ?_;obtain ⟨e42,hU43,hR1⟩:=bind_some hM;clear hM;refine Znc (ι:=Bool) (fun i=>⟨100,[(2,.one (.l (.str a2))),(3,.one (.box 3 0)),(4,.one (.box 4 0)),(8,.one (.box 8 0)),(11,.one (.box 11 0)),(70,.one (.l (.bool i)))],[(3,[.l (.sl (a0.cells.map Zj.c))]),(4,[.l (.sl (a1.values.map Za.c)),.l (.sl (a1.tapes.map Zn.c)),.l (.int .i64 a1.steps)]),(8,[.l (.int .i64 x5.kind),.l (.int .i64 x5.n),.l (.int .i64 x5.step),.l (.str x5.text),.own 1002176 x5.list.length,.own 1002177 x5.columns.length,.own 1002178 x5.rows.length]),(11,[.l (.int .i64 x8.kind),.l (.int .i64 x8.n),.l (.int .i64 x8.step),.l (.str x8.text),.own 1002688 x8.list.length,.own 1002689 x8.columns.length,.own 1002690 x8.rows.length])],[(1002176,some ⟨true,x5.list.map Za.c⟩),(1002177,some ⟨true,x5.columns.map sC⟩),(1002178,some ⟨true,x5.rows.map Zq.c⟩),(1002688,some ⟨true,x8.list.map Za.c⟩),(1002689,some ⟨true,x8.columns.map sC⟩),(1002690,some ⟨true,x8.rows.map Zq.c⟩)]⟩) (fun i=>i=e42) ?_ ?_
       ·intro K44 hK44;have hM:=hU43;clear hU43;rcases ifM hM with ⟨h45,hM⟩| ⟨h45,hM⟩
        ·have g:=h45;(try simp at g);have F:=And.intro F (And.intro h45 (And.intro g (lT h45)));refine Jb ?_;simp (maxSteps:=9999999) [go_sem,F];obtain rfl:=si hM;exact fin hK44 true rfl
        ·have g:=h45;(try simp at g);have F:=And.intro F (And.intro h45 (And.intro g (lF h45)));obtain ⟨x17,e46,hM⟩:=bind_some hM;refine Jb ?_;simp (maxSteps:=9999999) [go_sem,F];refine Qb true (W8 k x8 x5 x17 e46) ?_;simp (maxSteps:=9999999) [go_sem,F];obtain rfl:=si hM;exact fin hK44 (!x17) rfl
       ·rintro x16 rfl;have hM:=hR1;clear hR1;(try dsimp only at hM);refine Zp hM (fun h47 hM=> ?_) (fun h47 hM=> ?_)
        ·have g:=h47;(try simp at g);have F:=And.intro F (And.intro h47 g);refine Zw fun K h=> ?_;simp (maxSteps:=9999999) [go_sem,F];refine h _ ?_;obtain rfl:=si hM;refine Ja ?_;simp (maxSteps:=9999999) [go_sem,F]
        ·have g:=h47;(try simp at g);have F:=And.intro F (And.intro h47 g);refine Zl ?_;refine hK41 _ ?_;refine Zw fun K h=> ?_;simp (maxSteps:=9999999) [go_sem,F];refine h _ ?_;refine Zh fun K48 hK48=> ?_;obtain ⟨x18,e49,hM⟩:=bind_some hM;obtain ⟨q50,q51,q52,q53⟩:=Ke e49;have F:=And.intro F (And.intro q52 q53);have F:=And.intro F (Za.ZaD e49)
         refine Zhu hbad 2 ?_;simp (maxSteps:=9999999) [go_sem,F];refine Zqf (ZnM e49) (by simp (maxSteps:=9999999) [go_sem,F]) (by simp (maxSteps:=9999999) [go_sem,F]) ?_;simp (maxSteps:=9999999) [go_sem,F];refine hK48 _ ?_;refine Zw fun K h=> ?_;simp (maxSteps:=9999999) [go_sem,F];refine h _ ?_;refine Zh fun K54 hK54=> ?_;obtain ⟨x19,e55,hM⟩:=bind_some hM
         refine Jb ?_;simp (maxSteps:=9999999) [go_sem,F];refine Qb true (Zki (k:=1) (y:=(Za.mk x8.kind x8.n x8.step x8.text x18.1.list x18.1.columns x18.1.rows)) e55 (by first | exact q50| (rw [q50];first | done| rfl))) ?_;simp (maxSteps:=9999999) [go_sem,F];refine hK54 _ ?_;refine Zh fun K56 hK56=> ?_;refine Zw fun K h=> ?_;simp (maxSteps:=9999999) [go_sem,F]
         refine h _ ?_;refine Zp hM (fun h57 hM=> ?_) (fun h57 hM=> ?_)
         ·have g:=h57;(try simp at g);have F:=And.intro F (And.intro h57 (And.intro g (lT h57)));refine Zw fun K h=> ?_;simp (maxSteps:=9999999) [go_sem,F];refine h _ ?_;obtain rfl:=si hM;refine Ja ?_;simp (maxSteps:=9999999) [go_sem,F]
         ·have g:=h57;(try simp at g);have F:=And.intro F (And.intro h57 (And.intro g (lF h57)));refine Zl ?_;refine hK56 _ ?_;refine Zh fun K58 hK58=> ?_;refine Zw fun K h=> ?_;simp (maxSteps:=9999999) [go_sem,F];refine h _ ?_;refine Zp hM (fun h59 hM=> ?_) (fun h59 hM=> ?_)
          ·have g:=h59;(try simp at g);have F:=And.intro F (And.intro h59 g);refine Zw fun K h=> ?_;simp (maxSteps:=9999999) [go_sem,F];refine h _ ?_;obtain rfl:=si hM;refine Ja ?_;simp (maxSteps:=9999999) [go_sem,F]
          ·have g:=h59;(try simp at g);have F:=And.intro F (And.intro h59 g);refine Zl ?_;refine hK58 _ ?_;refine Zh fun K60 hK60=> ?_;refine Zoq (σ':=⟨100,[(2,.one (.l (.str a2))),(3,.one (.box 3 0)),(4,.one (.box 4 0)),(8,.one (.box 8 0)),(11,.one (.box 11 0)),(13,.one (.l (.int .i64 x18.2)))],[(3,[.l (.sl (a0.cells.map Zj.c))]),(4,[.l (.sl (a1.values.map Za.c)),.l (.sl (a1.tapes.map Zn.c)),.l (.int .i64 a1.steps)]),(8,[.l (.int .i64 x5.kind),.l (.int .i64 x5.n),.l (.int .i64 x5.step),.l (.str x5.text),.own 1002176 x5.list.length,.own 1002177 x5.columns.length,.own 1002178 x5.rows.length]),(11,[.l (.int .i64 x8.kind),.l (.int .i64 x8.n),.l (.int .i64 x8.step),.l (.str x8.text),.l (.sl (x18.1.list.map Za.c)),.l (.sl (x18.1.columns.map sC)),.l (.sl (x18.1.rows.map Zq.c))])],[(1002176,some ⟨true,x5.list.map Za.c⟩),(1002177,some ⟨true,x5.columns.map sC⟩),(1002178,some ⟨true,x5.rows.map Zq.c⟩)]⟩) ?_
           obtain ⟨x20,e61,hM⟩:=bind_some hM;obtain ⟨x21,e62,hM⟩:=bind_some hM;obtain ⟨x22,e63,hM⟩:=bind_some hM;refine ZT [[],[0],[],[0,1,2],[],[0,1,2,3,4],[],[0,1,2,3,4,5,6]] mixed (by kernel_rfl) ?_;simp (maxSteps:=9999999) [go_sem,F];refine Qb true (QG k a0 x20 e61) ?_;simp (maxSteps:=9999999) [go_sem,F];refine Qb true (Vt k a1 x21 e62) ?_
           simp (maxSteps:=9999999) [go_sem,F];refine Qb true (WD k x20 x21 a2 x22 e63) ?_;simp (maxSteps:=9999999) [go_sem,F];refine ⟨Zu (by kernel_rfl), ?_⟩;refine hK60 _ ?_;refine Zh fun K64 hK64=> ?_;obtain ⟨x23,e65,hM⟩:=bind_some hM;refine Zw fun K h=> ?_;simp (maxSteps:=9999999) [go_sem,F];refine Qb true (W8 k x22 x5 x23 e65) ?_
           simp (maxSteps:=9999999) [go_sem,F];refine h _ ?_;refine Zp hM (fun h66 hM=> ?_) (fun h66 hM=> ?_)
           ·have g:=h66;(try simp at g);have F:=And.intro F (And.intro h66 g);refine Zw fun K h=> ?_;simp (maxSteps:=9999999) [go_sem,F];refine h _ ?_;obtain rfl:=si hM;refine Ja ?_;simp (maxSteps:=9999999) [go_sem,F]
           ·have g:=h66;(try simp at g);have F:=And.intro F (And.intro h66 g);refine Zl ?_;refine hK64 _ ?_;refine Zw fun K h=> ?_;simp (maxSteps:=9999999) [go_sem,F];refine h _ ?_;refine Zh fun K67 hK67=> ?_;obtain ⟨x24,e68,hM⟩:=bind_some hM;refine Jb ?_;simp (maxSteps:=9999999) [go_sem,F];refine Qb true (Zki (k:=1) (y:=(Za.mk x8.kind x8.n x8.step x8.text x18.1.list x18.1.columns x18.1.rows)) e68 (by first | exact q50| (rw [q50];first | done| rfl))) ?_
            simp (maxSteps:=9999999) [go_sem,F];refine hK67 _ ?_;refine Zh fun K69 hK69=> ?_;refine Zw fun K h=> ?_;simp (maxSteps:=9999999) [go_sem,F];refine h _ ?_;refine Zp hM (fun h70 hM=> ?_) (fun h70 hM=> ?_)
            ·have g:=h70;(try simp at g);have F:=And.intro F (And.intro h70 (And.intro g (lT h70)));refine Zw fun K h=> ?_;simp (maxSteps:=9999999) [go_sem,F];refine h _ ?_;obtain rfl:=si hM;refine Ja ?_;simp (maxSteps:=9999999) [go_sem,F]
            ·have g:=h70;(try simp at g);have F:=And.intro F (And.intro h70 (And.intro g (lF h70)));refine Zl ?_;refine hK69 _ ?_;refine Zh fun K71 hK71=> ?_;refine Zw fun K h=> ?_;simp (maxSteps:=9999999) [go_sem,F];refine h _ ?_;refine Zp hM (fun h72 hM=> ?_) (fun h72 hM=> ?_)
             ·have g:=h72;(try simp at g);have F:=And.intro F (And.intro h72 g);refine Zw fun K h=> ?_;simp (maxSteps:=9999999) [go_sem,F];refine h _ ?_;obtain rfl:=si hM;refine Ja ?_;simp (maxSteps:=9999999) [go_sem,F]
             ·have g:=h72;(try simp at g);have F:=And.intro F (And.intro h72 g);refine Zl ?_;refine hK71 _ ?_;refine Zw fun K h=> ?_;simp (maxSteps:=9999999) [go_sem,F];refine h _ ?_;obtain rfl:=si hM;refine Ja ?_;simp (maxSteps:=9999999) [go_sem,F]
end Go.Proofs.YtfapaeabfcogkaaGreatDoor
