import Derived.Test.YtneeinggggadpaaJ3
import Derived.Test.YtneeinggggadpaaJ4
import Derived.Test.YtneeinggggadpaaJ7
set_option linter.unusedSimpArgs false
set_option linter.unusedVariables false
namespace Go.Proofs.Ytneeinggggadpaa
open Go.RowKit Am
set_option maxHeartbeats 4000000
set_option maxRecDepth 100000
theorem XL (a0:ByteArray) (r:Int) (hM:ZB a0=some r):Ctr Try.prog 12 [.one (.str a0)] true [.one (.int .i64 r)]:=by
 unfold ZB at hM
 refine Yp Try.func12 Try.ntmps12 Try.results12 fun N w0 hbad F=> ?_
 refine S1 ?_;refine Zk fun K1 hK1=> ?_;refine S1 ?_;refine Zh ?_;refine S1 ?_;refine Zs hM (fun h2 hM=> ?_) (fun h2 hM=> ?_)
 ·have F:=nf F h2;exact au
 ·have F:=nf F h2;refine mj (ι:=Bool) [3] [] [] (fun i=>[(6,oB i)]) hM ?_ ?_
  ·intro e3 hM K5 hK5;exact au
  ·intro x1 hM;(try dsimp only at hM);refine Zs hM (fun h10 hM=> ?_) (fun h10 hM=> ?_)
   ·have F:=nf F h10;exact au
   ·have F:=nf F h10;refine mj (ι:=Bool) [3] [] [] (fun i=>[(12,oB i)]) hM ?_ ?_
    ·intro e11 hM K13 hK13;exact au
    ·intro x2 hM;(try dsimp only at hM);refine Zs hM (fun h20 hM=> ?_) (fun h20 hM=> ?_)
     ·have F:=nf F h20;exact au
     ·have F:=nf F h20;refine mj (ι:=Bool) [3] [] [] (fun i=>[(20,oB i)]) hM ?_ ?_
      ·intro e21 hM K23 hK23;exact au
      ·intro x3 hM;(try dsimp only at hM);exact au
instance:HC 12 (Ty @XL):=⟨XL⟩
theorem Qh (a0:Int) (a1:Za) (a2:Za) (r:Za) (hM:Q3 a0 a1 a2=some r):TC Try.prog 36 12 [.one (.int .i64 a0),.agg (Za.c a1),.agg (Za.c a2)] [.agg (Za.c r)]:=by
 unfold Q3 at hM
 refine ZhD Try.func36 Try.ntmps36 Try.results36 fun N w0 hbad F=> ?_
 refine S1 ?_;refine S1 ?_;obtain rfl:=si hM;refine rr [] [(640,30000)] [6] [6] [640] ?_;exact au
instance:HC 36 (Ty @Qh):=⟨Qh⟩
theorem Qt:∀(k:Nat),(∀(a0:Zb) (a1:ByteArray) (r:(List Za)×Zb) (hM:Qg k a0 a1=some r),WR Try.prog 81 [] (Zb.c a0) [.one (.str a1)] false [.one (.sl (r.1.map Za.c))] (Zb.c r.2))∧
  (∀(a0:Zb) (r:Za×Zb) (hM:ZF k a0=some r),WR Try.prog 80 [] (Zb.c a0) [] false [.agg (Za.c r.1)] (Zb.c r.2))∧
  (∀(a0:Zb) (r:Za×Zb) (hM:Zr k a0=some r),WR Try.prog 76 [] (Zb.c a0) [] false [.agg (Za.c r.1)] (Zb.c r.2))∧
  (∀(a0:Zb) (r:Za×Zb) (hM:YX k a0=some r),WR Try.prog 63 [] (Zb.c a0) [] false [.agg (Za.c r.1)] (Zb.c r.2))∧
  (∀(a0:Zb) (r:Za×Zb) (hM:Yy k a0=some r),WR Try.prog 49 [] (Zb.c a0) [] false [.agg (Za.c r.1)] (Zb.c r.2))∧
  (∀(a0:Zb) (r:Za×Zb) (hM:Zl k a0=some r),WR Try.prog 28 [] (Zb.c a0) [] false [.agg (Za.c r.1)] (Zb.c r.2)):=by
 intro k
 induction k with
 | zero=>exact ⟨by intro a0 a1 r hM;simp [Qg] at hM,by intro a0 r hM;simp [ZF] at hM,by intro a0 r hM;simp [Zr] at hM,by intro a0 r hM;simp [YX] at hM,by intro a0 r hM;simp [Yy] at hM,by intro a0 r hM;simp [Zl] at hM⟩
 | succ k ih=>
  obtain ⟨ih_s_l11Args,ih_s_l11Atom,ih_s_l11Product,ih_s_l11Sum,ih_s_l11Compare,ih_s_l11Expr⟩:=ih
  refine ⟨?_, ?_, ?_, ?_, ?_, ?_⟩
  ·intro a0 a1 r hM
   haveI:HC 81 _:=⟨ih_s_l11Args⟩;haveI:HC 80 _:=⟨ih_s_l11Atom⟩;haveI:HC 76 _:=⟨ih_s_l11Product⟩;haveI:HC 63 _:=⟨ih_s_l11Sum⟩;haveI:HC 49 _:=⟨ih_s_l11Compare⟩;haveI:HC 28 _:=⟨ih_s_l11Expr⟩;rw [Qg] at hM
   refine Wd Try.func81 Try.ntmps81 Try.results81 fun N w0 hbad F=> ?_
   refine S1 ?_;refine S1 ?_;refine Zk fun K1 hK1=> ?_;obtain ⟨x1,e2,hM⟩:=bind_some hM;refine ZH fun K h=> ?_;simp [go_sem,F];refine Zq 0 (Yv a0 a1 x1 e2) ?_;simp [go_sem,F];refine h _ ?_;refine Zs hM (fun h3 hM=> ?_) (fun h3 hM=> ?_)
   ·have F:=nf F h3;refine S1 ?_;refine S1 ?_;obtain rfl:=si hM;refine le1 [] [44] [] ?_ (ch:=[(4,oL Za.c ([]:List Za))]);exact au
   ·have F:=nf F h3;refine ZC ?_;refine hK1 _ ?_;refine mj (ι:=(List Ze)×Int×Int×Int×(List Za)) [0,1] [] [] (fun i=>[(5,oO 384 i.2.2.2.2.length)]) hM ?_ ?_ (cb:=fun i=>[(44,[cL Ze.c i.1,cI i.2.1,cI i.2.2.1,cI i.2.2.2.1])]) (ca:=fun i=>[(384,aF Za.c i.2.2.2.2)])
    ·intro e4 hM K6 hK6;refine Zh ?_;refine Zkt [384] (σ':=⟨44,[(0,.one (.box 44 0)),(1,.one (.l (.str a1))),(5,.one (.own 384 (([]:List Za).length)))],[(44,[.l (.sl (x1.2.toks.map Ze.c)),.l (.int .i64 x1.2.i),.l (.int .i64 x1.2.end_),.l (.int .i64 x1.2.bad)])],[(384,some ⟨false,([]:List Za).map Za.c⟩)]⟩) ?_;refine lp (ι:=(List Ze)×Int×Int×Int×(List Za)) [0,1] [] [] (fun i=>[(5,oO 384 i.2.2.2.2.length)]) (fun n i=>YK (Zl k) n i.1 i.2.1 i.2.2.1 i.2.2.2.1 i.2.2.2.2=some e4) k (x1.2.toks,x1.2.i,x1.2.end_,x1.2.bad,([]:List Za)) hM (by simp [YK]) ?_ (cb:=fun i=>[(44,[cL Ze.c i.1,cI i.2.1,cI i.2.2.1,cI i.2.2.2.1])]) (ca:=fun i=>[(384,aF Za.c i.2.2.2.2)])
     intro KL7 nL7 ⟨x7,x8,x9,x10,x11⟩ hL7 hM _;have hM:YK (Zl k) (nL7+1) x7 x8 x9 x10 x11=some e4:=hM;rw [YK] at hM;exact au
    ·rintro ⟨x2,x3,x4,x5,x6⟩ hM;dsimp only at hM;obtain ⟨x15,e18,hM⟩:=bind_some hM;refine ZH fun K h=> ?_;simp [go_sem,F];refine Zq 0 (Yc (Zb.mk x2 x3 x4 x5) a1 x15 e18) ?_;simp [go_sem,F];refine h _ ?_;refine S1 ?_;obtain rfl:=si hM;refine le1 [] [44] [] ?_ (ch:=[(4,oL Za.c x6)]);exact au
  ·intro a0 r hM
   haveI:HC 81 _:=⟨ih_s_l11Args⟩;haveI:HC 80 _:=⟨ih_s_l11Atom⟩;haveI:HC 76 _:=⟨ih_s_l11Product⟩;haveI:HC 63 _:=⟨ih_s_l11Sum⟩;haveI:HC 49 _:=⟨ih_s_l11Compare⟩;haveI:HC 28 _:=⟨ih_s_l11Expr⟩;rw [ZF] at hM
   refine Wd Try.func80 Try.ntmps80 Try.results80 fun N w0 hbad F=> ?_
   refine S1 ?_;refine Zk fun K1 hK1=> ?_;refine mj (ι:=Bool) [0,2] [2,141] [] (fun i=>[(21,oB i)]) hM ?_ ?_
   ·intro e2 hM K4 hK4;rcases ifM hM with ⟨h5,hM⟩| ⟨h5,hM⟩
    ·have F:=And.intro (nf F h5) (eT h5);refine ZV 15 mixed (by kernel_rfl) (by kernel_rfl) ?_;simp [go_sem,F];exact au
    ·have F:=And.intro (nf F h5) (eF h5);refine ZV 15 mixed (by kernel_rfl) (by kernel_rfl) ?_;simp [go_sem,F];exact au
   ·intro x1 hM;(try dsimp only at hM);refine Zs hM (fun h6 hM=> ?_) (fun h6 hM=> ?_)
    ·have F:=nf F h6;obtain ⟨x2,e7,hM⟩:=bind_some hM;refine ZH fun K h=> ?_;simp [go_sem,F];refine Zq 0 (Xv a0 x2 e7) ?_;simp [go_sem,F];refine h _ ?_;obtain rfl:=si hM;refine le1 [2] [141] [] ?_ (cb:=[(2,bT (Za.c x2.1))]);exact au
    ·have F:=nf F h6;refine ZC ?_;refine hK1 _ ?_;refine Zk fun K8 hK8=> ?_;refine le1 [0,2] [2,141] [] ?_;obtain ⟨x3,e9,hM⟩:=bind_some hM;have F:=And.intro F (Jf e9);refine Qs [[],[0],[0,1],[0,1,2],[],[4],[4,5],[4,5,6],[0,1,2,3,4,5,6,7],[0,1,2,3,4,5,6,7,8],[],[0,1,2,3,4,5,6,7,8,9,10]] mixed (by kernel_rfl) ?_;simp [go_sem,F]
     refine ⟨ZU (by kernel_rfl), ?_⟩;refine hK8 _ ?_;refine Zk fun K10 hK10=> ?_;refine Zh ?_;refine S1 ?_;refine Zs hM (fun h11 hM=> ?_) (fun h11 hM=> ?_)
     ·have F:=nf F h11;refine S1 ?_;obtain ⟨x4,e12,hM⟩:=bind_some hM;refine ZH fun K h=> ?_;simp [go_sem,F];refine Uu false (Z0 x3.n x4 e12) ?_;simp [go_sem,F];refine h _ ?_;obtain rfl:=si hM;refine le1 [2] [141] [] ?_ (cb:=[(2,bT (Za.c x4))]);exact au
     ·have F:=nf F h11;refine S1 ?_;refine Zs hM (fun h13 hM=> ?_) (fun h13 hM=> ?_)
      ·have F:=nf F h13;exact au
      ·have F:=nf F h13;refine mj (ι:=Bool) [0,2,3] [2,3,141] [] (fun i=>[(64,oB i)]) hM ?_ ?_
       ·intro e14 hM K16 hK16;exact au
       ·intro x5 hM;(try dsimp only at hM);refine Zs hM (fun h19 hM=> ?_) (fun h19 hM=> ?_)
        ·have F:=nf F h19;refine S1 ?_;obtain ⟨x7,e20,hM⟩:=bind_some hM;refine ZH fun K h=> ?_;simp [go_sem,F];refine Uu false (Ww x3.text x7 e20) ?_;simp [go_sem,F];refine h _ ?_;obtain rfl:=si hM;refine le1 [2] [141] [] ?_ (cb:=[(2,bT (Za.c x7))]);exact au
        ·have F:=nf F h19;refine mj (ι:=Bool) [0,2,3] [2,3,141] [] (fun i=>[(84,oB i)]) hM ?_ ?_
         ·intro e21 hM K23 hK23;exact au
         ·intro x8 hM;(try dsimp only at hM);refine Zs hM (fun h26 hM=> ?_) (fun h26 hM=> ?_)
          ·have F:=nf F h26;refine S1 ?_;obtain ⟨x10,e27,hM⟩:=bind_some hM;refine ZH fun K h=> ?_;simp [go_sem,F];refine Zq 0 (Yc (Zb.mk a0.toks (IntKind.i64.wrap (a0.i+1)) a0.end_ a0.bad) (⟨#[40]⟩:ByteArray) x10 e27) ?_;simp [go_sem,F];refine h _ ?_;refine Zk fun K28 hK28=> ?_;refine le1 [0,2,3] [2,3,141] [] ?_;obtain ⟨x11,e29,hM⟩:=bind_some hM
           refine Qs [[1000141],[0,1000141],[],[2],[0,1,2,3],[0,1,2,3,4]] mixed (by kernel_rfl) ?_;simp [go_sem,F];refine Zq 0 (ih_s_l11Args x10 (⟨#[41]⟩:ByteArray) x11 e29) ?_;simp [go_sem,F];refine ⟨ZU (by kernel_rfl), ?_⟩;exact au
          ·have F:=nf F h26;obtain ⟨x12,e30,hM⟩:=bind_some hM;refine ZH fun K h=> ?_;simp [go_sem,F];refine Uu false (Qd x3 (⟨#[91]⟩:ByteArray) x12 e30) ?_;simp [go_sem,F];refine h _ ?_;refine Zs hM (fun h31 hM=> ?_) (fun h31 hM=> ?_)
           ·have F:=nf F h31;exact au
           ·have F:=nf F h31;obtain ⟨x14,e33,hM⟩:=bind_some hM;refine ZH fun K h=> ?_;simp [go_sem,F];refine Uu false (Qd x3 (⟨#[40]⟩:ByteArray) x14 e33) ?_;simp [go_sem,F];refine h _ ?_;refine Zs hM (fun h34 hM=> ?_) (fun h34 hM=> ?_)
            ·have F:=nf F h34;exact au
            ·have F:=nf F h34;refine ZC ?_;refine hK10 _ ?_;obtain ⟨x17,e37,hM⟩:=bind_some hM;refine ZH fun K h=> ?_;simp [go_sem,F];refine Zq 0 (Xv a0 x17 e37) ?_;simp [go_sem,F];refine h _ ?_;obtain rfl:=si hM;refine le1 [2] [141] [] ?_ (cb:=[(2,bT (Za.c x17.1))]);exact au
  ·intro a0 r hM
   haveI:HC 81 _:=⟨ih_s_l11Args⟩;haveI:HC 80 _:=⟨ih_s_l11Atom⟩;haveI:HC 76 _:=⟨ih_s_l11Product⟩;haveI:HC 63 _:=⟨ih_s_l11Sum⟩;haveI:HC 49 _:=⟨ih_s_l11Compare⟩;haveI:HC 28 _:=⟨ih_s_l11Expr⟩;rw [Zr] at hM
   refine Wd Try.func76 Try.ntmps76 Try.results76 fun N w0 hbad F=> ?_
   refine S1 ?_;obtain ⟨x1,e1,hM⟩:=bind_some hM;refine ZH fun K h=> ?_;simp [go_sem,F];refine Zq 0 (ih_s_l11Atom a0 x1 e1) ?_;simp [go_sem,F];refine h _ ?_;refine mj (ι:=Int×Int×ByteArray×(List Za)×(List Ze)×Int×Int×Int) [2,3] [2] [] (fun i=>[]) hM ?_ ?_ (cb:=fun i=>[(3,[cI i.1,cI i.2.1,cS i.2.2.1,cL Za.c i.2.2.2.1]),(21,[cL Ze.c i.2.2.2.2.1,cI i.2.2.2.2.2.1,cI i.2.2.2.2.2.2.1,cI i.2.2.2.2.2.2.2])])
   ·intro e2 hM K4 hK4;refine Zh ?_;refine lp (ι:=(List Ze)×Int×Int×Int×Int×Int×ByteArray×(List Za)) [0,2,3] [2] [] (fun i=>[]) (fun n i=>ZX (ZF k) n i.1 i.2.1 i.2.2.1 i.2.2.2.1 i.2.2.2.2.1 i.2.2.2.2.2.1 i.2.2.2.2.2.2.1 i.2.2.2.2.2.2.2=some e2) k (x1.2.toks,x1.2.i,x1.2.end_,x1.2.bad,x1.1.kind,x1.1.n,x1.1.text,x1.1.args) hM (by simp [ZX]) ?_ (cb:=fun i=>[(3,[cI i.2.2.2.2.1,cI i.2.2.2.2.2.1,cS i.2.2.2.2.2.2.1,cL Za.c i.2.2.2.2.2.2.2]),(21,[cL Ze.c i.1,cI i.2.1,cI i.2.2.1,cI i.2.2.2.1])])
    intro KL5 nL5 ⟨x10,x11,x12,x13,x14,x15,x16,x17⟩ hL5 hM _;have hM:ZX (ZF k) (nL5+1) x10 x11 x12 x13 x14 x15 x16 x17=some e2:=hM;rw [ZX] at hM;refine Zk fun K6 hK6=> ?_;obtain ⟨x18,e7,hM⟩:=bind_some hM;refine ZH fun K h=> ?_;simp [go_sem,F];refine Zq 0 (Yv (Zb.mk x10 x11 x12 x13) (⟨#[42]⟩:ByteArray) x18 e7) ?_
    simp [go_sem,F];refine h _ ?_;refine Zs hM (fun h8 hM=> ?_) (fun h8 hM=> ?_)
    ·have F:=nf F h8;refine ZC ?_;refine hK6 _ ?_;refine Zh ?_;refine S1 ?_;refine le1 [0,2,3] [2,3,21] [] ?_;obtain ⟨x19,e9,hM⟩:=bind_some hM;obtain ⟨x20,e10,hM⟩:=bind_some hM;refine Qs [[1000021],[],[1],[0,1,2],[0,1,2,3]] mixed (by kernel_rfl) ?_;simp [go_sem,F];refine Zq 0 (ih_s_l11Atom (Zb.mk x18.2.toks (IntKind.i64.wrap (x18.2.i+1)) x18.2.end_ x18.2.bad) x19 e9) ?_
     simp [go_sem,F];refine KO (Qh 3 (Za.mk x14 x15 x16 x17) x19.1 x20 e10) ?_;simp [go_sem,F];refine ⟨ZU (by kernel_rfl), ?_⟩;exact au
    ·have F:=nf F h8;exact au
   ·rintro ⟨x2,x3,x4,x5,x6,x7,x8,x9⟩ hM;dsimp only at hM;exact au
  ·intro a0 r hM
   haveI:HC 81 _:=⟨ih_s_l11Args⟩;haveI:HC 80 _:=⟨ih_s_l11Atom⟩;haveI:HC 76 _:=⟨ih_s_l11Product⟩;haveI:HC 63 _:=⟨ih_s_l11Sum⟩;haveI:HC 49 _:=⟨ih_s_l11Compare⟩;haveI:HC 28 _:=⟨ih_s_l11Expr⟩;rw [YX] at hM
   refine Wd Try.func63 Try.ntmps63 Try.results63 fun N w0 hbad F=> ?_
   refine S1 ?_;obtain ⟨x1,e1,hM⟩:=bind_some hM;refine ZH fun K h=> ?_;simp [go_sem,F];refine Zq 0 (ih_s_l11Product a0 x1 e1) ?_;simp [go_sem,F];refine h _ ?_;refine mj (ι:=Int×Int×ByteArray×(List Za)×(List Ze)×Int×Int×Int) [2,3] [2] [] (fun i=>[]) hM ?_ ?_ (cb:=fun i=>[(3,[cI i.1,cI i.2.1,cS i.2.2.1,cL Za.c i.2.2.2.1]),(29,[cL Ze.c i.2.2.2.2.1,cI i.2.2.2.2.2.1,cI i.2.2.2.2.2.2.1,cI i.2.2.2.2.2.2.2])])
   ·intro e2 hM K4 hK4;refine Zh ?_;refine lp (ι:=(List Ze)×Int×Int×Int×Int×Int×ByteArray×(List Za)) [0,2,3] [2] [] (fun i=>[]) (fun n i=>Y6 (Zr k) n i.1 i.2.1 i.2.2.1 i.2.2.2.1 i.2.2.2.2.1 i.2.2.2.2.2.1 i.2.2.2.2.2.2.1 i.2.2.2.2.2.2.2=some e2) k (x1.2.toks,x1.2.i,x1.2.end_,x1.2.bad,x1.1.kind,x1.1.n,x1.1.text,x1.1.args) hM (by simp [Y6]) ?_ (cb:=fun i=>[(3,[cI i.2.2.2.2.1,cI i.2.2.2.2.2.1,cS i.2.2.2.2.2.2.1,cL Za.c i.2.2.2.2.2.2.2]),(29,[cL Ze.c i.1,cI i.2.1,cI i.2.2.1,cI i.2.2.2.1])])
    intro KL5 nL5 ⟨x10,x11,x12,x13,x14,x15,x16,x17⟩ hL5 hM _;have hM:Y6 (Zr k) (nL5+1) x10 x11 x12 x13 x14 x15 x16 x17=some e2:=hM;rw [Y6] at hM;refine Zk fun K6 hK6=> ?_;refine mj (ι:=(List Ze)×Int×Int×Int×Bool) [0,2,3] [2,3] [] (fun i=>[(12,oB i.2.2.2.2)]) hM ?_ ?_ (cb:=fun i=>[(29,[cL Ze.c i.1,cI i.2.1,cI i.2.2.1,cI i.2.2.2.1])])
    ·intro e7 hM K9 hK9;exact au
    ·rintro ⟨x18,x19,x20,x21,x22⟩ hM;dsimp only at hM;refine Zs hM (fun h13 hM=> ?_) (fun h13 hM=> ?_)
     ·have F:=nf F h13;refine ZC ?_;refine hK6 _ ?_;refine Zh ?_;refine S1 ?_;refine mj (ι:=(List Ze)×Int×Int×Int×Int) [0,2,3] [2,3] [] (fun i=>[(4,oI i.2.2.2.2)]) hM ?_ ?_ (cb:=fun i=>[(29,[cL Ze.c i.1,cI i.2.1,cI i.2.2.1,cI i.2.2.2.1])])
      ·intro e14 hM K16 hK16;exact au
      ·rintro ⟨x25,x26,x27,x28,x29⟩ hM;dsimp only at hM;refine S1 ?_;refine le1 [0,2,3,4] [2,3,29] [] ?_;obtain ⟨x31,e19,hM⟩:=bind_some hM;obtain ⟨x32,e20,hM⟩:=bind_some hM;refine Qs [[1000029],[1000029],[],[2],[0,1,2,3],[0,1,2,3,4]] mixed (by kernel_rfl) ?_;simp [go_sem,F];refine Zq 0 (ih_s_l11Product (Zb.mk x25 (IntKind.i64.wrap (x26+1)) x27 x28) x31 e19) ?_
       simp [go_sem,F];refine KO (Qh x29 (Za.mk x14 x15 x16 x17) x31.1 x32 e20) ?_;simp [go_sem,F];refine ⟨ZU (by kernel_rfl), ?_⟩;exact au
     ·have F:=nf F h13;exact au
   ·rintro ⟨x2,x3,x4,x5,x6,x7,x8,x9⟩ hM;dsimp only at hM;exact au
  ·intro a0 r hM
   haveI:HC 81 _:=⟨ih_s_l11Args⟩;haveI:HC 80 _:=⟨ih_s_l11Atom⟩;haveI:HC 76 _:=⟨ih_s_l11Product⟩;haveI:HC 63 _:=⟨ih_s_l11Sum⟩;haveI:HC 49 _:=⟨ih_s_l11Compare⟩;haveI:HC 28 _:=⟨ih_s_l11Expr⟩;rw [Yy] at hM
   refine Wd Try.func49 Try.ntmps49 Try.results49 fun N w0 hbad F=> ?_
   refine S1 ?_;obtain ⟨x1,e1,hM⟩:=bind_some hM;refine ZH fun K h=> ?_;simp [go_sem,F];refine Zq 0 (ih_s_l11Sum a0 x1 e1) ?_;simp [go_sem,F];refine h _ ?_;refine Zk fun K2 hK2=> ?_;refine Zh ?_;obtain ⟨x2,e3,hM⟩:=bind_some hM;refine ZH fun K h=> ?_;simp [go_sem,F];refine Zq 0 (Yv x1.2 (⟨#[60]⟩:ByteArray) x2 e3) ?_;simp [go_sem,F];refine h _ ?_
   refine Zs hM (fun h4 hM=> ?_) (fun h4 hM=> ?_)
   ·have F:=nf F h4;refine S1 ?_;refine Zk fun K5 hK5=> ?_;refine le1 [0,2,3] [2,3,37] [] ?_;obtain ⟨x3,e6,hM⟩:=bind_some hM;obtain ⟨x4,e7,hM⟩:=bind_some hM;refine Qs [[1000037],[],[1],[0,1,2],[0,1,2,3]] mixed (by kernel_rfl) ?_;simp [go_sem,F];refine Zq 0 (ih_s_l11Sum (Zb.mk x2.2.toks (IntKind.i64.wrap (x2.2.i+1)) x2.2.end_ x2.2.bad) x3 e6) ?_
    simp [go_sem,F];refine KO (Qh 4 x1.1 x3.1 x4 e7) ?_;simp [go_sem,F];refine ⟨ZU (by kernel_rfl), ?_⟩;refine hK5 _ ?_;obtain rfl:=si hM;refine le1 [2] [37] [] ?_ (cb:=[(2,bT (Za.c x4))]);exact au
   ·have F:=nf F h4;obtain ⟨x5,e8,hM⟩:=bind_some hM;refine ZH fun K h=> ?_;simp [go_sem,F];refine Zq 0 (Yv x2.2 (⟨#[61,61]⟩:ByteArray) x5 e8) ?_;simp [go_sem,F];refine h _ ?_;refine Zs hM (fun h9 hM=> ?_) (fun h9 hM=> ?_)
    ·have F:=nf F h9;refine S1 ?_;refine Zk fun K10 hK10=> ?_;refine le1 [0,2,3] [2,3,37] [] ?_;obtain ⟨x6,e11,hM⟩:=bind_some hM;obtain ⟨x7,e12,hM⟩:=bind_some hM;refine Qs [[1000037],[],[1],[0,1,2],[0,1,2,3]] mixed (by kernel_rfl) ?_;simp [go_sem,F];refine Zq 0 (ih_s_l11Sum (Zb.mk x5.2.toks (IntKind.i64.wrap (x5.2.i+1)) x5.2.end_ x5.2.bad) x6 e11) ?_
     simp [go_sem,F];refine KO (Qh 5 x1.1 x6.1 x7 e12) ?_;simp [go_sem,F];refine ⟨ZU (by kernel_rfl), ?_⟩;refine hK10 _ ?_;obtain rfl:=si hM;refine le1 [2] [37] [] ?_ (cb:=[(2,bT (Za.c x7))]);exact au
    ·have F:=nf F h9;exact au
  ·intro a0 r hM
   haveI:HC 81 _:=⟨ih_s_l11Args⟩;haveI:HC 80 _:=⟨ih_s_l11Atom⟩;haveI:HC 76 _:=⟨ih_s_l11Product⟩;haveI:HC 63 _:=⟨ih_s_l11Sum⟩;haveI:HC 49 _:=⟨ih_s_l11Compare⟩;haveI:HC 28 _:=⟨ih_s_l11Expr⟩;rw [Zl] at hM
   refine Wd Try.func28 Try.ntmps28 Try.results28 fun N w0 hbad F=> ?_
   refine S1 ?_;refine Zk fun K1 hK1=> ?_;refine Zh ?_;obtain ⟨x1,e2,hM⟩:=bind_some hM;refine ZH fun K h=> ?_;simp [go_sem,F];refine Zq 0 (Yv a0 (⟨#[108,101,116]⟩:ByteArray) x1 e2) ?_;simp [go_sem,F];refine h _ ?_;refine Zs hM (fun h3 hM=> ?_) (fun h3 hM=> ?_)
   ·have F:=nf F h3;refine S1 ?_;obtain ⟨x2,e4,hM⟩:=bind_some hM;refine ZH fun K h=> ?_;simp [go_sem,F];refine Zq 0 (Xu k (Zb.mk x1.2.toks (IntKind.i64.wrap (x1.2.i+1)) x1.2.end_ x1.2.bad) x2 e4) ?_;simp [go_sem,F];refine h _ ?_;obtain ⟨x3,e5,hM⟩:=bind_some hM;refine ZH fun K h=> ?_;simp [go_sem,F];refine Zq 0 (Yc x2.2 (⟨#[61]⟩:ByteArray) x3 e5) ?_
    simp [go_sem,F];refine h _ ?_;obtain ⟨x4,e6,hM⟩:=bind_some hM;refine ZH fun K h=> ?_;simp [go_sem,F];refine Zq 0 (ih_s_l11Expr x3 x4 e6) ?_;simp [go_sem,F];refine h _ ?_;obtain ⟨x5,e7,hM⟩:=bind_some hM;refine ZH fun K h=> ?_;simp [go_sem,F];refine Zq 0 (Yc x4.2 (⟨#[105,110]⟩:ByteArray) x5 e7) ?_;simp [go_sem,F];refine h _ ?_;refine Zk fun K8 hK8=> ?_
    refine le1 [0,2,3,4] [2,4,86] [] ?_;obtain ⟨x6,e9,hM⟩:=bind_some hM;refine Qs [[1000086],[1000086],[],[2],[1,2,3],[0,1,2,3,4],[0,1,2,3,4,5]] mixed (by kernel_rfl) ?_;simp [go_sem,F];refine Zq 0 (ih_s_l11Expr x5 x6 e9) ?_;simp [go_sem,F];refine ⟨ZU (by kernel_rfl), ?_⟩;refine hK8 _ ?_;obtain rfl:=si hM;refine le1 [2] [86] [] ?_ (cb:=[(2,[cI 7,cI 0,cS x2.1,cL Za.c [x4.1,x6.1]])])
    exact au
   ·have F:=nf F h3;obtain ⟨x7,e10,hM⟩:=bind_some hM;refine ZH fun K h=> ?_;simp [go_sem,F];refine Zq 0 (Yv x1.2 (⟨#[105,102]⟩:ByteArray) x7 e10) ?_;simp [go_sem,F];refine h _ ?_;refine Zs hM (fun h11 hM=> ?_) (fun h11 hM=> ?_)
    ·have F:=nf F h11;refine S1 ?_;obtain ⟨x8,e12,hM⟩:=bind_some hM;refine ZH fun K h=> ?_;simp [go_sem,F];refine Zq 0 (ih_s_l11Expr (Zb.mk x7.2.toks (IntKind.i64.wrap (x7.2.i+1)) x7.2.end_ x7.2.bad) x8 e12) ?_;simp [go_sem,F];refine h _ ?_;obtain ⟨x9,e13,hM⟩:=bind_some hM;refine ZH fun K h=> ?_;simp [go_sem,F];refine Zq 0 (Yc x8.2 (⟨#[116,104,101,110]⟩:ByteArray) x9 e13) ?_
     simp [go_sem,F];refine h _ ?_;obtain ⟨x10,e14,hM⟩:=bind_some hM;refine ZH fun K h=> ?_;simp [go_sem,F];refine Zq 0 (ih_s_l11Expr x9 x10 e14) ?_;simp [go_sem,F];refine h _ ?_;obtain ⟨x11,e15,hM⟩:=bind_some hM;refine ZH fun K h=> ?_;simp [go_sem,F];refine Zq 0 (Yc x10.2 (⟨#[101,108,115,101]⟩:ByteArray) x11 e15) ?_;simp [go_sem,F];refine h _ ?_
     refine Zk fun K16 hK16=> ?_;refine le1 [0,2,5,6] [2,5,6,86] [] ?_;obtain ⟨x12,e17,hM⟩:=bind_some hM;refine Qs [[1000086],[1000086],[],[2],[0,1,2,3],[0,1,2,3,4],[0,1,2,3,4,5]] mixed (by kernel_rfl) ?_;simp [go_sem,F];refine Zq 0 (ih_s_l11Expr x11 x12 e17) ?_;simp [go_sem,F];refine ⟨ZU (by kernel_rfl), ?_⟩;refine hK16 _ ?_;obtain rfl:=si hM
     refine le1 [2] [86] [] ?_ (cb:=[(2,[cI 8,cI 0,cS (⟨#[]⟩:ByteArray),cL Za.c [x8.1,x10.1,x12.1]])]);exact au
    ·have F:=nf F h11;obtain ⟨x13,e18,hM⟩:=bind_some hM;refine ZH fun K h=> ?_;simp [go_sem,F];refine Zq 0 (Yv x7.2 (⟨#[102,111,114]⟩:ByteArray) x13 e18) ?_;simp [go_sem,F];refine h _ ?_;refine Zs hM (fun h19 hM=> ?_) (fun h19 hM=> ?_)
     ·have F:=nf F h19;refine S1 ?_;obtain ⟨x14,e20,hM⟩:=bind_some hM;refine ZH fun K h=> ?_;simp [go_sem,F];refine Zq 0 (Xu k (Zb.mk x13.2.toks (IntKind.i64.wrap (x13.2.i+1)) x13.2.end_ x13.2.bad) x14 e20) ?_;simp [go_sem,F];refine h _ ?_;obtain ⟨x15,e21,hM⟩:=bind_some hM;refine ZH fun K h=> ?_;simp [go_sem,F];refine Zq 0 (Yc x14.2 (⟨#[105,110]⟩:ByteArray) x15 e21) ?_
      simp [go_sem,F];refine h _ ?_;obtain ⟨x16,e22,hM⟩:=bind_some hM;refine ZH fun K h=> ?_;simp [go_sem,F];refine Zq 0 (ih_s_l11Expr x15 x16 e22) ?_;simp [go_sem,F];refine h _ ?_;obtain ⟨x17,e23,hM⟩:=bind_some hM;refine ZH fun K h=> ?_;simp [go_sem,F];refine Zq 0 (Yc x16.2 (⟨#[100,111]⟩:ByteArray) x17 e23) ?_;simp [go_sem,F];refine h _ ?_
      refine Zk fun K24 hK24=> ?_;refine le1 [0,2,7,8] [2,8,86] [] ?_;obtain ⟨x18,e25,hM⟩:=bind_some hM;refine Qs [[1000086],[1000086],[],[2],[1,2,3],[0,1,2,3,4],[0,1,2,3,4,5]] mixed (by kernel_rfl) ?_;simp [go_sem,F];refine Zq 0 (ih_s_l11Expr x17 x18 e25) ?_;simp [go_sem,F];refine ⟨ZU (by kernel_rfl), ?_⟩;refine hK24 _ ?_;obtain rfl:=si hM
      refine le1 [2] [86] [] ?_ (cb:=[(2,[cI 9,cI 0,cS x14.1,cL Za.c [x16.1,x18.1]])]);exact au
     ·have F:=nf F h19;exact au
theorem V0 (k:Nat):∀(a0:Zb) (a1:ByteArray) (r:(List Za)×Zb) (hM:Qg k a0 a1=some r),WR Try.prog 81 [] (Zb.c a0) [.one (.str a1)] false [.one (.sl (r.1.map Za.c))] (Zb.c r.2):=(Qt k).1
instance:HC 81 (Ty @V0):=⟨V0⟩
theorem VZ (k:Nat):∀(a0:Zb) (r:Za×Zb) (hM:ZF k a0=some r),WR Try.prog 80 [] (Zb.c a0) [] false [.agg (Za.c r.1)] (Zb.c r.2):=(Qt k).2.1
instance:HC 80 (Ty @VZ):=⟨VZ⟩
theorem WI (k:Nat):∀(a0:Zb) (r:Za×Zb) (hM:Zr k a0=some r),WR Try.prog 76 [] (Zb.c a0) [] false [.agg (Za.c r.1)] (Zb.c r.2):=(Qt k).2.2.1
instance:HC 76 (Ty @WI):=⟨WI⟩
theorem UX (k:Nat):∀(a0:Zb) (r:Za×Zb) (hM:YX k a0=some r),WR Try.prog 63 [] (Zb.c a0) [] false [.agg (Za.c r.1)] (Zb.c r.2):=(Qt k).2.2.2.1
instance:HC 63 (Ty @UX):=⟨UX⟩
theorem WJ (k:Nat):∀(a0:Zb) (r:Za×Zb) (hM:Yy k a0=some r),WR Try.prog 49 [] (Zb.c a0) [] false [.agg (Za.c r.1)] (Zb.c r.2):=(Qt k).2.2.2.2.1
instance:HC 49 (Ty @WJ):=⟨WJ⟩
theorem Wv (k:Nat):∀(a0:Zb) (r:Za×Zb) (hM:Zl k a0=some r),WR Try.prog 28 [] (Zb.c a0) [] false [.agg (Za.c r.1)] (Zb.c r.2):=(Qt k).2.2.2.2.2
instance:HC 28 (Ty @Wv):=⟨Wv⟩
theorem Zab:∀(k:Nat),(∀(a0:Za) (a1:Int) (r:Int) (hM:Qi k a0 a1=some r),Ctr Try.prog 24 [.agg (Za.c a0),.one (.int .i64 a1)] true [.one (.int .i64 r)]):=by
 intro k
 induction k with
 | zero=>intro a0 a1 r hM;simp [Qi] at hM
 | succ k ih_s_l10Left=>
  ·intro a0 a1 r hM
   haveI:HC 24 _:=⟨ih_s_l10Left⟩;rw [Qi] at hM
   refine Yp Try.func24 Try.ntmps24 Try.results24 fun N w0 hbad F=> ?_
   refine S1 ?_;refine S1 ?_;refine mj (ι:=Int) [] [] [] (fun i=>[(1,oI i)]) hM ?_ ?_
   ·intro e1 hM K3 hK3;refine S1 ?_;refine Zh ?_;refine lp (ι:=Int×Int) [2] [2] [] (fun i=>[(1,oI i.1),(5,oI i.2)]) (fun n i=>YM (Qi k) a0 n i.1 i.2=some e1) k ((IntKind.i64.wrap (a1-1)),0) hM (by simp [YM]) ?_;intro KL4 nL4 ⟨x2,x3⟩ hL4 hM _;have hM:YM (Qi k) a0 (nL4+1) x2 x3=some e1:=hM;rw [YM] at hM;refine Zk fun K5 hK5=> ?_
    refine mj (ι:=Bool) [1,2,5] [2] [] (fun i=>[(16,oB i)]) hM ?_ ?_
    ·intro e6 hM K8 hK8;exact au
    ·intro x4 hM;(try dsimp only at hM);exact au
   ·intro x1 hM;(try dsimp only at hM);exact au
theorem V2 (k:Nat):∀(a0:Za) (a1:Int) (r:Int) (hM:Qi k a0 a1=some r),Ctr Try.prog 24 [.agg (Za.c a0),.one (.int .i64 a1)] true [.one (.int .i64 r)]:=(Zab k)
instance:HC 24 (Ty @V2):=⟨V2⟩
theorem JE (a0:Int) (a1:Int) (r:Int) (hM:JF a0 a1=some r):Ctr Try.prog 43 [.one (.int .i64 a0),.one (.int .i64 a1)] true [.one (.int .i64 r)]:=by
 unfold JF at hM
 refine Yp Try.func43 Try.ntmps43 Try.results43 fun N w0 hbad F=> ?_
 exact au
instance:HC 43 (Ty @JE):=⟨JE⟩
theorem JH:∀(k:Nat),(∀(a0:Za) (r:Int) (hM:Ys k a0=some r),Ctr Try.prog 25 [.agg (Za.c a0)] true [.one (.int .i64 r)]):=by
 intro k
 induction k with
 | zero=>intro a0 r hM;simp [Ys] at hM
 | succ k ih_s_NestingOf=>
  ·intro a0 r hM
   haveI:HC 25 _:=⟨ih_s_NestingOf⟩;rw [Ys] at hM
   refine Yp Try.func25 Try.ntmps25 Try.results25 fun N w0 hbad F=> ?_
   refine S1 ?_;refine S1 ?_;refine mj (ι:=Int) [] [] [] (fun i=>[(3,oI i)]) hM ?_ ?_
   ·intro e1 hM K3 hK3;refine S1 ?_;refine Zh ?_;refine lp (ι:=Int×Int) [1] [1] [] (fun i=>[(3,oI i.1),(4,oI i.2)]) (fun n i=>Yd (Ys k) a0 n i.1 i.2=some e1) k (0,0) hM (by simp [Yd]) ?_;intro KL4 nL4 ⟨x2,x3⟩ hL4 hM _;have hM:Yd (Ys k) a0 (nL4+1) x2 x3=some e1:=hM;rw [Yd] at hM;exact au
   ·intro x1 hM;(try dsimp only at hM);exact au
theorem W5 (k:Nat):∀(a0:Za) (r:Int) (hM:Ys k a0=some r),Ctr Try.prog 25 [.agg (Za.c a0)] true [.one (.int .i64 r)]:=(JH k)
instance:HC 25 (Ty @W5):=⟨W5⟩
theorem Ku (a0:Int) (a1:Int) (a2:Int) (r:Bool) (hM:Kv a0 a1 a2=some r):Ctr Try.prog 54 [.one (.int .i64 a0),.one (.int .i64 a1),.one (.int .i64 a2)] true [.one (.bool r)]:=by
 unfold Kv at hM
 refine Yp Try.func54 Try.ntmps54 Try.results54 fun N w0 hbad F=> ?_
 refine S1 ?_;refine mj (ι:=Bool) [] [] [] (fun i=>[(6,oB i)]) hM ?_ ?_
 ·intro e1 hM K3 hK3;exact au
 ·intro x1 hM;(try dsimp only at hM);exact au
instance:HC 54 (Ty @Ku):=⟨Ku⟩
theorem V1 (k:Nat) (a0:Za) (r:Bool) (hM:XG k a0=some r):Ctr Try.prog 44 [.agg (Za.c a0)] true [.one (.bool r)]:=by
 unfold XG at hM
 refine Yp Try.func44 Try.ntmps44 Try.results44 fun N w0 hbad F=> ?_
 refine S1 ?_;refine S1 ?_;refine Zk fun K1 hK1=> ?_;refine S1 ?_;refine Zh ?_;refine S1 ?_;refine Zs hM (fun h2 hM=> ?_) (fun h2 hM=> ?_)
 ·have F:=nf F h2;refine mj (ι:=Bool) [] [] [] (fun i=>[(2,oB i)]) hM ?_ ?_
  ·intro e3 hM K5 hK5;exact au
  ·intro x1 hM;(try dsimp only at hM);exact au
 ·have F:=nf F h2;refine S1 ?_;refine Zs hM (fun h9 hM=> ?_) (fun h9 hM=> ?_)
  ·have F:=nf F h9;refine mj (ι:=Bool) [] [] [] (fun i=>[(2,oB i)]) hM ?_ ?_
   ·intro e10 hM K12 hK12;exact au
   ·intro x3 hM;(try dsimp only at hM);exact au
  ·have F:=nf F h9;refine S1 ?_;refine Zs hM (fun h16 hM=> ?_) (fun h16 hM=> ?_)
   ·have F:=nf F h16;refine mj (ι:=Bool) [] [] [] (fun i=>[(2,oB i)]) hM ?_ ?_
    ·intro e17 hM K19 hK19;exact au
    ·intro x5 hM;(try dsimp only at hM);exact au
   ·have F:=nf F h16;refine S1 ?_;refine Zs hM (fun h23 hM=> ?_) (fun h23 hM=> ?_)
    ·have F:=nf F h23;refine mj (ι:=Bool) [] [] [] (fun i=>[(2,oB i)]) hM ?_ ?_
     ·intro e24 hM K26 hK26;exact au
     ·intro x7 hM;(try dsimp only at hM);exact au
    ·have F:=nf F h23;refine S1 ?_;refine Zs hM (fun h29 hM=> ?_) (fun h29 hM=> ?_)
     ·have F:=nf F h29;refine mj (ι:=Bool) [] [] [] (fun i=>[(2,oB i)]) hM ?_ ?_
      ·intro e30 hM K32 hK32;exact au
      ·intro x8 hM;(try dsimp only at hM);exact au
     ·have F:=nf F h29;refine S1 ?_;refine Zs hM (fun h35 hM=> ?_) (fun h35 hM=> ?_)
      ·have F:=nf F h35;refine mj (ι:=Bool) [] [] [] (fun i=>[(2,oB i)]) hM ?_ ?_
       ·intro e36 hM K38 hK38;exact au
       ·intro x10 hM;(try dsimp only at hM);exact au
      ·have F:=nf F h35;refine mj (ι:=Bool) [1,3,8] [1] [] (fun i=>[(91,oB i)]) hM ?_ ?_
       ·intro e42 hM K44 hK44;exact au
       ·intro x12 hM;(try dsimp only at hM);refine Zs hM (fun h46 hM=> ?_) (fun h46 hM=> ?_)
        ·have F:=nf F h46;refine mj (ι:=Bool) [] [] [] (fun i=>[(2,oB i)]) hM ?_ ?_
         ·intro e47 hM K49 hK49;exact au
         ·intro x13 hM;(try dsimp only at hM);exact au
        ·have F:=nf F h46;refine S1 ?_;refine Zs hM (fun h53 hM=> ?_) (fun h53 hM=> ?_)
         ·have F:=nf F h53;refine mj (ι:=Bool) [] [] [] (fun i=>[(2,oB i)]) hM ?_ ?_
          ·intro e54 hM K56 hK56;exact au
          ·intro x15 hM;(try dsimp only at hM);exact au
         ·have F:=nf F h53;exact au
instance:HC 44 (Ty @V1):=⟨V1⟩
theorem ZaR:∀(k:Nat),(∀(a0:Za) (r:Bool) (hM:Y7 k a0=some r),Ctr Try.prog 26 [.agg (Za.c a0)] true [.one (.bool r)]):=by
 intro k
 induction k with
 | zero=>intro a0 r hM;simp [Y7] at hM
 | succ k ih_s_l10All=>
  ·intro a0 r hM
   haveI:HC 26 _:=⟨ih_s_l10All⟩;rw [Y7] at hM
   refine Yp Try.func26 Try.ntmps26 Try.results26 fun N w0 hbad F=> ?_
   refine S1 ?_;refine mjE (ι:=Unit) [1] [1] [] (fun i=>[]) hM ?_ ?_
   ·intro e1 hM hR1 K3 hK3;refine S1 ?_;refine Zh ?_;refine lp (ι:=Int) [1] [1] [] (fun i=>[(3,oI i)]) (fun n i=>Qk (Y7 k) a0 n i=some e1) k 0 hM (by simp [Qk]) ?_;intro KL4 nL4 x1 hL4 hM _;have hM:Qk (Y7 k) a0 (nL4+1) x1=some e1:=hM;rw [Qk] at hM;exact au
   ·intro _ hM;dsimp only at hM;exact au
theorem UZ (k:Nat):∀(a0:Za) (r:Bool) (hM:Y7 k a0=some r),Ctr Try.prog 26 [.agg (Za.c a0)] true [.one (.bool r)]:=(ZaR k)
instance:HC 26 (Ty @UZ):=⟨UZ⟩
end Go.Proofs.Ytneeinggggadpaa
