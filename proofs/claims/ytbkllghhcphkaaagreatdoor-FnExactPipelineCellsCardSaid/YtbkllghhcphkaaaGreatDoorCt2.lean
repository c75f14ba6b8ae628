import Derived.Test.YtbkllghhcphkaaaGreatDoorJ11
set_option linter.unusedSimpArgs false
set_option linter.unusedVariables false
namespace Go.Proofs.YtbkllghhcphkaaaGreatDoor
open Go.RowKit Am
set_option maxHeartbeats 4000000
set_option maxRecDepth 100000
theorem Vy (a0:Int) (a1:Za) (a2:Za) (r:Za) (hM:Ke a0 a1 a2=some r):TC Tryz.prog 258 12 [.one (.int .i64 a0),.agg (Za.c a1),.agg (Za.c a2)] [.agg (Za.c r)]:=by
 unfold Ke at hM;refine Zq6 Tryz.func258 Tryz.ntmps258 Tryz.results258 fun N w0 hbad F=> ?_;refine S1 ?_;refine S1 ?_;obtain rfl:=si hM;refine rr [] [(640,30000)] [6] [6] [640] ?_;exact au
instance:HC 258 (Ty @Vy):=⟨Vy⟩
theorem ZfY:∀(k:Nat),(∀(a0:Zd) (a1:ByteArray) (r:(List Za)×Zd) (hM:WL k a0 a1=some r),Zbj Tryz.prog 328 [] (Zd.c a0) [.one (.str a1)] false [.one (.sl (r.1.map Za.c))] (Zd.c r.2))/\
  (∀(a0:Zd) (r:Za×Zd) (hM:Z6 k a0=some r),Zbj Tryz.prog 309 [] (Zd.c a0) [] false [.agg (Za.c r.1)] (Zd.c r.2))/\
  (∀(a0:Zd) (r:Za×Zd) (hM:ZE k a0=some r),Zbj Tryz.prog 284 [] (Zd.c a0) [] false [.agg (Za.c r.1)] (Zd.c r.2))/\
  (∀(a0:Zd) (r:Za×Zd) (hM:XK k a0=some r),Zbj Tryz.prog 257 [] (Zd.c a0) [] false [.agg (Za.c r.1)] (Zd.c r.2))/\
  (∀(a0:Zd) (r:Za×Zd) (hM:QZ k a0=some r),Zbj Tryz.prog 209 [] (Zd.c a0) [] false [.agg (Za.c r.1)] (Zd.c r.2))/\
  (∀(a0:Zd) (r:Za×Zd) (hM:Zu k a0=some r),Zbj Tryz.prog 167 [] (Zd.c a0) [] false [.agg (Za.c r.1)] (Zd.c r.2)):=by
 intro k
 induction k with
 | zero=>exact ⟨by intro a0 a1 r hM;simp [WL] at hM,by intro a0 r hM;simp [Z6] at hM,by intro a0 r hM;simp [ZE] at hM,by intro a0 r hM;simp [XK] at hM,by intro a0 r hM;simp [QZ] at hM,by intro a0 r hM;simp [Zu] at hM⟩
 | succ k ih=>
  obtain ⟨ih_s_l11Args,ih_s_l11Atom,ih_s_l11Product,ih_s_l11Sum,ih_s_l11Compare,ih_s_l11Expr⟩:=ih;refine ⟨?_, ?_, ?_, ?_, ?_, ?_⟩
  ·intro a0 a1 r hM;haveI:HC 328 _:=⟨ih_s_l11Args⟩;haveI:HC 309 _:=⟨ih_s_l11Atom⟩;haveI:HC 284 _:=⟨ih_s_l11Product⟩;haveI:HC 257 _:=⟨ih_s_l11Sum⟩;haveI:HC 209 _:=⟨ih_s_l11Compare⟩;haveI:HC 167 _:=⟨ih_s_l11Expr⟩;rw [WL] at hM;refine Jz Tryz.func328 Tryz.ntmps328 Tryz.results328 fun N w0 hbad F=> ?_;refine S1 ?_;refine S1 ?_;refine Zg fun K1 hK1=> ?_;obtain ⟨x1,e2,hM⟩:=bind_some hM;refine Zs fun K h=> ?_;simp [go_sem,F];refine ZA 0 (Qu a0 a1 x1 e2) ?_;simp [go_sem,F];refine h _ ?_;refine Zn hM (fun h3 hM=> ?_) (fun h3 hM=> ?_)
   ·have F:=nf F h3;refine S1 ?_;refine S1 ?_;obtain rfl:=si hM;refine le1 [] [44] [] ?_ (ch:=[(4,oL Za.c ([]:List Za))]);exact au
   ·have F:=nf F h3;refine Zi ?_;refine hK1 _ ?_;refine mj (ι:=(List Zh)×Int×Int×Int×(List Za)) [0,1] [] [] (fun i=>[(5,oO 384 i.2.2.2.2.length)]) hM ?_ ?_ (cb:=fun i=>[(44,[cL Zh.c i.1,cI i.2.1,cI i.2.2.1,cI i.2.2.2.1])]) (ca:=fun i=>[(384,aF Za.c i.2.2.2.2)])
    ·intro e4 hM K6 hK6;refine Zc ?_;refine Zom [384] (σ':=⟨44,[(0,.one (.box 44 0)),(1,.one (.l (.str a1))),(5,.one (.own 384 (([]:List Za).length)))],[(44,[.l (.sl (x1.2.toks.map Zh.c)),.l (.int .i64 x1.2.i),.l (.int .i64 x1.2.end_),.l (.int .i64 x1.2.bad)])],[(384,some ⟨false,([]:List Za).map Za.c⟩)]⟩) ?_;refine lp (ι:=(List Zh)×Int×Int×Int×(List Za)) [0,1] [] [] (fun i=>[(5,oO 384 i.2.2.2.2.length)]) (fun n i=>Q1 (Zu k) n i.1 i.2.1 i.2.2.1 i.2.2.2.1 i.2.2.2.2=some e4) k (x1.2.toks,x1.2.i,x1.2.end_,x1.2.bad,([]:List Za)) hM (by simp [Q1]) ?_ (cb:=fun i=>[(44,[cL Zh.c i.1,cI i.2.1,cI i.2.2.1,cI i.2.2.2.1])]) (ca:=fun i=>[(384,aF Za.c i.2.2.2.2)]);intro KL7 nL7 ⟨x7,x8,x9,x10,x11⟩ hL7 hM _;have hM:Q1 (Zu k) (nL7+1) x7 x8 x9 x10 x11=some e4:=hM;rw [Q1] at hM;exact au
    ·rintro ⟨x2,x3,x4,x5,x6⟩ hM;dsimp only at hM;obtain ⟨x15,e18,hM⟩:=bind_some hM;refine Zs fun K h=> ?_;simp [go_sem,F];refine ZA 0 (Y5 (Zd.mk x2 x3 x4 x5) a1 x15 e18) ?_;simp [go_sem,F];refine h _ ?_;refine S1 ?_;obtain rfl:=si hM;refine le1 [] [44] [] ?_ (ch:=[(4,oL Za.c x6)]);exact au
  ·intro a0 r hM;haveI:HC 328 _:=⟨ih_s_l11Args⟩;haveI:HC 309 _:=⟨ih_s_l11Atom⟩;haveI:HC 284 _:=⟨ih_s_l11Product⟩;haveI:HC 257 _:=⟨ih_s_l11Sum⟩;haveI:HC 209 _:=⟨ih_s_l11Compare⟩;haveI:HC 167 _:=⟨ih_s_l11Expr⟩;rw [Z6] at hM;refine Jz Tryz.func309 Tryz.ntmps309 Tryz.results309 fun N w0 hbad F=> ?_;refine S1 ?_;refine Zg fun K1 hK1=> ?_;refine mj (ι:=Bool) [0,2] [2,141] [] (fun i=>[(21,oB i)]) hM ?_ ?_
   ·intro e2 hM K4 hK4;rcases ifM hM with ⟨h5,hM⟩| ⟨h5,hM⟩
    ·have F:=Zwg (nf F h5) (eT h5);refine ZB 15 mixed (by kernel_rfl) (by kernel_rfl) ?_;simp [go_sem,F];exact au
    ·have F:=Zwg (nf F h5) (eF h5);refine ZB 15 mixed (by kernel_rfl) (by kernel_rfl) ?_;simp [go_sem,F];exact au
   ·intro x1 hM;(try dsimp only at hM);refine Zn hM (fun h6 hM=> ?_) (fun h6 hM=> ?_)
    ·have F:=nf F h6;obtain ⟨x2,e7,hM⟩:=bind_some hM;refine Zs fun K h=> ?_;simp [go_sem,F];refine ZA 0 (Um a0 x2 e7) ?_;simp [go_sem,F];refine h _ ?_;obtain rfl:=si hM;refine le1 [2] [141] [] ?_ (cb:=[(2,bT (Za.c x2.1))]);exact au
    ·have F:=nf F h6;refine Zi ?_;refine hK1 _ ?_;refine Zg fun K8 hK8=> ?_;refine le1 [0,2] [2,141] [] ?_;obtain ⟨x3,e9,hM⟩:=bind_some hM;have F:=Zwg F (WZ e9);refine ZJ [[],[0],[0,1],[0,1,2],[],[4],[4,5],[4,5,6],[0,1,2,3,4,5,6,7],[0,1,2,3,4,5,6,7,8],[],[0,1,2,3,4,5,6,7,8,9,10]] mixed (by kernel_rfl) ?_;simp [go_sem,F];refine ⟨Zq (by kernel_rfl), ?_⟩;refine hK8 _ ?_;refine Zg fun K10 hK10=> ?_;refine Zc ?_;refine S1 ?_;refine Zn hM (fun h11 hM=> ?_) (fun h11 hM=> ?_)
     ·have F:=nf F h11;refine S1 ?_;obtain ⟨x4,e12,hM⟩:=bind_some hM;refine Zs fun K h=> ?_;simp [go_sem,F];refine Qt false (Zaf x3.n x4 e12) ?_;simp [go_sem,F];refine h _ ?_;obtain rfl:=si hM;refine le1 [2] [141] [] ?_ (cb:=[(2,bT (Za.c x4))]);exact au
     ·have F:=nf F h11;refine S1 ?_;refine Zn hM (fun h13 hM=> ?_) (fun h13 hM=> ?_)
      ·have F:=nf F h13;exact au
      ·have F:=nf F h13;refine mj (ι:=Bool) [0,2,3] [2,3,141] [] (fun i=>[(64,oB i)]) hM ?_ ?_
       ·intro e14 hM K16 hK16;exact au
       ·intro x5 hM;(try dsimp only at hM);refine Zn hM (fun h19 hM=> ?_) (fun h19 hM=> ?_)
        ·have F:=nf F h19;refine S1 ?_;obtain ⟨x7,e20,hM⟩:=bind_some hM;refine Zs fun K h=> ?_;simp [go_sem,F];refine Qt false (Kf x3.text x7 e20) ?_;simp [go_sem,F];refine h _ ?_;obtain rfl:=si hM;refine le1 [2] [141] [] ?_ (cb:=[(2,bT (Za.c x7))]);exact au
        ·have F:=nf F h19;refine mj (ι:=Bool) [0,2,3] [2,3,141] [] (fun i=>[(84,oB i)]) hM ?_ ?_
         ·intro e21 hM K23 hK23;exact au
         ·intro x8 hM;(try dsimp only at hM);refine Zn hM (fun h26 hM=> ?_) (fun h26 hM=> ?_)
          ·have F:=nf F h26;refine S1 ?_;obtain ⟨x10,e27,hM⟩:=bind_some hM;refine Zs fun K h=> ?_;simp [go_sem,F];refine ZA 0 (Y5 (Zd.mk a0.toks (IntKind.i64.wrap (a0.i+1)) a0.end_ a0.bad) (⟨#[40]⟩:ByteArray) x10 e27) ?_;simp [go_sem,F];refine h _ ?_;refine Zg fun K28 hK28=> ?_;refine le1 [0,2,3] [2,3,141] [] ?_;obtain ⟨x11,e29,hM⟩:=bind_some hM;refine ZJ [[1000141],[0,1000141],[],[2],[0,1,2,3],[0,1,2,3,4]] mixed (by kernel_rfl) ?_;simp [go_sem,F];refine ZA 0 (ih_s_l11Args x10 (⟨#[41]⟩:ByteArray) x11 e29) ?_;simp [go_sem,F];refine ⟨Zq (by kernel_rfl), ?_⟩;exact au
          ·have F:=nf F h26;obtain ⟨x12,e30,hM⟩:=bind_some hM;refine Zs fun K h=> ?_;simp [go_sem,F];refine Qt false (XW x3 (⟨#[91]⟩:ByteArray) x12 e30) ?_;simp [go_sem,F];refine h _ ?_;refine Zn hM (fun h31 hM=> ?_) (fun h31 hM=> ?_)
           ·have F:=nf F h31;exact au
           ·have F:=nf F h31;obtain ⟨x14,e33,hM⟩:=bind_some hM;refine Zs fun K h=> ?_;simp [go_sem,F];refine Qt false (XW x3 (⟨#[40]⟩:ByteArray) x14 e33) ?_;simp [go_sem,F];refine h _ ?_;refine Zn hM (fun h34 hM=> ?_) (fun h34 hM=> ?_)
            ·have F:=nf F h34;exact au
            ·have F:=nf F h34;refine Zi ?_;refine hK10 _ ?_;obtain ⟨x17,e37,hM⟩:=bind_some hM;refine Zs fun K h=> ?_;simp [go_sem,F];refine ZA 0 (Um a0 x17 e37) ?_;simp [go_sem,F];refine h _ ?_;obtain rfl:=si hM;refine le1 [2] [141] [] ?_ (cb:=[(2,bT (Za.c x17.1))]);exact au
  ·intro a0 r hM;haveI:HC 328 _:=⟨ih_s_l11Args⟩;haveI:HC 309 _:=⟨ih_s_l11Atom⟩;haveI:HC 284 _:=⟨ih_s_l11Product⟩;haveI:HC 257 _:=⟨ih_s_l11Sum⟩;haveI:HC 209 _:=⟨ih_s_l11Compare⟩;haveI:HC 167 _:=⟨ih_s_l11Expr⟩;rw [ZE] at hM;refine Jz Tryz.func284 Tryz.ntmps284 Tryz.results284 fun N w0 hbad F=> ?_;refine S1 ?_;obtain ⟨x1,e1,hM⟩:=bind_some hM;refine Zs fun K h=> ?_;simp [go_sem,F];refine ZA 0 (ih_s_l11Atom a0 x1 e1) ?_;simp [go_sem,F];refine h _ ?_;refine mj (ι:=Int×Int×ByteArray×(List Za)×(List Zh)×Int×Int×Int) [2,3] [2] [] (fun i=>[]) hM ?_ ?_ (cb:=fun i=>[(3,[cI i.1,cI i.2.1,cS i.2.2.1,cL Za.c i.2.2.2.1]),(21,[cL Zh.c i.2.2.2.2.1,cI i.2.2.2.2.2.1,cI i.2.2.2.2.2.2.1,cI i.2.2.2.2.2.2.2])])
   ·intro e2 hM K4 hK4;refine Zc ?_;refine lp (ι:=(List Zh)×Int×Int×Int×Int×Int×ByteArray×(List Za)) [0,2,3] [2] [] (fun i=>[]) (fun n i=>YQ (Z6 k) n i.1 i.2.1 i.2.2.1 i.2.2.2.1 i.2.2.2.2.1 i.2.2.2.2.2.1 i.2.2.2.2.2.2.1 i.2.2.2.2.2.2.2=some e2) k (x1.2.toks,x1.2.i,x1.2.end_,x1.2.bad,x1.1.kind,x1.1.n,x1.1.text,x1.1.args) hM (by simp [YQ]) ?_ (cb:=fun i=>[(3,[cI i.2.2.2.2.1,cI i.2.2.2.2.2.1,cS i.2.2.2.2.2.2.1,cL Za.c i.2.2.2.2.2.2.2]),(21,[cL Zh.c i.1,cI i.2.1,cI i.2.2.1,cI i.2.2.2.1])]);intro KL5 nL5 ⟨x10,x11,x12,x13,x14,x15,x16,x17⟩ hL5 hM _;have hM:YQ (Z6 k) (nL5+1) x10 x11 x12 x13 x14 x15 x16 x17=some e2:=hM;rw [YQ] at hM;refine Zg fun K6 hK6=> ?_;obtain ⟨x18,e7,hM⟩:=bind_some hM;refine Zs fun K h=> ?_;simp [go_sem,F];refine ZA 0 (Qu (Zd.mk x10 x11 x12 x13) (⟨#[42]⟩:ByteArray) x18 e7) ?_;simp [go_sem,F];refine h _ ?_;refine Zn hM (fun h8 hM=> ?_) (fun h8 hM=> ?_)
    ·have F:=nf F h8;refine Zi ?_;refine hK6 _ ?_;refine Zc ?_;refine S1 ?_;refine le1 [0,2,3] [2,3,21] [] ?_;obtain ⟨x19,e9,hM⟩:=bind_some hM;obtain ⟨x20,e10,hM⟩:=bind_some hM;refine ZJ [[1000021],[],[1],[0,1,2],[0,1,2,3]] mixed (by kernel_rfl) ?_;simp [go_sem,F];refine ZA 0 (ih_s_l11Atom (Zd.mk x18.2.toks (IntKind.i64.wrap (x18.2.i+1)) x18.2.end_ x18.2.bad) x19 e9) ?_;simp [go_sem,F];refine Zj2 (Vy 3 (Za.mk x14 x15 x16 x17) x19.1 x20 e10) ?_;simp [go_sem,F];refine ⟨Zq (by kernel_rfl), ?_⟩;exact au
    ·have F:=nf F h8;exact au
   ·rintro ⟨x2,x3,x4,x5,x6,x7,x8,x9⟩ hM;dsimp only at hM;exact au
  ·intro a0 r hM;haveI:HC 328 _:=⟨ih_s_l11Args⟩;haveI:HC 309 _:=⟨ih_s_l11Atom⟩;haveI:HC 284 _:=⟨ih_s_l11Product⟩;haveI:HC 257 _:=⟨ih_s_l11Sum⟩;haveI:HC 209 _:=⟨ih_s_l11Compare⟩;haveI:HC 167 _:=⟨ih_s_l11Expr⟩;rw [XK] at hM;refine Jz Tryz.func257 Tryz.ntmps257 Tryz.results257 fun N w0 hbad F=> ?_;refine S1 ?_;obtain ⟨x1,e1,hM⟩:=bind_some hM;refine Zs fun K h=> ?_;simp [go_sem,F];refine ZA 0 (ih_s_l11Product a0 x1 e1) ?_;simp [go_sem,F];refine h _ ?_;refine mj (ι:=Int×Int×ByteArray×(List Za)×(List Zh)×Int×Int×Int) [2,3] [2] [] (fun i=>[]) hM ?_ ?_ (cb:=fun i=>[(3,[cI i.1,cI i.2.1,cS i.2.2.1,cL Za.c i.2.2.2.1]),(29,[cL Zh.c i.2.2.2.2.1,cI i.2.2.2.2.2.1,cI i.2.2.2.2.2.2.1,cI i.2.2.2.2.2.2.2])])
   ·intro e2 hM K4 hK4;refine Zc ?_;refine lp (ι:=(List Zh)×Int×Int×Int×Int×Int×ByteArray×(List Za)) [0,2,3] [2] [] (fun i=>[]) (fun n i=>XJ (ZE k) n i.1 i.2.1 i.2.2.1 i.2.2.2.1 i.2.2.2.2.1 i.2.2.2.2.2.1 i.2.2.2.2.2.2.1 i.2.2.2.2.2.2.2=some e2) k (x1.2.toks,x1.2.i,x1.2.end_,x1.2.bad,x1.1.kind,x1.1.n,x1.1.text,x1.1.args) hM (by simp [XJ]) ?_ (cb:=fun i=>[(3,[cI i.2.2.2.2.1,cI i.2.2.2.2.2.1,cS i.2.2.2.2.2.2.1,cL Za.c i.2.2.2.2.2.2.2]),(29,[cL Zh.c i.1,cI i.2.1,cI i.2.2.1,cI i.2.2.2.1])]);intro KL5 nL5 ⟨x10,x11,x12,x13,x14,x15,x16,x17⟩ hL5 hM _;have hM:XJ (ZE k) (nL5+1) x10 x11 x12 x13 x14 x15 x16 x17=some e2:=hM;rw [XJ] at hM;refine Zg fun K6 hK6=> ?_;refine mj (ι:=(List Zh)×Int×Int×Int×Bool) [0,2,3] [2,3] [] (fun i=>[(12,oB i.2.2.2.2)]) hM ?_ ?_ (cb:=fun i=>[(29,[cL Zh.c i.1,cI i.2.1,cI i.2.2.1,cI i.2.2.2.1])])
    ·intro e7 hM K9 hK9;exact au
    ·rintro ⟨x18,x19,x20,x21,x22⟩ hM;dsimp only at hM;refine Zn hM (fun h13 hM=> ?_) (fun h13 hM=> ?_)
     ·have F:=nf F h13;refine Zi ?_;refine hK6 _ ?_;refine Zc ?_;refine S1 ?_;refine mj (ι:=(List Zh)×Int×Int×Int×Int) [0,2,3] [2,3] [] (fun i=>[(4,oI i.2.2.2.2)]) hM ?_ ?_ (cb:=fun i=>[(29,[cL Zh.c i.1,cI i.2.1,cI i.2.2.1,cI i.2.2.2.1])])
      ·intro e14 hM K16 hK16;exact au
      ·rintro ⟨x25,x26,x27,x28,x29⟩ hM;dsimp only at hM;refine S1 ?_;refine le1 [0,2,3,4] [2,3,29] [] ?_;obtain ⟨x31,e19,hM⟩:=bind_some hM;obtain ⟨x32,e20,hM⟩:=bind_some hM;refine ZJ [[1000029],[1000029],[],[2],[0,1,2,3],[0,1,2,3,4]] mixed (by kernel_rfl) ?_;simp [go_sem,F];refine ZA 0 (ih_s_l11Product (Zd.mk x25 (IntKind.i64.wrap (x26+1)) x27 x28) x31 e19) ?_;simp [go_sem,F];refine Zj2 (Vy x29 (Za.mk x14 x15 x16 x17) x31.1 x32 e20) ?_;simp [go_sem,F];refine ⟨Zq (by kernel_rfl), ?_⟩;exact au
     ·have F:=nf F h13;exact au
   ·rintro ⟨x2,x3,x4,x5,x6,x7,x8,x9⟩ hM;dsimp only at hM;exact au
  ·intro a0 r hM;haveI:HC 328 _:=⟨ih_s_l11Args⟩;haveI:HC 309 _:=⟨ih_s_l11Atom⟩;haveI:HC 284 _:=⟨ih_s_l11Product⟩;haveI:HC 257 _:=⟨ih_s_l11Sum⟩;haveI:HC 209 _:=⟨ih_s_l11Compare⟩;haveI:HC 167 _:=⟨ih_s_l11Expr⟩;rw [QZ] at hM;refine Jz Tryz.func209 Tryz.ntmps209 Tryz.results209 fun N w0 hbad F=> ?_;refine S1 ?_;obtain ⟨x1,e1,hM⟩:=bind_some hM;refine Zs fun K h=> ?_;simp [go_sem,F];refine ZA 0 (ih_s_l11Sum a0 x1 e1) ?_;simp [go_sem,F];refine h _ ?_;refine Zg fun K2 hK2=> ?_;refine Zc ?_;obtain ⟨x2,e3,hM⟩:=bind_some hM;refine Zs fun K h=> ?_;simp [go_sem,F];refine ZA 0 (Qu x1.2 (⟨#[60]⟩:ByteArray) x2 e3) ?_;simp [go_sem,F];refine h _ ?_;refine Zn hM (fun h4 hM=> ?_) (fun h4 hM=> ?_)
   ·have F:=nf F h4;refine S1 ?_;refine Zg fun K5 hK5=> ?_;refine le1 [0,2,3] [2,3,37] [] ?_;obtain ⟨x3,e6,hM⟩:=bind_some hM;obtain ⟨x4,e7,hM⟩:=bind_some hM;refine ZJ [[1000037],[],[1],[0,1,2],[0,1,2,3]] mixed (by kernel_rfl) ?_;simp [go_sem,F];refine ZA 0 (ih_s_l11Sum (Zd.mk x2.2.toks (IntKind.i64.wrap (x2.2.i+1)) x2.2.end_ x2.2.bad) x3 e6) ?_;simp [go_sem,F];refine Zj2 (Vy 4 x1.1 x3.1 x4 e7) ?_;simp [go_sem,F];refine ⟨Zq (by kernel_rfl), ?_⟩;refine hK5 _ ?_;obtain rfl:=si hM;refine le1 [2] [37] [] ?_ (cb:=[(2,bT (Za.c x4))]);exact au
   ·have F:=nf F h4;obtain ⟨x5,e8,hM⟩:=bind_some hM;refine Zs fun K h=> ?_;simp [go_sem,F];refine ZA 0 (Qu x2.2 (⟨#[61,61]⟩:ByteArray) x5 e8) ?_;simp [go_sem,F];refine h _ ?_;refine Zn hM (fun h9 hM=> ?_) (fun h9 hM=> ?_)
    ·have F:=nf F h9;refine S1 ?_;refine Zg fun K10 hK10=> ?_;refine le1 [0,2,3] [2,3,37] [] ?_;obtain ⟨x6,e11,hM⟩:=bind_some hM;obtain ⟨x7,e12,hM⟩:=bind_some hM;refine ZJ [[1000037],[],[1],[0,1,2],[0,1,2,3]] mixed (by kernel_rfl) ?_;simp [go_sem,F];refine ZA 0 (ih_s_l11Sum (Zd.mk x5.2.toks (IntKind.i64.wrap (x5.2.i+1)) x5.2.end_ x5.2.bad) x6 e11) ?_;simp [go_sem,F];refine Zj2 (Vy 5 x1.1 x6.1 x7 e12) ?_;simp [go_sem,F];refine ⟨Zq (by kernel_rfl), ?_⟩;refine hK10 _ ?_;obtain rfl:=si hM;refine le1 [2] [37] [] ?_ (cb:=[(2,bT (Za.c x7))]);exact au
    ·have F:=nf F h9;exact au
  ·intro a0 r hM;haveI:HC 328 _:=⟨ih_s_l11Args⟩;haveI:HC 309 _:=⟨ih_s_l11Atom⟩;haveI:HC 284 _:=⟨ih_s_l11Product⟩;haveI:HC 257 _:=⟨ih_s_l11Sum⟩;haveI:HC 209 _:=⟨ih_s_l11Compare⟩;haveI:HC 167 _:=⟨ih_s_l11Expr⟩;rw [Zu] at hM;refine Jz Tryz.func167 Tryz.ntmps167 Tryz.results167 fun N w0 hbad F=> ?_;refine S1 ?_;refine Zg fun K1 hK1=> ?_;refine Zc ?_;obtain ⟨x1,e2,hM⟩:=bind_some hM;refine Zs fun K h=> ?_;simp [go_sem,F];refine ZA 0 (Qu a0 (⟨#[108,101,116]⟩:ByteArray) x1 e2) ?_;simp [go_sem,F];refine h _ ?_;refine Zn hM (fun h3 hM=> ?_) (fun h3 hM=> ?_)
   ·have F:=nf F h3;refine S1 ?_;obtain ⟨x2,e4,hM⟩:=bind_some hM;refine Zs fun K h=> ?_;simp [go_sem,F];refine ZA 0 (Ul k (Zd.mk x1.2.toks (IntKind.i64.wrap (x1.2.i+1)) x1.2.end_ x1.2.bad) x2 e4) ?_;simp [go_sem,F];refine h _ ?_;obtain ⟨x3,e5,hM⟩:=bind_some hM;refine Zs fun K h=> ?_;simp [go_sem,F];refine ZA 0 (Y5 x2.2 (⟨#[61]⟩:ByteArray) x3 e5) ?_;simp [go_sem,F];refine h _ ?_;obtain ⟨x4,e6,hM⟩:=bind_some hM;refine Zs fun K h=> ?_;simp [go_sem,F];refine ZA 0 (ih_s_l11Expr x3 x4 e6) ?_;simp [go_sem,F];refine h _ ?_;obtain ⟨x5,e7,hM⟩:=bind_some hM;refine Zs fun K h=> ?_;simp [go_sem,F];refine ZA 0 (Y5 x4.2 (⟨#[105,110]⟩:ByteArray) x5 e7) ?_;simp [go_sem,F];refine h _ ?_;refine Zg fun K8 hK8=> ?_;refine le1 [0,2,3,4] [2,4,86] [] ?_;obtain ⟨x6,e9,hM⟩:=bind_some hM;refine ZJ [[1000086],[1000086],[],[2],[1,2,3],[0,1,2,3,4],[0,1,2,3,4,5]] mixed (by kernel_rfl) ?_;simp [go_sem,F];refine ZA 0 (ih_s_l11Expr x5 x6 e9) ?_;simp [go_sem,F];refine ⟨Zq (by kernel_rfl), ?_⟩;refine hK8 _ ?_;obtain rfl:=si hM;refine le1 [2] [86] [] ?_ (cb:=[(2,[cI 7,cI 0,cS x2.1,cL Za.c [x4.1,x6.1]])]);exact au
   ·have F:=nf F h3;obtain ⟨x7,e10,hM⟩:=bind_some hM;refine Zs fun K h=> ?_;simp [go_sem,F];refine ZA 0 (Qu x1.2 (⟨#[105,102]⟩:ByteArray) x7 e10) ?_;simp [go_sem,F];refine h _ ?_;refine Zn hM (fun h11 hM=> ?_) (fun h11 hM=> ?_)
    ·have F:=nf F h11;refine S1 ?_;obtain ⟨x8,e12,hM⟩:=bind_some hM;refine Zs fun K h=> ?_;simp [go_sem,F];refine ZA 0 (ih_s_l11Expr (Zd.mk x7.2.toks (IntKind.i64.wrap (x7.2.i+1)) x7.2.end_ x7.2.bad) x8 e12) ?_;simp [go_sem,F];refine h _ ?_;obtain ⟨x9,e13,hM⟩:=bind_some hM;refine Zs fun K h=> ?_;simp [go_sem,F];refine ZA 0 (Y5 x8.2 (⟨#[116,104,101,110]⟩:ByteArray) x9 e13) ?_;simp [go_sem,F];refine h _ ?_;obtain ⟨x10,e14,hM⟩:=bind_some hM;refine Zs fun K h=> ?_;simp [go_sem,F];refine ZA 0 (ih_s_l11Expr x9 x10 e14) ?_;simp [go_sem,F];refine h _ ?_;obtain ⟨x11,e15,hM⟩:=bind_some hM;refine Zs fun K h=> ?_;simp [go_sem,F];refine ZA 0 (Y5 x10.2 (⟨#[101,108,115,101]⟩:ByteArray) x11 e15) ?_;simp [go_sem,F];refine h _ ?_;refine Zg fun K16 hK16=> ?_;refine le1 [0,2,5,6] [2,5,6,86] [] ?_;obtain ⟨x12,e17,hM⟩:=bind_some hM;refine ZJ [[1000086],[1000086],[],[2],[0,1,2,3],[0,1,2,3,4],[0,1,2,3,4,5]] mixed (by kernel_rfl) ?_;simp [go_sem,F];refine ZA 0 (ih_s_l11Expr x11 x12 e17) ?_;simp [go_sem,F];refine ⟨Zq (by kernel_rfl), ?_⟩;refine hK16 _ ?_;obtain rfl:=si hM;refine le1 [2] [86] [] ?_ (cb:=[(2,[cI 8,cI 0,cS (⟨#[]⟩:ByteArray),cL Za.c [x8.1,x10.1,x12.1]])]);exact au
    ·have F:=nf F h11;obtain ⟨x13,e18,hM⟩:=bind_some hM;refine Zs fun K h=> ?_;simp [go_sem,F];refine ZA 0 (Qu x7.2 (⟨#[102,111,114]⟩:ByteArray) x13 e18) ?_;simp [go_sem,F];refine h _ ?_;refine Zn hM (fun h19 hM=> ?_) (fun h19 hM=> ?_)
     ·have F:=nf F h19;refine S1 ?_;obtain ⟨x14,e20,hM⟩:=bind_some hM;refine Zs fun K h=> ?_;simp [go_sem,F];refine ZA 0 (Ul k (Zd.mk x13.2.toks (IntKind.i64.wrap (x13.2.i+1)) x13.2.end_ x13.2.bad) x14 e20) ?_;simp [go_sem,F];refine h _ ?_;obtain ⟨x15,e21,hM⟩:=bind_some hM;refine Zs fun K h=> ?_;simp [go_sem,F];refine ZA 0 (Y5 x14.2 (⟨#[105,110]⟩:ByteArray) x15 e21) ?_;simp [go_sem,F];refine h _ ?_;obtain ⟨x16,e22,hM⟩:=bind_some hM;refine Zs fun K h=> ?_;simp [go_sem,F];refine ZA 0 (ih_s_l11Expr x15 x16 e22) ?_;simp [go_sem,F];refine h _ ?_;obtain ⟨x17,e23,hM⟩:=bind_some hM;refine Zs fun K h=> ?_;simp [go_sem,F];refine ZA 0 (Y5 x16.2 (⟨#[100,111]⟩:ByteArray) x17 e23) ?_;simp [go_sem,F];refine h _ ?_;refine Zg fun K24 hK24=> ?_;refine le1 [0,2,7,8] [2,8,86] [] ?_;obtain ⟨x18,e25,hM⟩:=bind_some hM;refine ZJ [[1000086],[1000086],[],[2],[1,2,3],[0,1,2,3,4],[0,1,2,3,4,5]] mixed (by kernel_rfl) ?_;simp [go_sem,F];refine ZA 0 (ih_s_l11Expr x17 x18 e25) ?_;simp [go_sem,F];refine ⟨Zq (by kernel_rfl), ?_⟩;refine hK24 _ ?_;obtain rfl:=si hM;refine le1 [2] [86] [] ?_ (cb:=[(2,[cI 9,cI 0,cS x14.1,cL Za.c [x16.1,x18.1]])]);exact au
     ·have F:=nf F h19;exact au
theorem Kd (k:Nat):∀(a0:Zd) (r:Za×Zd) (hM:Zu k a0=some r),Zbj Tryz.prog 167 [] (Zd.c a0) [] false [.agg (Za.c r.1)] (Zd.c r.2):=(ZfY k).2.2.2.2.2
instance:HC 167 (Ty @Kd):=⟨Kd⟩
theorem ZfZ:∀(k:Nat),(∀(a0:Za) (a1:Int) (r:Int) (hM:We k a0 a1=some r),Ctr Tryz.prog 121 [.agg (Za.c a0),.one (.int .i64 a1)] true [.one (.int .i64 r)]):=by
 intro k
 induction k with
 | zero=>intro a0 a1 r hM;simp [We] at hM
 | succ k ih_s_l10Left=>
  ·intro a0 a1 r hM;haveI:HC 121 _:=⟨ih_s_l10Left⟩;rw [We] at hM;refine Zr Tryz.func121 Tryz.ntmps121 Tryz.results121 fun N w0 hbad F=> ?_;refine S1 ?_;refine S1 ?_;refine mj (ι:=Int) [] [] [] (fun i=>[(1,oI i)]) hM ?_ ?_
   ·intro e1 hM K3 hK3;refine S1 ?_;refine Zc ?_;refine lp (ι:=Int×Int) [2] [2] [] (fun i=>[(1,oI i.1),(5,oI i.2)]) (fun n i=>Q2 (We k) a0 n i.1 i.2=some e1) k ((IntKind.i64.wrap (a1-1)),0) hM (by simp [Q2]) ?_;intro KL4 nL4 ⟨x2,x3⟩ hL4 hM _;have hM:Q2 (We k) a0 (nL4+1) x2 x3=some e1:=hM;rw [Q2] at hM;refine Zg fun K5 hK5=> ?_;refine mj (ι:=Bool) [1,2,5] [2] [] (fun i=>[(16,oB i)]) hM ?_ ?_
    ·intro e6 hM K8 hK8;exact au
    ·intro x4 hM;(try dsimp only at hM);exact au
   ·intro x1 hM;(try dsimp only at hM);exact au
theorem Zb0 (k:Nat):∀(a0:Za) (a1:Int) (r:Int) (hM:We k a0 a1=some r),Ctr Tryz.prog 121 [.agg (Za.c a0),.one (.int .i64 a1)] true [.one (.int .i64 r)]:=(ZfZ k)
instance:HC 121 (Ty @Zb0):=⟨Zb0⟩
theorem Zeb (a0:Int) (a1:Int) (r:Int) (hM:Kb a0 a1=some r):Ctr Tryz.prog 146 [.one (.int .i64 a0),.one (.int .i64 a1)] true [.one (.int .i64 r)]:=by
 unfold Kb at hM;refine Zr Tryz.func146 Tryz.ntmps146 Tryz.results146 fun N w0 hbad F=> ?_;exact au
instance:HC 146 (Ty @Zeb):=⟨Zeb⟩
theorem Zed:∀(k:Nat),(∀(a0:Za) (r:Int) (hM:Qp k a0=some r),Ctr Tryz.prog 122 [.agg (Za.c a0)] true [.one (.int .i64 r)]):=by
 intro k
 induction k with
 | zero=>intro a0 r hM;simp [Qp] at hM
 | succ k ih_s_NestingOf=>
  ·intro a0 r hM;haveI:HC 122 _:=⟨ih_s_NestingOf⟩;rw [Qp] at hM;refine Zr Tryz.func122 Tryz.ntmps122 Tryz.results122 fun N w0 hbad F=> ?_;refine S1 ?_;refine S1 ?_;refine mj (ι:=Int) [] [] [] (fun i=>[(3,oI i)]) hM ?_ ?_
   ·intro e1 hM K3 hK3;refine S1 ?_;refine Zc ?_;refine lp (ι:=Int×Int) [1] [1] [] (fun i=>[(3,oI i.1),(4,oI i.2)]) (fun n i=>Y6 (Qp k) a0 n i.1 i.2=some e1) k (0,0) hM (by simp [Y6]) ?_;intro KL4 nL4 ⟨x2,x3⟩ hL4 hM _;have hM:Y6 (Qp k) a0 (nL4+1) x2 x3=some e1:=hM;rw [Y6] at hM;exact au
   ·intro x1 hM;(try dsimp only at hM);exact au
theorem Zaj (k:Nat):∀(a0:Za) (r:Int) (hM:Qp k a0=some r),Ctr Tryz.prog 122 [.agg (Za.c a0)] true [.one (.int .i64 r)]:=(Zed k)
instance:HC 122 (Ty @Zaj):=⟨Zaj⟩
theorem ZbZ (k:Nat) (a0:Za) (r:Bool) (hM:UE k a0=some r):Ctr Tryz.prog 175 [.agg (Za.c a0)] true [.one (.bool r)]:=by
 unfold UE at hM;refine Zr Tryz.func175 Tryz.ntmps175 Tryz.results175 fun N w0 hbad F=> ?_;refine S1 ?_;refine S1 ?_;refine Zg fun K1 hK1=> ?_;refine S1 ?_;refine Zc ?_;refine S1 ?_;refine Zn hM (fun h2 hM=> ?_) (fun h2 hM=> ?_)
 ·have F:=nf F h2;refine mj (ι:=Bool) [] [] [] (fun i=>[(2,oB i)]) hM ?_ ?_
  ·intro e3 hM K5 hK5;exact au
  ·intro x1 hM;(try dsimp only at hM);exact au
 ·have F:=nf F h2;refine S1 ?_;refine Zn hM (fun h9 hM=> ?_) (fun h9 hM=> ?_)
  ·have F:=nf F h9;refine mj (ι:=Bool) [] [] [] (fun i=>[(2,oB i)]) hM ?_ ?_
   ·intro e10 hM K12 hK12;exact au
   ·intro x3 hM;(try dsimp only at hM);exact au
  ·have F:=nf F h9;refine S1 ?_;refine Zn hM (fun h16 hM=> ?_) (fun h16 hM=> ?_)
   ·have F:=nf F h16;refine mj (ι:=Bool) [] [] [] (fun i=>[(2,oB i)]) hM ?_ ?_
    ·intro e17 hM K19 hK19;exact au
    ·intro x5 hM;(try dsimp only at hM);exact au
   ·have F:=nf F h16;refine S1 ?_;refine Zn hM (fun h23 hM=> ?_) (fun h23 hM=> ?_)
    ·have F:=nf F h23;refine mj (ι:=Bool) [] [] [] (fun i=>[(2,oB i)]) hM ?_ ?_
     ·intro e24 hM K26 hK26;exact au
     ·intro x7 hM;(try dsimp only at hM);exact au
    ·have F:=nf F h23;refine S1 ?_;refine Zn hM (fun h29 hM=> ?_) (fun h29 hM=> ?_)
     ·have F:=nf F h29;refine mj (ι:=Bool) [] [] [] (fun i=>[(2,oB i)]) hM ?_ ?_
      ·intro e30 hM K32 hK32;exact au
      ·intro x8 hM;(try dsimp only at hM);exact au
     ·have F:=nf F h29;refine S1 ?_;refine Zn hM (fun h35 hM=> ?_) (fun h35 hM=> ?_)
      ·have F:=nf F h35;refine mj (ι:=Bool) [] [] [] (fun i=>[(2,oB i)]) hM ?_ ?_
       ·intro e36 hM K38 hK38;exact au
       ·intro x10 hM;(try dsimp only at hM);exact au
      ·have F:=nf F h35;refine mj (ι:=Bool) [1,3,8] [1] [] (fun i=>[(91,oB i)]) hM ?_ ?_
       ·intro e42 hM K44 hK44;exact au
       ·intro x12 hM;(try dsimp only at hM);refine Zn hM (fun h46 hM=> ?_) (fun h46 hM=> ?_)
        ·have F:=nf F h46;refine mj (ι:=Bool) [] [] [] (fun i=>[(2,oB i)]) hM ?_ ?_
         ·intro e47 hM K49 hK49;exact au
         ·intro x13 hM;(try dsimp only at hM);exact au
        ·have F:=nf F h46;refine S1 ?_;refine Zn hM (fun h53 hM=> ?_) (fun h53 hM=> ?_)
         ·have F:=nf F h53;refine mj (ι:=Bool) [] [] [] (fun i=>[(2,oB i)]) hM ?_ ?_
          ·intro e54 hM K56 hK56;exact au
          ·intro x15 hM;(try dsimp only at hM);exact au
         ·have F:=nf F h53;exact au
instance:HC 175 (Ty @ZbZ):=⟨ZbZ⟩
theorem Zg7:∀(k:Nat),(∀(a0:Za) (r:Bool) (hM:X2 k a0=some r),Ctr Tryz.prog 123 [.agg (Za.c a0)] true [.one (.bool r)]):=by
 intro k
 induction k with
 | zero=>intro a0 r hM;simp [X2] at hM
 | succ k ih_s_l10All=>
  ·intro a0 r hM;haveI:HC 123 _:=⟨ih_s_l10All⟩;rw [X2] at hM;refine Zr Tryz.func123 Tryz.ntmps123 Tryz.results123 fun N w0 hbad F=> ?_;refine S1 ?_;refine mjE (ι:=Unit) [1] [1] [] (fun i=>[]) hM ?_ ?_
   ·intro e1 hM hR1 K3 hK3;refine S1 ?_;refine Zc ?_;refine lp (ι:=Int) [1] [1] [] (fun i=>[(3,oI i)]) (fun n i=>Wf (X2 k) a0 n i=some e1) k 0 hM (by simp [Wf]) ?_;intro KL4 nL4 x1 hL4 hM _;have hM:Wf (X2 k) a0 (nL4+1) x1=some e1:=hM;rw [Wf] at hM;exact au
   ·intro _ hM;dsimp only at hM;exact au
theorem Zdl (k:Nat):∀(a0:Za) (r:Bool) (hM:X2 k a0=some r),Ctr Tryz.prog 123 [.agg (Za.c a0)] true [.one (.bool r)]:=(Zg7 k)
instance:HC 123 (Ty @Zdl):=⟨Zdl⟩
theorem JH (k:Nat) (a0:Za) (r:Bool) (hM:Q3 k a0=some r):Ctr Tryz.prog 70 [.agg (Za.c a0)] true [.one (.bool r)]:=by
 unfold Q3 at hM;refine Zr Tryz.func70 Tryz.ntmps70 Tryz.results70 fun N w0 hbad F=> ?_;refine S1 ?_;refine mj (ι:=Bool) [] [] [] (fun i=>[(2,oB i)]) hM ?_ ?_
 ·intro e1 hM K3 hK3;exact au
 ·intro x1 hM;(try dsimp only at hM);exact au
instance:HC 70 (Ty @JH):=⟨JH⟩
theorem UF (k:Nat) (a0:ByteArray) (r:Za×Int) (hM:Wi k a0=some r):Ctr Tryz.prog 111 [.one (.str a0)] false [.agg (Za.c r.1),.one (.int .i64 r.2)]:=by
 unfold Wi at hM;refine Zr Tryz.func111 Tryz.ntmps111 Tryz.results111 fun N w0 hbad F=> ?_;refine S1 ?_;obtain ⟨x1,e1,hM⟩:=bind_some hM;refine Zs fun K h=> ?_;simp [go_sem,F];refine Qt false (Js k a0 x1 e1) ?_;simp [go_sem,F];refine h _ ?_;refine Zg fun K2 hK2=> ?_;refine S1 ?_;refine Zn hM (fun h3 hM=> ?_) (fun h3 hM=> ?_)
 ·have F:=Zwg (nf F h3) (eT h3);exact au
 ·have F:=Zwg (nf F h3) (eF h3);refine Zi ?_;refine hK2 _ ?_;refine S1 ?_;refine le1 [2,6] [2] [] ?_ (ch:=[(4,oL Zh.c x1.1)]) (cb:=[(21,[cL Zh.c x1.1,cI 0,cI (a0.size:Int),cI (-1)])]);obtain ⟨x2,e4,hM⟩:=bind_some hM;refine Zs fun K h=> ?_;simp [go_sem,F];refine ZA 0 (Kd k (Zd.mk x1.1 0 (a0.size:Int) (-1)) x2 e4) ?_;simp [go_sem,F];refine h _ ?_;refine mj (ι:=(List Zh)×Int×Int×Int) [2,6,7] [2,7] [] (fun i=>[]) hM ?_ ?_ (cb:=fun i=>[(21,[cL Zh.c i.1,cI i.2.1,cI i.2.2.1,cI i.2.2.2])])
  ·intro e5 hM K7 hK7;refine mj (ι:=Bool) [2,6,7] [2,7,21] [] (fun i=>[(37,oB i)]) hM ?_ ?_
   ·intro e8 hM K10 hK10;exact au
   ·intro x7 hM;(try dsimp only at hM);exact au
  ·rintro ⟨x3,x4,x5,x6⟩ hM;dsimp only at hM;refine Zg fun K14 hK14=> ?_;refine S1 ?_;refine Zn hM (fun h15 hM=> ?_) (fun h15 hM=> ?_)
   ·have F:=Zwg (nf F h15) (eT h15);refine Zg fun K16 hK16=> ?_;refine le1 [2,6] [2,21] [] ?_;refine ZJ [[],[1000002],[1,1000002],[1,2,1000002],[1,2,3,1000002],[0],[0,1,2,3,4,5]] mixed (by kernel_rfl) ?_;simp [go_sem,F];refine ⟨Zq (by kernel_rfl), ?_⟩;exact au
   ·have F:=Zwg (nf F h15) (eF h15);exact au
instance:HC 111 (Ty @UF):=⟨UF⟩
end Go.Proofs.YtbkllghhcphkaaaGreatDoor
