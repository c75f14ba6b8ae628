import Derived.Test.YtbkllghhcphkaaaGreatDoorJ10
set_option linter.unusedSimpArgs false
set_option linter.unusedVariables false
namespace Go.Proofs.YtbkllghhcphkaaaGreatDoor
open Go.RowKit Am
set_option maxHeartbeats 4000000
set_option maxRecDepth 100000
theorem VR (a0:Int) (a1:Zb) (a2:Zb) (r:Zb) (hM:Zaq a0 a1 a2=some r):TC Tryz.prog 258 12 [.one (.int .i64 a0),.agg (Zb.c a1),.agg (Zb.c a2)] [.agg (Zb.c r)]:=by
 unfold Zaq at hM;refine ZsS Tryz.func258 Tryz.ntmps258 Tryz.results258 fun N w0 hbad F=> ?_;refine S1 ?_;refine S1 ?_;obtain rfl:=si hM;refine rr [] [(640,30000)] [6] [6] [640] ?_;exact au
instance:HC 258 (Ty @VR):=⟨VR⟩
theorem Zin:∀(k:Nat),(∀(a0:Zf) (a1:ByteArray) (r:(List Zb)×Zf) (hM:W6 k a0 a1=some r),ZcM Tryz.prog 328 [] (Zf.c a0) [.one (.str a1)] false [.one (.sl (r.1.map Zb.c))] (Zf.c r.2))/\
  (∀(a0:Zf) (r:Zb×Zf) (hM:Z7 k a0=some r),ZcM Tryz.prog 309 [] (Zf.c a0) [] false [.agg (Zb.c r.1)] (Zf.c r.2))/\
  (∀(a0:Zf) (r:Zb×Zf) (hM:ZJ k a0=some r),ZcM Tryz.prog 284 [] (Zf.c a0) [] false [.agg (Zb.c r.1)] (Zf.c r.2))/\
  (∀(a0:Zf) (r:Zb×Zf) (hM:X2 k a0=some r),ZcM Tryz.prog 257 [] (Zf.c a0) [] false [.agg (Zb.c r.1)] (Zf.c r.2))/\
  (∀(a0:Zf) (r:Zb×Zf) (hM:Xe k a0=some r),ZcM Tryz.prog 209 [] (Zf.c a0) [] false [.agg (Zb.c r.1)] (Zf.c r.2))/\
  (∀(a0:Zf) (r:Zb×Zf) (hM:Zx k a0=some r),ZcM Tryz.prog 167 [] (Zf.c a0) [] false [.agg (Zb.c r.1)] (Zf.c r.2)):=by
 intro k
 induction k with
 | zero=>exact ⟨by intro a0 a1 r hM;simp [W6] at hM,by intro a0 r hM;simp [Z7] at hM,by intro a0 r hM;simp [ZJ] at hM,by intro a0 r hM;simp [X2] at hM,by intro a0 r hM;simp [Xe] at hM,by intro a0 r hM;simp [Zx] at hM⟩
 | succ k ih=>
  obtain ⟨ih_s_l11Args,ih_s_l11Atom,ih_s_l11Product,ih_s_l11Sum,ih_s_l11Compare,ih_s_l11Expr⟩:=ih;refine ⟨?_, ?_, ?_, ?_, ?_, ?_⟩
  ·intro a0 a1 r hM;haveI:HC 328 _:=⟨ih_s_l11Args⟩;haveI:HC 309 _:=⟨ih_s_l11Atom⟩;haveI:HC 284 _:=⟨ih_s_l11Product⟩;haveI:HC 257 _:=⟨ih_s_l11Sum⟩;haveI:HC 209 _:=⟨ih_s_l11Compare⟩;haveI:HC 167 _:=⟨ih_s_l11Expr⟩;rw [W6] at hM;refine Kq Tryz.func328 Tryz.ntmps328 Tryz.results328 fun N w0 hbad F=> ?_;refine S1 ?_;refine S1 ?_;refine Ze fun K1 hK1=> ?_;obtain ⟨x1,e2,hM⟩:=bind_some hM;refine Zv fun K h=> ?_;simp [go_sem,F];refine ZF 0 (Qz a0 a1 x1 e2) ?_;simp [go_sem,F];refine h _ ?_;refine Zj hM (fun h3 hM=> ?_) (fun h3 hM=> ?_)
   ·have F:=nf F h3;refine S1 ?_;refine S1 ?_;obtain rfl:=si hM;refine le1 [] [44] [] ?_ (ch:=[(4,oL Zb.c ([]:List Zb))]);exact au
   ·have F:=nf F h3;refine Zh ?_;refine hK1 _ ?_;refine mj (ι:=(List Zi)×Int×Int×Int×(List Zb)) [0,1] [] [] (fun i=>[(5,oO 384 i.2.2.2.2.length)]) hM ?_ ?_ (cb:=fun i=>[(44,[cL Zi.c i.1,cI i.2.1,cI i.2.2.1,cI i.2.2.2.1])]) (ca:=fun i=>[(384,aF Zb.c i.2.2.2.2)])
    ·intro e4 hM K6 hK6;refine Zc ?_;refine Zql [384] (O':=⟨44,[(0,.one (.box 44 0)),(1,.one (.l (.str a1))),(5,.one (.own 384 (([]:List Zb).length)))],[(44,[.l (.sl (x1.2.toks.map Zi.c)),.l (.int .i64 x1.2.i),.l (.int .i64 x1.2.end_),.l (.int .i64 x1.2.bad)])],[(384,some ⟨false,([]:List Zb).map Zb.c⟩)]⟩) ?_;refine lp (ι:=(List Zi)×Int×Int×Int×(List Zb)) [0,1] [] [] (fun i=>[(5,oO 384 i.2.2.2.2.length)]) (fun n i=>Xf (Zx k) n i.1 i.2.1 i.2.2.1 i.2.2.2.1 i.2.2.2.2=some e4) k (x1.2.toks,x1.2.i,x1.2.end_,x1.2.bad,([]:List Zb)) hM (by simp [Xf]) ?_ (cb:=fun i=>[(44,[cL Zi.c i.1,cI i.2.1,cI i.2.2.1,cI i.2.2.2.1])]) (ca:=fun i=>[(384,aF Zb.c i.2.2.2.2)]);intro KL7 nL7 ⟨x7,x8,x9,x10,x11⟩ hL7 hM _;have hM:Xf (Zx k) (nL7+1) x7 x8 x9 x10 x11=some e4:=hM;rw [Xf] at hM;exact au
    ·rintro ⟨x2,x3,x4,x5,x6⟩ hM;dsimp only at hM;obtain ⟨x15,e18,hM⟩:=bind_some hM;refine Zv fun K h=> ?_;simp [go_sem,F];refine ZF 0 (Y8 (Zf.mk x2 x3 x4 x5) a1 x15 e18) ?_;simp [go_sem,F];refine h _ ?_;refine S1 ?_;obtain rfl:=si hM;refine le1 [] [44] [] ?_ (ch:=[(4,oL Zb.c x6)]);exact au
  ·intro a0 r hM;haveI:HC 328 _:=⟨ih_s_l11Args⟩;haveI:HC 309 _:=⟨ih_s_l11Atom⟩;haveI:HC 284 _:=⟨ih_s_l11Product⟩;haveI:HC 257 _:=⟨ih_s_l11Sum⟩;haveI:HC 209 _:=⟨ih_s_l11Compare⟩;haveI:HC 167 _:=⟨ih_s_l11Expr⟩;rw [Z7] at hM;refine Kq Tryz.func309 Tryz.ntmps309 Tryz.results309 fun N w0 hbad F=> ?_;refine S1 ?_;refine Ze fun K1 hK1=> ?_;refine mj (ι:=Bool) [0,2] [2,141] [] (fun i=>[(21,oB i)]) hM ?_ ?_
   ·intro e2 hM K4 hK4;rcases ifM hM with ⟨h5,hM⟩| ⟨h5,hM⟩
    ·have F:=Zyn (nf F h5) (eT h5);refine Zt 15 mixed (by kernel_rfl) (by kernel_rfl) ?_;simp [go_sem,F];exact au
    ·have F:=Zyn (nf F h5) (eF h5);refine Zt 15 mixed (by kernel_rfl) (by kernel_rfl) ?_;simp [go_sem,F];exact au
   ·intro x1 hM;(try dsimp only at hM);refine Zj hM (fun h6 hM=> ?_) (fun h6 hM=> ?_)
    ·have F:=nf F h6;obtain ⟨x2,e7,hM⟩:=bind_some hM;refine Zv fun K h=> ?_;simp [go_sem,F];refine ZF 0 (UK a0 x2 e7) ?_;simp [go_sem,F];refine h _ ?_;obtain rfl:=si hM;refine le1 [2] [141] [] ?_ (cb:=[(2,bT (Zb.c x2.1))]);exact au
    ·have F:=nf F h6;refine Zh ?_;refine hK1 _ ?_;refine Ze fun K8 hK8=> ?_;refine le1 [0,2] [2,141] [] ?_;obtain ⟨x3,e9,hM⟩:=bind_some hM;have F:=Zyn F (Xy e9);refine ZE [[],[0],[0,1],[0,1,2],[],[4],[4,5],[4,5,6],[0,1,2,3,4,5,6,7],[0,1,2,3,4,5,6,7,8],[],[0,1,2,3,4,5,6,7,8,9,10]] mixed (by kernel_rfl) ?_;simp [go_sem,F];refine ⟨Zp (by kernel_rfl), ?_⟩;refine hK8 _ ?_;refine Ze fun K10 hK10=> ?_;refine Zc ?_;refine S1 ?_;refine Zj hM (fun h11 hM=> ?_) (fun h11 hM=> ?_)
     ·have F:=nf F h11;refine S1 ?_;obtain ⟨x4,e12,hM⟩:=bind_some hM;refine Zv fun K h=> ?_;simp [go_sem,F];refine Yl false (ZbC x3.n x4 e12) ?_;simp [go_sem,F];refine h _ ?_;obtain rfl:=si hM;refine le1 [2] [141] [] ?_ (cb:=[(2,bT (Zb.c x4))]);exact au
     ·have F:=nf F h11;refine S1 ?_;refine Zj hM (fun h13 hM=> ?_) (fun h13 hM=> ?_)
      ·have F:=nf F h13;exact au
      ·have F:=nf F h13;refine mj (ι:=Bool) [0,2,3] [2,3,141] [] (fun i=>[(64,oB i)]) hM ?_ ?_
       ·intro e14 hM K16 hK16;exact au
       ·intro x5 hM;(try dsimp only at hM);refine Zj hM (fun h19 hM=> ?_) (fun h19 hM=> ?_)
        ·have F:=nf F h19;refine S1 ?_;obtain ⟨x7,e20,hM⟩:=bind_some hM;refine Zv fun K h=> ?_;simp [go_sem,F];refine Yl false (Zar x3.text x7 e20) ?_;simp [go_sem,F];refine h _ ?_;obtain rfl:=si hM;refine le1 [2] [141] [] ?_ (cb:=[(2,bT (Zb.c x7))]);exact au
        ·have F:=nf F h19;refine mj (ι:=Bool) [0,2,3] [2,3,141] [] (fun i=>[(84,oB i)]) hM ?_ ?_
         ·intro e21 hM K23 hK23;exact au
         ·intro x8 hM;(try dsimp only at hM);refine Zj hM (fun h26 hM=> ?_) (fun h26 hM=> ?_)
          ·have F:=nf F h26;refine S1 ?_;obtain ⟨x10,e27,hM⟩:=bind_some hM;refine Zv fun K h=> ?_;simp [go_sem,F];refine ZF 0 (Y8 (Zf.mk a0.toks (IntKind.i64.wrap (a0.i+1)) a0.end_ a0.bad) (⟨#[40]⟩:ByteArray) x10 e27) ?_;simp [go_sem,F];refine h _ ?_;refine Ze fun K28 hK28=> ?_;refine le1 [0,2,3] [2,3,141] [] ?_;obtain ⟨x11,e29,hM⟩:=bind_some hM;refine ZE [[1000141],[0,1000141],[],[2],[0,1,2,3],[0,1,2,3,4]] mixed (by kernel_rfl) ?_;simp [go_sem,F];refine ZF 0 (ih_s_l11Args x10 (⟨#[41]⟩:ByteArray) x11 e29) ?_;simp [go_sem,F];refine ⟨Zp (by kernel_rfl), ?_⟩;exact au
          ·have F:=nf F h26;obtain ⟨x12,e30,hM⟩:=bind_some hM;refine Zv fun K h=> ?_;simp [go_sem,F];refine Yl false (Wd x3 (⟨#[91]⟩:ByteArray) x12 e30) ?_;simp [go_sem,F];refine h _ ?_;refine Zj hM (fun h31 hM=> ?_) (fun h31 hM=> ?_)
           ·have F:=nf F h31;exact au
           ·have F:=nf F h31;obtain ⟨x14,e33,hM⟩:=bind_some hM;refine Zv fun K h=> ?_;simp [go_sem,F];refine Yl false (Wd x3 (⟨#[40]⟩:ByteArray) x14 e33) ?_;simp [go_sem,F];refine h _ ?_;refine Zj hM (fun h34 hM=> ?_) (fun h34 hM=> ?_)
            ·have F:=nf F h34;exact au
            ·have F:=nf F h34;refine Zh ?_;refine hK10 _ ?_;obtain ⟨x17,e37,hM⟩:=bind_some hM;refine Zv fun K h=> ?_;simp [go_sem,F];refine ZF 0 (UK a0 x17 e37) ?_;simp [go_sem,F];refine h _ ?_;obtain rfl:=si hM;refine le1 [2] [141] [] ?_ (cb:=[(2,bT (Zb.c x17.1))]);exact au
  ·intro a0 r hM;haveI:HC 328 _:=⟨ih_s_l11Args⟩;haveI:HC 309 _:=⟨ih_s_l11Atom⟩;haveI:HC 284 _:=⟨ih_s_l11Product⟩;haveI:HC 257 _:=⟨ih_s_l11Sum⟩;haveI:HC 209 _:=⟨ih_s_l11Compare⟩;haveI:HC 167 _:=⟨ih_s_l11Expr⟩;rw [ZJ] at hM;refine Kq Tryz.func284 Tryz.ntmps284 Tryz.results284 fun N w0 hbad F=> ?_;refine S1 ?_;obtain ⟨x1,e1,hM⟩:=bind_some hM;refine Zv fun K h=> ?_;simp [go_sem,F];refine ZF 0 (ih_s_l11Atom a0 x1 e1) ?_;simp [go_sem,F];refine h _ ?_;refine mj (ι:=Int×Int×ByteArray×(List Zb)×(List Zi)×Int×Int×Int) [2,3] [2] [] (fun i=>[]) hM ?_ ?_ (cb:=fun i=>[(3,[cI i.1,cI i.2.1,cS i.2.2.1,cL Zb.c i.2.2.2.1]),(21,[cL Zi.c i.2.2.2.2.1,cI i.2.2.2.2.2.1,cI i.2.2.2.2.2.2.1,cI i.2.2.2.2.2.2.2])])
   ·intro e2 hM K4 hK4;refine Zc ?_;refine lp (ι:=(List Zi)×Int×Int×Int×Int×Int×ByteArray×(List Zb)) [0,2,3] [2] [] (fun i=>[]) (fun n i=>YU (Z7 k) n i.1 i.2.1 i.2.2.1 i.2.2.2.1 i.2.2.2.2.1 i.2.2.2.2.2.1 i.2.2.2.2.2.2.1 i.2.2.2.2.2.2.2=some e2) k (x1.2.toks,x1.2.i,x1.2.end_,x1.2.bad,x1.1.kind,x1.1.n,x1.1.text,x1.1.args) hM (by simp [YU]) ?_ (cb:=fun i=>[(3,[cI i.2.2.2.2.1,cI i.2.2.2.2.2.1,cS i.2.2.2.2.2.2.1,cL Zb.c i.2.2.2.2.2.2.2]),(21,[cL Zi.c i.1,cI i.2.1,cI i.2.2.1,cI i.2.2.2.1])]);intro KL5 nL5 ⟨x10,x11,x12,x13,x14,x15,x16,x17⟩ hL5 hM _;have hM:YU (Z7 k) (nL5+1) x10 x11 x12 x13 x14 x15 x16 x17=some e2:=hM;rw [YU] at hM;refine Ze fun K6 hK6=> ?_;obtain ⟨x18,e7,hM⟩:=bind_some hM;refine Zv fun K h=> ?_;simp [go_sem,F];refine ZF 0 (Qz (Zf.mk x10 x11 x12 x13) (⟨#[42]⟩:ByteArray) x18 e7) ?_;simp [go_sem,F];refine h _ ?_;refine Zj hM (fun h8 hM=> ?_) (fun h8 hM=> ?_)
    ·have F:=nf F h8;refine Zh ?_;refine hK6 _ ?_;refine Zc ?_;refine S1 ?_;refine le1 [0,2,3] [2,3,21] [] ?_;obtain ⟨x19,e9,hM⟩:=bind_some hM;obtain ⟨x20,e10,hM⟩:=bind_some hM;refine ZE [[1000021],[],[1],[0,1,2],[0,1,2,3]] mixed (by kernel_rfl) ?_;simp [go_sem,F];refine ZF 0 (ih_s_l11Atom (Zf.mk x18.2.toks (IntKind.i64.wrap (x18.2.i+1)) x18.2.end_ x18.2.bad) x19 e9) ?_;simp [go_sem,F];refine Zml (VR 3 (Zb.mk x14 x15 x16 x17) x19.1 x20 e10) ?_;simp [go_sem,F];refine ⟨Zp (by kernel_rfl), ?_⟩;exact au
    ·have F:=nf F h8;exact au
   ·rintro ⟨x2,x3,x4,x5,x6,x7,x8,x9⟩ hM;dsimp only at hM;exact au
  ·intro a0 r hM;haveI:HC 328 _:=⟨ih_s_l11Args⟩;haveI:HC 309 _:=⟨ih_s_l11Atom⟩;haveI:HC 284 _:=⟨ih_s_l11Product⟩;haveI:HC 257 _:=⟨ih_s_l11Sum⟩;haveI:HC 209 _:=⟨ih_s_l11Compare⟩;haveI:HC 167 _:=⟨ih_s_l11Expr⟩;rw [X2] at hM;refine Kq Tryz.func257 Tryz.ntmps257 Tryz.results257 fun N w0 hbad F=> ?_;refine S1 ?_;obtain ⟨x1,e1,hM⟩:=bind_some hM;refine Zv fun K h=> ?_;simp [go_sem,F];refine ZF 0 (ih_s_l11Product a0 x1 e1) ?_;simp [go_sem,F];refine h _ ?_;refine mj (ι:=Int×Int×ByteArray×(List Zb)×(List Zi)×Int×Int×Int) [2,3] [2] [] (fun i=>[]) hM ?_ ?_ (cb:=fun i=>[(3,[cI i.1,cI i.2.1,cS i.2.2.1,cL Zb.c i.2.2.2.1]),(29,[cL Zi.c i.2.2.2.2.1,cI i.2.2.2.2.2.1,cI i.2.2.2.2.2.2.1,cI i.2.2.2.2.2.2.2])])
   ·intro e2 hM K4 hK4;refine Zc ?_;refine lp (ι:=(List Zi)×Int×Int×Int×Int×Int×ByteArray×(List Zb)) [0,2,3] [2] [] (fun i=>[]) (fun n i=>X1 (ZJ k) n i.1 i.2.1 i.2.2.1 i.2.2.2.1 i.2.2.2.2.1 i.2.2.2.2.2.1 i.2.2.2.2.2.2.1 i.2.2.2.2.2.2.2=some e2) k (x1.2.toks,x1.2.i,x1.2.end_,x1.2.bad,x1.1.kind,x1.1.n,x1.1.text,x1.1.args) hM (by simp [X1]) ?_ (cb:=fun i=>[(3,[cI i.2.2.2.2.1,cI i.2.2.2.2.2.1,cS i.2.2.2.2.2.2.1,cL Zb.c i.2.2.2.2.2.2.2]),(29,[cL Zi.c i.1,cI i.2.1,cI i.2.2.1,cI i.2.2.2.1])]);intro KL5 nL5 ⟨x10,x11,x12,x13,x14,x15,x16,x17⟩ hL5 hM _;have hM:X1 (ZJ k) (nL5+1) x10 x11 x12 x13 x14 x15 x16 x17=some e2:=hM;rw [X1] at hM;refine Ze fun K6 hK6=> ?_;refine mj (ι:=(List Zi)×Int×Int×Int×Bool) [0,2,3] [2,3] [] (fun i=>[(12,oB i.2.2.2.2)]) hM ?_ ?_ (cb:=fun i=>[(29,[cL Zi.c i.1,cI i.2.1,cI i.2.2.1,cI i.2.2.2.1])])
    ·intro e7 hM K9 hK9;exact au
    ·rintro ⟨x18,x19,x20,x21,x22⟩ hM;dsimp only at hM;refine Zj hM (fun h13 hM=> ?_) (fun h13 hM=> ?_)
     ·have F:=nf F h13;refine Zh ?_;refine hK6 _ ?_;refine Zc ?_;refine S1 ?_;refine mj (ι:=(List Zi)×Int×Int×Int×Int) [0,2,3] [2,3] [] (fun i=>[(4,oI i.2.2.2.2)]) hM ?_ ?_ (cb:=fun i=>[(29,[cL Zi.c i.1,cI i.2.1,cI i.2.2.1,cI i.2.2.2.1])])
      ·intro e14 hM K16 hK16;exact au
      ·rintro ⟨x25,x26,x27,x28,x29⟩ hM;dsimp only at hM;refine S1 ?_;refine le1 [0,2,3,4] [2,3,29] [] ?_;obtain ⟨x31,e19,hM⟩:=bind_some hM;obtain ⟨x32,e20,hM⟩:=bind_some hM;refine ZE [[1000029],[1000029],[],[2],[0,1,2,3],[0,1,2,3,4]] mixed (by kernel_rfl) ?_;simp [go_sem,F];refine ZF 0 (ih_s_l11Product (Zf.mk x25 (IntKind.i64.wrap (x26+1)) x27 x28) x31 e19) ?_;simp [go_sem,F];refine Zml (VR x29 (Zb.mk x14 x15 x16 x17) x31.1 x32 e20) ?_;simp [go_sem,F];refine ⟨Zp (by kernel_rfl), ?_⟩;exact au
     ·have F:=nf F h13;exact au
   ·rintro ⟨x2,x3,x4,x5,x6,x7,x8,x9⟩ hM;dsimp only at hM;exact au
  ·intro a0 r hM;haveI:HC 328 _:=⟨ih_s_l11Args⟩;haveI:HC 309 _:=⟨ih_s_l11Atom⟩;haveI:HC 284 _:=⟨ih_s_l11Product⟩;haveI:HC 257 _:=⟨ih_s_l11Sum⟩;haveI:HC 209 _:=⟨ih_s_l11Compare⟩;haveI:HC 167 _:=⟨ih_s_l11Expr⟩;rw [Xe] at hM;refine Kq Tryz.func209 Tryz.ntmps209 Tryz.results209 fun N w0 hbad F=> ?_;refine S1 ?_;obtain ⟨x1,e1,hM⟩:=bind_some hM;refine Zv fun K h=> ?_;simp [go_sem,F];refine ZF 0 (ih_s_l11Sum a0 x1 e1) ?_;simp [go_sem,F];refine h _ ?_;refine Ze fun K2 hK2=> ?_;refine Zc ?_;obtain ⟨x2,e3,hM⟩:=bind_some hM;refine Zv fun K h=> ?_;simp [go_sem,F];refine ZF 0 (Qz x1.2 (⟨#[60]⟩:ByteArray) x2 e3) ?_;simp [go_sem,F];refine h _ ?_;refine Zj hM (fun h4 hM=> ?_) (fun h4 hM=> ?_)
   ·have F:=nf F h4;refine S1 ?_;refine Ze fun K5 hK5=> ?_;refine le1 [0,2,3] [2,3,37] [] ?_;obtain ⟨x3,e6,hM⟩:=bind_some hM;obtain ⟨x4,e7,hM⟩:=bind_some hM;refine ZE [[1000037],[],[1],[0,1,2],[0,1,2,3]] mixed (by kernel_rfl) ?_;simp [go_sem,F];refine ZF 0 (ih_s_l11Sum (Zf.mk x2.2.toks (IntKind.i64.wrap (x2.2.i+1)) x2.2.end_ x2.2.bad) x3 e6) ?_;simp [go_sem,F];refine Zml (VR 4 x1.1 x3.1 x4 e7) ?_;simp [go_sem,F];refine ⟨Zp (by kernel_rfl), ?_⟩;refine hK5 _ ?_;obtain rfl:=si hM;refine le1 [2] [37] [] ?_ (cb:=[(2,bT (Zb.c x4))]);exact au
   ·have F:=nf F h4;obtain ⟨x5,e8,hM⟩:=bind_some hM;refine Zv fun K h=> ?_;simp [go_sem,F];refine ZF 0 (Qz x2.2 (⟨#[61,61]⟩:ByteArray) x5 e8) ?_;simp [go_sem,F];refine h _ ?_;refine Zj hM (fun h9 hM=> ?_) (fun h9 hM=> ?_)
    ·have F:=nf F h9;refine S1 ?_;refine Ze fun K10 hK10=> ?_;refine le1 [0,2,3] [2,3,37] [] ?_;obtain ⟨x6,e11,hM⟩:=bind_some hM;obtain ⟨x7,e12,hM⟩:=bind_some hM;refine ZE [[1000037],[],[1],[0,1,2],[0,1,2,3]] mixed (by kernel_rfl) ?_;simp [go_sem,F];refine ZF 0 (ih_s_l11Sum (Zf.mk x5.2.toks (IntKind.i64.wrap (x5.2.i+1)) x5.2.end_ x5.2.bad) x6 e11) ?_;simp [go_sem,F];refine Zml (VR 5 x1.1 x6.1 x7 e12) ?_;simp [go_sem,F];refine ⟨Zp (by kernel_rfl), ?_⟩;refine hK10 _ ?_;obtain rfl:=si hM;refine le1 [2] [37] [] ?_ (cb:=[(2,bT (Zb.c x7))]);exact au
    ·have F:=nf F h9;exact au
  ·intro a0 r hM;haveI:HC 328 _:=⟨ih_s_l11Args⟩;haveI:HC 309 _:=⟨ih_s_l11Atom⟩;haveI:HC 284 _:=⟨ih_s_l11Product⟩;haveI:HC 257 _:=⟨ih_s_l11Sum⟩;haveI:HC 209 _:=⟨ih_s_l11Compare⟩;haveI:HC 167 _:=⟨ih_s_l11Expr⟩;rw [Zx] at hM;refine Kq Tryz.func167 Tryz.ntmps167 Tryz.results167 fun N w0 hbad F=> ?_;refine S1 ?_;refine Ze fun K1 hK1=> ?_;refine Zc ?_;obtain ⟨x1,e2,hM⟩:=bind_some hM;refine Zv fun K h=> ?_;simp [go_sem,F];refine ZF 0 (Qz a0 (⟨#[108,101,116]⟩:ByteArray) x1 e2) ?_;simp [go_sem,F];refine h _ ?_;refine Zj hM (fun h3 hM=> ?_) (fun h3 hM=> ?_)
   ·have F:=nf F h3;refine S1 ?_;obtain ⟨x2,e4,hM⟩:=bind_some hM;refine Zv fun K h=> ?_;simp [go_sem,F];refine ZF 0 (UJ k (Zf.mk x1.2.toks (IntKind.i64.wrap (x1.2.i+1)) x1.2.end_ x1.2.bad) x2 e4) ?_;simp [go_sem,F];refine h _ ?_;obtain ⟨x3,e5,hM⟩:=bind_some hM;refine Zv fun K h=> ?_;simp [go_sem,F];refine ZF 0 (Y8 x2.2 (⟨#[61]⟩:ByteArray) x3 e5) ?_;simp [go_sem,F];refine h _ ?_;obtain ⟨x4,e6,hM⟩:=bind_some hM;refine Zv fun K h=> ?_;simp [go_sem,F];refine ZF 0 (ih_s_l11Expr x3 x4 e6) ?_;simp [go_sem,F];refine h _ ?_;obtain ⟨x5,e7,hM⟩:=bind_some hM;refine Zv fun K h=> ?_;simp [go_sem,F];refine ZF 0 (Y8 x4.2 (⟨#[105,110]⟩:ByteArray) x5 e7) ?_;simp [go_sem,F];refine h _ ?_;refine Ze fun K8 hK8=> ?_;refine le1 [0,2,3,4] [2,4,86] [] ?_;obtain ⟨x6,e9,hM⟩:=bind_some hM;refine ZE [[1000086],[1000086],[],[2],[1,2,3],[0,1,2,3,4],[0,1,2,3,4,5]] mixed (by kernel_rfl) ?_;simp [go_sem,F];refine ZF 0 (ih_s_l11Expr x5 x6 e9) ?_;simp [go_sem,F];refine ⟨Zp (by kernel_rfl), ?_⟩;refine hK8 _ ?_;obtain rfl:=si hM;refine le1 [2] [86] [] ?_ (cb:=[(2,[cI 7,cI 0,cS x2.1,cL Zb.c [x4.1,x6.1]])]);exact au
   ·have F:=nf F h3;obtain ⟨x7,e10,hM⟩:=bind_some hM;refine Zv fun K h=> ?_;simp [go_sem,F];refine ZF 0 (Qz x1.2 (⟨#[105,102]⟩:ByteArray) x7 e10) ?_;simp [go_sem,F];refine h _ ?_;refine Zj hM (fun h11 hM=> ?_) (fun h11 hM=> ?_)
    ·have F:=nf F h11;refine S1 ?_;obtain ⟨x8,e12,hM⟩:=bind_some hM;refine Zv fun K h=> ?_;simp [go_sem,F];refine ZF 0 (ih_s_l11Expr (Zf.mk x7.2.toks (IntKind.i64.wrap (x7.2.i+1)) x7.2.end_ x7.2.bad) x8 e12) ?_;simp [go_sem,F];refine h _ ?_;obtain ⟨x9,e13,hM⟩:=bind_some hM;refine Zv fun K h=> ?_;simp [go_sem,F];refine ZF 0 (Y8 x8.2 (⟨#[116,104,101,110]⟩:ByteArray) x9 e13) ?_;simp [go_sem,F];refine h _ ?_;obtain ⟨x10,e14,hM⟩:=bind_some hM;refine Zv fun K h=> ?_;simp [go_sem,F];refine ZF 0 (ih_s_l11Expr x9 x10 e14) ?_;simp [go_sem,F];refine h _ ?_;obtain ⟨x11,e15,hM⟩:=bind_some hM;refine Zv fun K h=> ?_;simp [go_sem,F];refine ZF 0 (Y8 x10.2 (⟨#[101,108,115,101]⟩:ByteArray) x11 e15) ?_;simp [go_sem,F];refine h _ ?_;refine Ze fun K16 hK16=> ?_;refine le1 [0,2,5,6] [2,5,6,86] [] ?_;obtain ⟨x12,e17,hM⟩:=bind_some hM;refine ZE [[1000086],[1000086],[],[2],[0,1,2,3],[0,1,2,3,4],[0,1,2,3,4,5]] mixed (by kernel_rfl) ?_;simp [go_sem,F];refine ZF 0 (ih_s_l11Expr x11 x12 e17) ?_;simp [go_sem,F];refine ⟨Zp (by kernel_rfl), ?_⟩;refine hK16 _ ?_;obtain rfl:=si hM;refine le1 [2] [86] [] ?_ (cb:=[(2,[cI 8,cI 0,cS (⟨#[]⟩:ByteArray),cL Zb.c [x8.1,x10.1,x12.1]])]);exact au
    ·have F:=nf F h11;obtain ⟨x13,e18,hM⟩:=bind_some hM;refine Zv fun K h=> ?_;simp [go_sem,F];refine ZF 0 (Qz x7.2 (⟨#[102,111,114]⟩:ByteArray) x13 e18) ?_;simp [go_sem,F];refine h _ ?_;refine Zj hM (fun h19 hM=> ?_) (fun h19 hM=> ?_)
     ·have F:=nf F h19;refine S1 ?_;obtain ⟨x14,e20,hM⟩:=bind_some hM;refine Zv fun K h=> ?_;simp [go_sem,F];refine ZF 0 (UJ k (Zf.mk x13.2.toks (IntKind.i64.wrap (x13.2.i+1)) x13.2.end_ x13.2.bad) x14 e20) ?_;simp [go_sem,F];refine h _ ?_;obtain ⟨x15,e21,hM⟩:=bind_some hM;refine Zv fun K h=> ?_;simp [go_sem,F];refine ZF 0 (Y8 x14.2 (⟨#[105,110]⟩:ByteArray) x15 e21) ?_;simp [go_sem,F];refine h _ ?_;obtain ⟨x16,e22,hM⟩:=bind_some hM;refine Zv fun K h=> ?_;simp [go_sem,F];refine ZF 0 (ih_s_l11Expr x15 x16 e22) ?_;simp [go_sem,F];refine h _ ?_;obtain ⟨x17,e23,hM⟩:=bind_some hM;refine Zv fun K h=> ?_;simp [go_sem,F];refine ZF 0 (Y8 x16.2 (⟨#[100,111]⟩:ByteArray) x17 e23) ?_;simp [go_sem,F];refine h _ ?_;refine Ze fun K24 hK24=> ?_;refine le1 [0,2,7,8] [2,8,86] [] ?_;obtain ⟨x18,e25,hM⟩:=bind_some hM;refine ZE [[1000086],[1000086],[],[2],[1,2,3],[0,1,2,3,4],[0,1,2,3,4,5]] mixed (by kernel_rfl) ?_;simp [go_sem,F];refine ZF 0 (ih_s_l11Expr x17 x18 e25) ?_;simp [go_sem,F];refine ⟨Zp (by kernel_rfl), ?_⟩;refine hK24 _ ?_;obtain rfl:=si hM;refine le1 [2] [86] [] ?_ (cb:=[(2,[cI 9,cI 0,cS x14.1,cL Zb.c [x16.1,x18.1]])]);exact au
     ·have F:=nf F h19;exact au
theorem Zap (k:Nat):∀(a0:Zf) (r:Zb×Zf) (hM:Zx k a0=some r),ZcM Tryz.prog 167 [] (Zf.c a0) [] false [.agg (Zb.c r.1)] (Zf.c r.2):=(Zin k).2.2.2.2.2
instance:HC 167 (Ty @Zap):=⟨Zap⟩
theorem Zio:∀(k:Nat),(∀(a0:Zb) (a1:Int) (r:Int) (hM:Wy k a0 a1=some r),Ctr Tryz.prog 121 [.agg (Zb.c a0),.one (.int .i64 a1)] true [.one (.int .i64 r)]):=by
 intro k
 induction k with
 | zero=>intro a0 a1 r hM;simp [Wy] at hM
 | succ k ih_s_l10Left=>
  ·intro a0 a1 r hM;haveI:HC 121 _:=⟨ih_s_l10Left⟩;rw [Wy] at hM;refine Zn Tryz.func121 Tryz.ntmps121 Tryz.results121 fun N w0 hbad F=> ?_;refine S1 ?_;refine S1 ?_;refine mj (ι:=Int) [] [] [] (fun i=>[(1,oI i)]) hM ?_ ?_
   ·intro e1 hM K3 hK3;refine S1 ?_;refine Zc ?_;refine lp (ι:=Int×Int) [2] [2] [] (fun i=>[(1,oI i.1),(5,oI i.2)]) (fun n i=>Xg (Wy k) a0 n i.1 i.2=some e1) k ((IntKind.i64.wrap (a1-1)),0) hM (by simp [Xg]) ?_;intro KL4 nL4 ⟨x2,x3⟩ hL4 hM _;have hM:Xg (Wy k) a0 (nL4+1) x2 x3=some e1:=hM;rw [Xg] at hM;refine Ze fun K5 hK5=> ?_;refine mj (ι:=Bool) [1,2,5] [2] [] (fun i=>[(16,oB i)]) hM ?_ ?_
    ·intro e6 hM K8 hK8;exact au
    ·intro x4 hM;(try dsimp only at hM);exact au
   ·intro x1 hM;(try dsimp only at hM);exact au
theorem ZdT (k:Nat):∀(a0:Zb) (a1:Int) (r:Int) (hM:Wy k a0 a1=some r),Ctr Tryz.prog 121 [.agg (Zb.c a0),.one (.int .i64 a1)] true [.one (.int .i64 r)]:=(Zio k)
instance:HC 121 (Ty @ZdT):=⟨ZdT⟩
theorem Zgi (a0:Int) (a1:Int) (r:Int) (hM:Vs a0 a1=some r):Ctr Tryz.prog 146 [.one (.int .i64 a0),.one (.int .i64 a1)] true [.one (.int .i64 r)]:=by
 unfold Vs at hM;refine Zn Tryz.func146 Tryz.ntmps146 Tryz.results146 fun N w0 hbad F=> ?_;exact au
instance:HC 146 (Ty @Zgi):=⟨Zgi⟩
theorem Zgl:∀(k:Nat),(∀(a0:Zb) (r:Int) (hM:Qv k a0=some r),Ctr Tryz.prog 122 [.agg (Zb.c a0)] true [.one (.int .i64 r)]):=by
 intro k
 induction k with
 | zero=>intro a0 r hM;simp [Qv] at hM
 | succ k ih_s_NestingOf=>
  ·intro a0 r hM;haveI:HC 122 _:=⟨ih_s_NestingOf⟩;rw [Qv] at hM;refine Zn Tryz.func122 Tryz.ntmps122 Tryz.results122 fun N w0 hbad F=> ?_;refine S1 ?_;refine S1 ?_;refine mj (ι:=Int) [] [] [] (fun i=>[(3,oI i)]) hM ?_ ?_
   ·intro e1 hM K3 hK3;refine S1 ?_;refine Zc ?_;refine lp (ι:=Int×Int) [1] [1] [] (fun i=>[(3,oI i.1),(4,oI i.2)]) (fun n i=>Y9 (Qv k) a0 n i.1 i.2=some e1) k (0,0) hM (by simp [Y9]) ?_;intro KL4 nL4 ⟨x2,x3⟩ hL4 hM _;have hM:Y9 (Qv k) a0 (nL4+1) x2 x3=some e1:=hM;rw [Y9] at hM;exact au
   ·intro x1 hM;(try dsimp only at hM);exact au
theorem ZbF (k:Nat):∀(a0:Zb) (r:Int) (hM:Qv k a0=some r),Ctr Tryz.prog 122 [.agg (Zb.c a0)] true [.one (.int .i64 r)]:=(Zgl k)
instance:HC 122 (Ty @ZbF):=⟨ZbF⟩
theorem ZdS (k:Nat) (a0:Zb) (r:Bool) (hM:Jh k a0=some r):Ctr Tryz.prog 175 [.agg (Zb.c a0)] true [.one (.bool r)]:=by
 unfold Jh at hM;refine Zn Tryz.func175 Tryz.ntmps175 Tryz.results175 fun N w0 hbad F=> ?_;refine S1 ?_;refine S1 ?_;refine Ze fun K1 hK1=> ?_;refine S1 ?_;refine Zc ?_;refine S1 ?_;refine Zj hM (fun h2 hM=> ?_) (fun h2 hM=> ?_)
 ·have F:=nf F h2;refine mj (ι:=Bool) [] [] [] (fun i=>[(2,oB i)]) hM ?_ ?_
  ·intro e3 hM K5 hK5;exact au
  ·intro x1 hM;(try dsimp only at hM);exact au
 ·have F:=nf F h2;refine S1 ?_;refine Zj hM (fun h9 hM=> ?_) (fun h9 hM=> ?_)
  ·have F:=nf F h9;refine mj (ι:=Bool) [] [] [] (fun i=>[(2,oB i)]) hM ?_ ?_
   ·intro e10 hM K12 hK12;exact au
   ·intro x3 hM;(try dsimp only at hM);exact au
  ·have F:=nf F h9;refine S1 ?_;refine Zj hM (fun h16 hM=> ?_) (fun h16 hM=> ?_)
   ·have F:=nf F h16;refine mj (ι:=Bool) [] [] [] (fun i=>[(2,oB i)]) hM ?_ ?_
    ·intro e17 hM K19 hK19;exact au
    ·intro x5 hM;(try dsimp only at hM);exact au
   ·have F:=nf F h16;refine S1 ?_;refine Zj hM (fun h23 hM=> ?_) (fun h23 hM=> ?_)
    ·have F:=nf F h23;refine mj (ι:=Bool) [] [] [] (fun i=>[(2,oB i)]) hM ?_ ?_
     ·intro e24 hM K26 hK26;exact au
     ·intro x7 hM;(try dsimp only at hM);exact au
    ·have F:=nf F h23;refine S1 ?_;refine Zj hM (fun h29 hM=> ?_) (fun h29 hM=> ?_)
     ·have F:=nf F h29;refine mj (ι:=Bool) [] [] [] (fun i=>[(2,oB i)]) hM ?_ ?_
      ·intro e30 hM K32 hK32;exact au
      ·intro x8 hM;(try dsimp only at hM);exact au
     ·have F:=nf F h29;refine S1 ?_;refine Zj hM (fun h35 hM=> ?_) (fun h35 hM=> ?_)
      ·have F:=nf F h35;refine mj (ι:=Bool) [] [] [] (fun i=>[(2,oB i)]) hM ?_ ?_
       ·intro e36 hM K38 hK38;exact au
       ·intro x10 hM;(try dsimp only at hM);exact au
      ·have F:=nf F h35;refine mj (ι:=Bool) [1,3,8] [1] [] (fun i=>[(91,oB i)]) hM ?_ ?_
       ·intro e42 hM K44 hK44;exact au
       ·intro x12 hM;(try dsimp only at hM);refine Zj hM (fun h46 hM=> ?_) (fun h46 hM=> ?_)
        ·have F:=nf F h46;refine mj (ι:=Bool) [] [] [] (fun i=>[(2,oB i)]) hM ?_ ?_
         ·intro e47 hM K49 hK49;exact au
         ·intro x13 hM;(try dsimp only at hM);exact au
        ·have F:=nf F h46;refine S1 ?_;refine Zj hM (fun h53 hM=> ?_) (fun h53 hM=> ?_)
         ·have F:=nf F h53;refine mj (ι:=Bool) [] [] [] (fun i=>[(2,oB i)]) hM ?_ ?_
          ·intro e54 hM K56 hK56;exact au
          ·intro x15 hM;(try dsimp only at hM);exact au
         ·have F:=nf F h53;exact au
instance:HC 175 (Ty @ZdS):=⟨ZdS⟩
theorem ZjC:∀(k:Nat),(∀(a0:Zb) (r:Bool) (hM:Wj k a0=some r),Ctr Tryz.prog 123 [.agg (Zb.c a0)] true [.one (.bool r)]):=by
 intro k
 induction k with
 | zero=>intro a0 r hM;simp [Wj] at hM
 | succ k ih_s_l10All=>
  ·intro a0 r hM;haveI:HC 123 _:=⟨ih_s_l10All⟩;rw [Wj] at hM;refine Zn Tryz.func123 Tryz.ntmps123 Tryz.results123 fun N w0 hbad F=> ?_;refine S1 ?_;refine mjE (ι:=Unit) [1] [1] [] (fun i=>[]) hM ?_ ?_
   ·intro e1 hM hR1 K3 hK3;refine S1 ?_;refine Zc ?_;refine lp (ι:=Int) [1] [1] [] (fun i=>[(3,oI i)]) (fun n i=>Wz (Wj k) a0 n i=some e1) k 0 hM (by simp [Wz]) ?_;intro KL4 nL4 x1 hL4 hM _;have hM:Wz (Wj k) a0 (nL4+1) x1=some e1:=hM;rw [Wz] at hM;exact au
   ·intro _ hM;dsimp only at hM;exact au
theorem Zfm (k:Nat):∀(a0:Zb) (r:Bool) (hM:Wj k a0=some r),Ctr Tryz.prog 123 [.agg (Zb.c a0)] true [.one (.bool r)]:=(ZjC k)
instance:HC 123 (Ty @Zfm):=⟨Zfm⟩
theorem KF (k:Nat) (a0:Zb) (r:Bool) (hM:WV k a0=some r):Ctr Tryz.prog 70 [.agg (Zb.c a0)] true [.one (.bool r)]:=by
 unfold WV at hM;refine Zn Tryz.func70 Tryz.ntmps70 Tryz.results70 fun N w0 hbad F=> ?_;refine S1 ?_;refine mj (ι:=Bool) [] [] [] (fun i=>[(2,oB i)]) hM ?_ ?_
 ·intro e1 hM K3 hK3;exact au
 ·intro x1 hM;(try dsimp only at hM);exact au
instance:HC 70 (Ty @KF):=⟨KF⟩
theorem Jk (k:Nat) (a0:ByteArray) (r:Zb×Int) (hM:WB k a0=some r):Ctr Tryz.prog 111 [.one (.str a0)] false [.agg (Zb.c r.1),.one (.int .i64 r.2)]:=by
 unfold WB at hM;refine Zn Tryz.func111 Tryz.ntmps111 Tryz.results111 fun N w0 hbad F=> ?_;refine S1 ?_;obtain ⟨x1,e1,hM⟩:=bind_some hM;refine Zv fun K h=> ?_;simp [go_sem,F];refine Yl false (Kk k a0 x1 e1) ?_;simp [go_sem,F];refine h _ ?_;refine Ze fun K2 hK2=> ?_;refine S1 ?_;refine Zj hM (fun h3 hM=> ?_) (fun h3 hM=> ?_)
 ·have F:=Zyn (nf F h3) (eT h3);exact au
 ·have F:=Zyn (nf F h3) (eF h3);refine Zh ?_;refine hK2 _ ?_;refine S1 ?_;refine le1 [2,6] [2] [] ?_ (ch:=[(4,oL Zi.c x1.1)]) (cb:=[(21,[cL Zi.c x1.1,cI 0,cI (a0.size:Int),cI (-1)])]);obtain ⟨x2,e4,hM⟩:=bind_some hM;refine Zv fun K h=> ?_;simp [go_sem,F];refine ZF 0 (Zap k (Zf.mk x1.1 0 (a0.size:Int) (-1)) x2 e4) ?_;simp [go_sem,F];refine h _ ?_;refine mj (ι:=(List Zi)×Int×Int×Int) [2,6,7] [2,7] [] (fun i=>[]) hM ?_ ?_ (cb:=fun i=>[(21,[cL Zi.c i.1,cI i.2.1,cI i.2.2.1,cI i.2.2.2])])
  ·intro e5 hM K7 hK7;refine mj (ι:=Bool) [2,6,7] [2,7,21] [] (fun i=>[(37,oB i)]) hM ?_ ?_
   ·intro e8 hM K10 hK10;exact au
   ·intro x7 hM;(try dsimp only at hM);exact au
  ·rintro ⟨x3,x4,x5,x6⟩ hM;dsimp only at hM;refine Ze fun K14 hK14=> ?_;refine S1 ?_;refine Zj hM (fun h15 hM=> ?_) (fun h15 hM=> ?_)
   ·have F:=Zyn (nf F h15) (eT h15);refine Ze fun K16 hK16=> ?_;refine le1 [2,6] [2,21] [] ?_;refine ZE [[],[1000002],[1,1000002],[1,2,1000002],[1,2,3,1000002],[0],[0,1,2,3,4,5]] mixed (by kernel_rfl) ?_;simp [go_sem,F];refine ⟨Zp (by kernel_rfl), ?_⟩;exact au
   ·have F:=Zyn (nf F h15) (eF h15);exact au
instance:HC 111 (Ty @Jk):=⟨Jk⟩
end Go.Proofs.YtbkllghhcphkaaaGreatDoor
