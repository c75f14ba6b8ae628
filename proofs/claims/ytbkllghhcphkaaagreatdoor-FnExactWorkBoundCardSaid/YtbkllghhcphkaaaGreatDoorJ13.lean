import Derived.Test.YtbkllghhcphkaaaGreatDoorCt3
set_option linter.unusedSimpArgs false
set_option linter.unusedVariables false
namespace Go.Proofs.YtbkllghhcphkaaaGreatDoor
open Go.RowKit Am
set_option maxHeartbeats 4000000
set_option maxRecDepth 100000
theorem Jl (k:Nat) (a0:ByteArray) (r:Za×Bool) (hM:VV k a0=some r):Ctr Tryz.prog 114 [.one (.str a0)] true [.agg (Za.c r.1),.one (.bool r.2)]:=by
 unfold VV at hM;refine Zn Tryz.func114 Tryz.ntmps114 Tryz.results114 fun N w0 hbad F=> ?_;refine S1 ?_;obtain ⟨x1,e1,hM⟩:=bind_some hM;refine Zv fun K h=> ?_;simp [go_sem,F];refine Yl false (Uc k a0 x1 e1) ?_;simp [go_sem,F];refine h _ ?_;obtain ⟨x2,e2,hM⟩:=bind_some hM;have F:=Zyn F (Xy e2);have F:=Zyn F (show 0<x1.length by simpa using Zlk e2);have F:=Zyn F (ZuU 0 e2);obtain ⟨x3,e3,hM⟩:=bind_some hM;refine Zv fun K h=> ?_;simp [go_sem,F];refine Yl false (WA k x2 32 x3 e3) ?_;simp [go_sem,F];refine h _ ?_;refine mjE (ι:=List ZN) [2,5] [2] [896] (fun i=>[]) hM ?_ ?_ (cb:=fun i=>[(5,[cI 5,cI 0,cI 0,cS (⟨#[]⟩:ByteArray),.nil,.own 896 x3.length,.own 2624 i.length])]) (ca:=fun i=>[(2624,aT ZN.c i)])
 ·intro e4 hM hR1 K6 hK6;refine S1 ?_;refine Zc ?_;refine lp (ι:=(List ZN)×Int) [2,4,5] [2] [640,896] (fun i=>[(6,oI i.2)]) (fun n i=>YJ k x1 x3 n i.1 i.2=some e4) k ([],1) hM (by simp [YJ]) ?_ (cb:=fun i=>[(5,[cI 5,cI 0,cI 0,cS (⟨#[]⟩:ByteArray),.nil,.own 896 x3.length,.own 2624 i.1.length])]) (ca:=fun i=>[(2624,aT ZN.c i.1)]);intro KL7 nL7 ⟨x5,x6⟩ hL7 hM _;have hM:YJ k x1 x3 (nL7+1) x5 x6=some e4:=hM;rw [YJ] at hM;refine Ze fun K8 hK8=> ?_;refine S1 ?_;refine Zj hM (fun h9 hM=> ?_) (fun h9 hM=> ?_)
  ·have F:=Zyn (nf F h9) (lT h9);refine Zh ?_;refine hK8 _ ?_;refine Ze fun K10 hK10=> ?_;refine Zc ?_;refine Ze fun K11 hK11=> ?_;refine le1 [2,4,5,6] [2,5] [640,896,2624] ?_;obtain ⟨x7,e12,hM⟩:=bind_some hM;have F:=Zyn F (Xy e12);have F:=Zyn F (Zlk e12);obtain ⟨x8,e13,hM⟩:=bind_some hM;refine ZE [[],[],[0,1],[0,1,2],[],[4],[4,5],[0,1,2,3,4,5,6],[0,1,2,3,4,5,6,7],[0,1,2,3,4,5,6,7,8],[0,1,2,3,4,5,6,7,8],[0,1,2,3,4,5,6,7,8,9],[0,1,2,3,4,5,6,7,8,9,10,11]] mixed (by kernel_rfl) ?_;simp (maxSteps:=9999999) [go_sem,F];refine Yl false (JU k x7 (x3.length:Int) x8 e13) ?_;simp (maxSteps:=9999999) [go_sem,F];refine ⟨Zp (by kernel_rfl), ?_⟩;exact au
  ·have F:=Zyn (nf F h9) (lF h9);exact au
 ·intro x4 hM;dsimp only at hM;exact au
instance:HC 114 (Ty @Jl):=⟨Jl⟩
theorem Jp (k:Nat) (a0:ByteArray) (r:Int) (hM:Jq k a0=some r):Ctr Tryz.prog 115 [.one (.str a0)] true [.one (.int .i64 r)]:=by
 unfold Jq at hM;refine Zn Tryz.func115 Tryz.ntmps115 Tryz.results115 fun N w0 hbad F=> ?_;refine S1 ?_;obtain ⟨x1,e1,hM⟩:=bind_some hM;refine Zv fun K h=> ?_;simp [go_sem,F];refine Yl false (Uc k a0 x1 e1) ?_;simp [go_sem,F];refine h _ ?_;obtain ⟨x2,e2,hM⟩:=bind_some hM;have F:=Zyn F (Xy e2);have F:=Zyn F (show 0<x1.length by simpa using Zlk e2);have F:=Zyn F (ZuU 0 e2);obtain ⟨x3,e3,hM⟩:=bind_some hM;refine Zv fun K h=> ?_;simp [go_sem,F];refine Yl false (WA k x2 32 x3 e3) ?_;simp [go_sem,F];refine h _ ?_;refine Ze fun K4 hK4=> ?_;obtain ⟨x4,e5,hM⟩:=bind_some hM;refine Zv fun K h=> ?_;simp [go_sem,F];refine Yl false (Jf k x3 x4 e5) ?_;simp [go_sem,F];refine h _ ?_;refine Zj hM (fun h6 hM=> ?_) (fun h6 hM=> ?_)
 ·have F:=nf F h6;exact au
 ·have F:=nf F h6;refine Zh ?_;refine hK4 _ ?_;refine mjE (ι:=Unit) [] [] [] (fun i=>[]) hM ?_ ?_
  ·intro e7 hM hR1 K9 hK9;refine S1 ?_;refine Zc ?_;refine lp (ι:=Int) [3,4] [] [576,832] (fun i=>[(5,oI i)]) (fun n i=>YK k x1 x3 n i=some e7) k 1 hM (by simp [YK]) ?_;intro KL10 nL10 x5 hL10 hM _;have hM:YK k x1 x3 (nL10+1) x5=some e7:=hM;rw [YK] at hM;refine Ze fun K11 hK11=> ?_;refine S1 ?_;refine Zj hM (fun h12 hM=> ?_) (fun h12 hM=> ?_)
   ·have F:=Zyn (nf F h12) (lT h12);refine Zh ?_;refine hK11 _ ?_;refine Ze fun K13 hK13=> ?_;refine Zc ?_;obtain ⟨x6,e14,hM⟩:=bind_some hM;have F:=Zyn F (Xy e14);have F:=Zyn F (Zlk e14);obtain ⟨x7,e15,hM⟩:=bind_some hM;refine Zv fun K h=> ?_;simp [go_sem,F];refine Yl false (JU k x6 (x3.length:Int) x7 e15) ?_;simp [go_sem,F];refine h _ ?_;refine mj (ι:=Bool) [3,4,5] [] [576,832] (fun i=>[(38,oB i)]) hM ?_ ?_
    ·intro e16 hM K18 hK18;exact au
    ·intro x8 hM;(try dsimp only at hM);exact au
   ·have F:=Zyn (nf F h12) (lF h12);exact au
  ·intro _ hM;dsimp only at hM;exact au
instance:HC 115 (Ty @Jp):=⟨Jp⟩
theorem ZcR (a0:ZN) (r:ZN) (hM:ZeC a0=some r):Ctr Tryz.prog 174 [.agg (ZN.c a0)] true [.agg (ZN.c r)]:=by
 unfold ZeC at hM;refine Zn Tryz.func174 Tryz.ntmps174 Tryz.results174 fun N w0 hbad F=> ?_;refine S1 ?_;refine Ze fun K1 hK1=> ?_;refine le1 [1,2] [1,2] [] ?_;obtain ⟨x1,e2,hM⟩:=bind_some hM;obtain ⟨c3,s4⟩:=ZG e2;replace c3:=c3.symm;subst c3;(try simp at s4);have F:=Zyn F s4;obtain ⟨x2,e6,hM⟩:=bind_some hM;obtain ⟨c7,s8⟩:=ZG e6;replace c7:=c7.symm;subst c7;(try simp at s8);have F:=Zyn F s8;refine ZE [[],[],[1],[0,1,2],[],[10000192],[5],[0,1,2,3,4,5,6],[0,1,2,3,4,5,6,7],[0,1,2,3,4,5,6,7,8]] mixed (by kernel_rfl) ?_;simp [go_sem,F];refine ⟨Zp (by kernel_rfl), ?_⟩;exact au
instance:HC 174 (Ty @ZcR):=⟨ZcR⟩
theorem ZjA:∀(k:Nat),(∀(a0:Za) (r:Za) (hM:Va k a0=some r),Ctr Tryz.prog 118 [.agg (Za.c a0)] true [.agg (Za.c r)]):=by
 intro k
 induction k with
 | zero=>intro a0 r hM;simp [Va] at hM
 | succ k ih_s_l3Copy=>
  ·intro a0 r hM;haveI:HC 118 _:=⟨ih_s_l3Copy⟩;rw [Va] at hM;refine Zn Tryz.func118 Tryz.ntmps118 Tryz.results118 fun N w0 hbad F=> ?_;refine S1 ?_;refine Ze fun K1 hK1=> ?_;refine le1 [1,2] [1,2] [] ?_;obtain ⟨x1,e2,hM⟩:=bind_some hM;obtain ⟨c3,s4⟩:=ZG e2;replace c3:=c3.symm;subst c3;(try simp at s4);have F:=Zyn F s4;refine ZE [[10000896],[0],[10000896],[2],[10000896],[4],[10000896],[6],[],[],[9],[8,9,10],[0,1,2,3,4,5,6,7,8,9,10,11],[],[0,1,2,3,4,5,6,7,8,9,10,11,12,13]] mixed (by kernel_rfl) ?_;simp (maxSteps:=9999999) [go_sem,F];refine ⟨Zp (by kernel_rfl), ?_⟩;refine hK1 _ ?_;refine mj (ι:=List Za) [1,2,3] [1,2] [] (fun i=>[]) hM ?_ ?_ (cb:=fun i=>[(3,[cI a0.kind,cI a0.n,cI a0.step,cS a0.text,.own 2240 i.length,.own 896 ((([]:List ByteArray)++a0.columns).length),.nil])]) (ca:=fun i=>[(896,aT sC (([]:List ByteArray)++a0.columns)),(2240,aT Za.c i)])
   ·intro e6 hM K8 hK8;refine S1 ?_;refine Zc ?_;refine lp (ι:=(List Za)×Int) [1,2,3] [1,2] [] (fun i=>[(4,oI i.2)]) (fun n i=>Ws (Va k) a0 n i.1 i.2=some e6) k ([],0) hM (by simp [Ws]) ?_ (cb:=fun i=>[(3,[cI a0.kind,cI a0.n,cI a0.step,cS a0.text,.own 2240 i.1.length,.own 896 ((([]:List ByteArray)++a0.columns).length),.nil])]) (ca:=fun i=>[(896,aT sC (([]:List ByteArray)++a0.columns)),(2240,aT Za.c i.1)]);intro KL9 nL9 ⟨x3,x4⟩ hL9 hM _;have hM:Ws (Va k) a0 (nL9+1) x3 x4=some e6:=hM;rw [Ws] at hM;refine Ze fun K10 hK10=> ?_;refine S1 ?_;refine Zj hM (fun h11 hM=> ?_) (fun h11 hM=> ?_)
    ·have F:=Zyn (nf F h11) (lT h11);refine Zh ?_;refine hK10 _ ?_;refine Ze fun K12 hK12=> ?_;refine Zc ?_;refine le1 [1,2,3,4] [1,2,3] [2240] ?_ (ca:=[(896,aT sC (([]:List ByteArray)++a0.columns))]);obtain ⟨x5,e13,hM⟩:=bind_some hM;have F:=Zyn F (Xy e13);obtain ⟨x6,e14,hM⟩:=bind_some hM;obtain ⟨x7,e15,hM⟩:=bind_some hM;obtain ⟨c16,s17⟩:=ZG e15;replace c16:=c16.symm;subst c16;(try simp at s17);have F:=Zyn F s17;refine ZE [[10002112,10002113,10002114],[0],[],[2],[],[2,3,4],[2,3,4,5],[2,3,4,5,6],[2,3,4,5,6,7],[0,1,2,3,4,5,6,7,8],[0,1,2,3,4,5,6,7,8,9],[0,1,2,3,4,5,6,7,8,9,10]] mixed (by kernel_rfl) ?_;simp [go_sem,F];refine Yl false (ih_s_l3Copy x5 x6 e14) ?_;simp [go_sem,F];refine ⟨Zp (by kernel_rfl), ?_⟩;exact au
    ·have F:=Zyn (nf F h11) (lF h11);exact au
   ·intro x2 hM;(try dsimp only at hM);refine mj (ι:=List ZN) [2,3] [2] [2240] (fun i=>[]) hM ?_ ?_ (cb:=fun i=>[(3,[cI a0.kind,cI a0.n,cI a0.step,cS a0.text,.own 2240 x2.length,.own 896 ((([]:List ByteArray)++a0.columns).length),.own 3392 i.length])]) (ca:=fun i=>[(896,aT sC (([]:List ByteArray)++a0.columns)),(3392,aT ZN.c i)])
    ·intro e19 hM K21 hK21;refine S1 ?_;refine Zc ?_;refine lp (ι:=(List ZN)×Int) [1,2,3] [1,2] [2240] (fun i=>[(5,oI i.2)]) (fun n i=>Wr a0 n i.1 i.2=some e19) k ([],0) hM (by simp [Wr]) ?_ (cb:=fun i=>[(3,[cI a0.kind,cI a0.n,cI a0.step,cS a0.text,.own 2240 x2.length,.own 896 ((([]:List ByteArray)++a0.columns).length),.own 3392 i.1.length])]) (ca:=fun i=>[(896,aT sC (([]:List ByteArray)++a0.columns)),(3392,aT ZN.c i.1)]);intro KL22 nL22 ⟨x9,x10⟩ hL22 hM _;have hM:Wr a0 (nL22+1) x9 x10=some e19:=hM;rw [Wr] at hM;refine Ze fun K23 hK23=> ?_;refine S1 ?_;refine Zj hM (fun h24 hM=> ?_) (fun h24 hM=> ?_)
     ·have F:=Zyn (nf F h24) (lT h24);refine Zh ?_;refine hK23 _ ?_;refine Ze fun K25 hK25=> ?_;refine Zc ?_;refine le1 [1,2,3,5] [1,2,3] [2240,3392] ?_ (ca:=[(896,aT sC (([]:List ByteArray)++a0.columns))]);obtain ⟨x11,e26,hM⟩:=bind_some hM;have F:=Zyn F (Xy e26);obtain ⟨x12,e27,hM⟩:=bind_some hM;obtain ⟨x13,e28,hM⟩:=bind_some hM;obtain ⟨c29,s30⟩:=ZG e28;replace c29:=c29.symm;subst c29;(try simp at s30);have F:=Zyn F s30;refine ZE [[10003264,10003265],[0],[],[2],[],[2,3,4],[2,3,4,5],[2,3,4,5,6],[2,3,4,5,6,7],[0,1,2,3,4,5,6,7,8],[0,1,2,3,4,5,6,7,8,9],[0,1,2,3,4,5,6,7,8,9,10]] mixed (by kernel_rfl) ?_;simp [go_sem,F];refine Yl false (ZcR x11 x12 e27) ?_;simp [go_sem,F];refine ⟨Zp (by kernel_rfl), ?_⟩;exact au
     ·have F:=Zyn (nf F h24) (lF h24);exact au
    ·intro x8 hM;(try dsimp only at hM);exact au
theorem Zbz (k:Nat):∀(a0:Za) (r:Za) (hM:Va k a0=some r),Ctr Tryz.prog 118 [.agg (Za.c a0)] true [.agg (Za.c r)]:=(ZjA k)
instance:HC 118 (Ty @Zbz):=⟨Zbz⟩
theorem VT (k:Nat) (a0:Int) (a1:Za) (r:Za) (hM:Vt k a0 a1=some r):Ctr Tryz.prog 116 [.one (.int .i64 a0),.agg (Za.c a1)] true [.agg (Za.c r)]:=by
 unfold Vt at hM;refine Zn Tryz.func116 Tryz.ntmps116 Tryz.results116 fun N w0 hbad F=> ?_;refine S1 ?_;refine Ze fun K1 hK1=> ?_;refine mj (ι:=Bool) [0,3,4] [3,4] [] (fun i=>[(18,oB i)]) hM ?_ ?_
 ·intro e2 hM K4 hK4;exact au
 ·intro x1 hM;(try dsimp only at hM);refine Zj hM (fun h8 hM=> ?_) (fun h8 hM=> ?_)
  ·have F:=nf F h8;exact au
  ·have F:=nf F h8;refine Zh ?_;refine hK1 _ ?_;obtain ⟨x4,e10,hM⟩:=bind_some hM;refine Zv fun K h=> ?_;simp [go_sem,F];refine Yl false (Zbz k a1 x4 e10) ?_;simp [go_sem,F];refine h _ ?_;refine mj (ι:=List ZN) [4,5] [4] [1344,1345] (fun i=>[]) hM ?_ ?_ (cb:=fun i=>[(5,[cI x4.kind,cI x4.n,cI x4.step,cS x4.text,.own 1344 x4.list.length,.own 1345 x4.columns.length,.own 1346 i.length])]) (ca:=fun i=>[(1346,aT ZN.c i)])
   ·intro e11 hM K13 hK13;refine S1 ?_;refine Zc ?_;refine lp (ι:=(List ZN)×Int) [0,4,5] [4] [1344,1345] (fun i=>[(6,oI i.2)]) (fun n i=>ZX a0 n i.1 i.2=some e11) k (x4.rows,0) hM (by simp [ZX]) ?_ (cb:=fun i=>[(5,[cI x4.kind,cI x4.n,cI x4.step,cS x4.text,.own 1344 x4.list.length,.own 1345 x4.columns.length,.own 1346 i.1.length])]) (ca:=fun i=>[(1346,aT ZN.c i.1)]);intro KL14 nL14 ⟨x6,x7⟩ hL14 hM _;have hM:ZX a0 (nL14+1) x6 x7=some e11:=hM;rw [ZX] at hM;exact au
   ·intro x5 hM;(try dsimp only at hM);exact au
instance:HC 116 (Ty @VT):=⟨VT⟩
theorem KH (k:Nat) (a0:Zk) (r:Zq) (hM:Yp k a0=some r):Ctr Tryz.prog 63 [.agg (Zk.c a0)] false [.agg (Zq.c r)]:=by
 unfold Yp at hM;refine Zn Tryz.func63 Tryz.ntmps63 Tryz.results63 fun N w0 hbad F=> ?_;refine S1 ?_;refine Ze fun K1 hK1=> ?_;obtain ⟨x1,e2,hM⟩:=bind_some hM;refine Zv fun K h=> ?_;simp [go_sem,F];refine Yl false (XB k a0 x1 e2) ?_;simp [go_sem,F];refine h _ ?_;refine Zj hM (fun h3 hM=> ?_) (fun h3 hM=> ?_)
 ·have F:=nf F h3;exact au
 ·have F:=nf F h3;refine Zh ?_;refine hK1 _ ?_;refine Ze fun K4 hK4=> ?_;refine S1 ?_;refine Zc ?_;refine S1 ?_;refine Zj hM (fun h5 hM=> ?_) (fun h5 hM=> ?_)
  ·have F:=nf F h5;obtain ⟨x2,e6,hM⟩:=bind_some hM;refine Zv fun K h=> ?_;simp [go_sem,F];refine Yl false (Jk k a0.code x2 e6) ?_;simp [go_sem,F];refine h _ ?_;refine Ze fun K7 hK7=> ?_;refine S1 ?_;refine Zj hM (fun h8 hM=> ?_) (fun h8 hM=> ?_)
   ·have F:=Zyn (nf F h8) (eT h8);refine Ze fun K9 hK9=> ?_;refine le1 [1,2,4] [1,2] [] ?_;obtain ⟨x3,e10,hM⟩:=bind_some hM;refine ZE [[],[0],[],[],[0,1,2,3],[0,1,2,3,4]] mixed (by kernel_rfl) ?_;simp [go_sem,F];refine Yl false (Vb 8 x3 e10) ?_;simp [go_sem,F];refine ⟨Zp (by kernel_rfl), ?_⟩;refine hK9 _ ?_;obtain rfl:=si hM;refine le1 [2] [] [] ?_ (cb:=[(2,[cI 4,cS a0.name,cI 0,cI 0,cS (⟨#[]⟩:ByteArray),.nil,cI x3.kind,cI x3.n,cI x3.step,cS x3.text,cL Za.c x3.list,cL sC x3.columns,cL ZN.c x3.rows,cI x2.2])]);exact au
   ·have F:=Zyn (nf F h8) (eF h8);exact au
  ·have F:=nf F h5;refine S1 ?_;refine Zj hM (fun h11 hM=> ?_) (fun h11 hM=> ?_)
   ·have F:=nf F h11;refine Ze fun K12 hK12=> ?_;refine le1 [1,2] [1,2] [] ?_;obtain ⟨x4,e13,hM⟩:=bind_some hM;refine ZE [[],[0],[],[2],[2,3],[0,1,2,3,4],[0,1,2,3,4,5]] mixed (by kernel_rfl) ?_;simp [go_sem,F];refine Yl false (VW a0.n x4 e13) ?_;simp [go_sem,F];refine ⟨Zp (by kernel_rfl), ?_⟩;refine hK12 _ ?_;obtain rfl:=si hM;refine le1 [2] [] [] ?_ (cb:=[(2,[cI 3,cS a0.name,cI 0,cI 0,cS (⟨#[]⟩:ByteArray),.nil,cI x4.kind,cI x4.n,cI x4.step,cS x4.text,cL Za.c x4.list,cL sC x4.columns,cL ZN.c x4.rows,cI 0])]);exact au
   ·have F:=nf F h11;refine S1 ?_;refine Zj hM (fun h14 hM=> ?_) (fun h14 hM=> ?_)
    ·have F:=nf F h14;obtain ⟨x5,e15,hM⟩:=bind_some hM;refine Zv fun K h=> ?_;simp [go_sem,F];refine Yl false (Jl k a0.code x5 e15) ?_;simp [go_sem,F];refine h _ ?_;refine Ze fun K16 hK16=> ?_;refine S1 ?_;refine Zj hM (fun h17 hM=> ?_) (fun h17 hM=> ?_)
     ·have F:=nf F h17;refine Ze fun K18 hK18=> ?_;refine le1 [1,2] [1,2] [] ?_;obtain ⟨x6,e19,hM⟩:=bind_some hM;obtain ⟨x7,e20,hM⟩:=bind_some hM;refine ZE [[],[0],[],[],[3],[2,3,4],[0,1,2,3,4,5],[0,1,2,3,4,5,6]] mixed (by kernel_rfl) ?_;simp [go_sem,F];refine Yl false (Vb 8 x6 e19) ?_;simp [go_sem,F];refine Yl false (Jp k a0.code x7 e20) ?_;simp [go_sem,F];refine ⟨Zp (by kernel_rfl), ?_⟩;refine hK18 _ ?_;obtain rfl:=si hM;refine le1 [2] [] [] ?_ (cb:=[(2,[cI 4,cS a0.name,cI 0,cI 0,cS (⟨#[]⟩:ByteArray),.nil,cI x6.kind,cI x6.n,cI x6.step,cS x6.text,cL Za.c x6.list,cL sC x6.columns,cL ZN.c x6.rows,cI x7])]);exact au
     ·have F:=nf F h17;refine Zh ?_;refine hK16 _ ?_;refine Ze fun K21 hK21=> ?_;refine le1 [1,2,5] [1,2,5] [2880,2881,2882] ?_;obtain ⟨x8,e22,hM⟩:=bind_some hM;refine ZE [[],[0],[],[2],[],[2,3,4],[0,1,2,3,4,5],[0,1,2,3,4,5,6]] mixed (by kernel_rfl) ?_;simp [go_sem,F];refine Yl false (VT k a0.id x5.1 x8 e22) ?_;simp [go_sem,F];refine ⟨Zp (by kernel_rfl), ?_⟩;refine hK21 _ ?_;obtain rfl:=si hM;refine le1 [2] [] [] ?_ (cb:=[(2,[cI 3,cS a0.name,cI 0,cI 0,cS (⟨#[]⟩:ByteArray),.nil,cI x8.kind,cI x8.n,cI x8.step,cS x8.text,cL Za.c x8.list,cL sC x8.columns,cL ZN.c x8.rows,cI 0])]);exact au
    ·have F:=nf F h14;exact au
instance:HC 63 (Ty @KH):=⟨KH⟩
theorem UD (k:Nat) (a0:Zd) (r:List Zq) (hM:Us k a0=some r):Ctr Tryz.prog 22 [.agg (Zd.c a0)] false [.one (.sl (r.map Zq.c))]:=by
 unfold Us at hM;refine Zn Tryz.func22 Tryz.ntmps22 Tryz.results22 fun N w0 hbad F=> ?_;refine S1 ?_;refine S1 ?_;refine Ze fun K1 hK1=> ?_;obtain ⟨x1,e2,hM⟩:=bind_some hM;refine Zv fun K h=> ?_;simp [go_sem,F];refine Yl false (WC k a0 x1 e2) ?_;simp [go_sem,F];refine h _ ?_;refine Zj hM (fun h3 hM=> ?_) (fun h3 hM=> ?_)
 ·have F:=nf F h3;refine S1 ?_;obtain rfl:=si hM;refine le1 [] [] [] ?_ (ch:=[(2,oL Zq.c ([]:List Zq))]);exact au
 ·have F:=nf F h3;refine Zh ?_;refine hK1 _ ?_;refine mj (ι:=List Zq) [] [] [] (fun i=>[(3,oO 320 i.length)]) hM ?_ ?_ (ca:=fun i=>[(320,aF Zq.c i)])
  ·intro e4 hM K6 hK6;refine S1 ?_;refine Zc ?_;refine Zql [320] (O':=⟨27,[(1,.one (.box 1 0)),(3,.one (.own 320 (([]:List Zq).length))),(4,.one (.l (.int .i64 0)))],[(1,[.l (.sl (a0.cells.map Zk.c))])],[(320,some ⟨false,([]:List Zq).map Zq.c⟩)]⟩) ?_;refine lp (ι:=(List Zq)×Int) [1] [1] [] (fun i=>[(3,oO 320 i.1.length),(4,oI i.2)]) (fun n i=>Qi k a0 n i.1 i.2=some e4) k (([]:List Zq),0) hM (by simp [Qi]) ?_ (ca:=fun i=>[(320,aF Zq.c i.1)]);intro KL7 nL7 ⟨x3,x4⟩ hL7 hM _;have hM:Qi k a0 (nL7+1) x3 x4=some e4:=hM;rw [Qi] at hM;exact au
  ·intro x2 hM;(try dsimp only at hM);refine S1 ?_;obtain rfl:=si hM;refine le1 [] [] [] ?_ (ch:=[(2,oL Zq.c x2)]);exact au
instance:HC 22 (Ty @UD):=⟨UD⟩
theorem Zim:∀(k:Nat),(∀(a0:Zb) (a1:List ByteArray) (r:List ByteArray) (hM:QY k a0 a1=some r),Ctr Tryz.prog 149 [.agg (Zb.c a0),.one (.sl (a1.map sC))] true [.one (.sl (r.map sC))]):=by
 intro k
 induction k with
 | zero=>intro a0 a1 r hM;simp [QY] at hM
 | succ k ih_s_l13Free=>
  ·intro a0 a1 r hM;haveI:HC 149 _:=⟨ih_s_l13Free⟩;rw [QY] at hM;refine Zn Tryz.func149 Tryz.ntmps149 Tryz.results149 fun N w0 hbad F=> ?_;refine S1 ?_;refine S1 ?_;refine Ze fun K1 hK1=> ?_;refine mj (ι:=Bool) [1,2,5] [2] [512] (fun i=>[(18,oB i)]) hM ?_ ?_
   ·intro e2 hM K4 hK4;exact au
   ·intro x1 hM;(try dsimp only at hM);refine Zj hM (fun h7 hM=> ?_) (fun h7 hM=> ?_)
    ·have F:=nf F h7;exact au
    ·have F:=nf F h7;refine Zh ?_;refine hK1 _ ?_;refine mj (ι:=List ByteArray) [] [] [] (fun i=>[(5,oO 512 i.length)]) hM ?_ ?_ (ca:=fun i=>[(512,aT sC i)])
     ·intro e12 hM K14 hK14;refine S1 ?_;refine Zc ?_;refine lp (ι:=(List ByteArray)×Int) [1,2] [2] [] (fun i=>[(5,oO 512 i.1.length),(6,oI i.2)]) (fun n i=>Qh (QY k) a0 a1 n i.1 i.2=some e12) k (([]:List ByteArray),0) hM (by simp [Qh]) ?_ (ca:=fun i=>[(512,aT sC i.1)]);intro KL15 nL15 ⟨x5,x6⟩ hL15 hM _;have hM:Qh (QY k) a0 a1 (nL15+1) x5 x6=some e12:=hM;rw [Qh] at hM;refine Ze fun K16 hK16=> ?_;refine S1 ?_;refine Zj hM (fun h17 hM=> ?_) (fun h17 hM=> ?_)
      ·have F:=Zyn (nf F h17) (lT h17);refine Zh ?_;refine hK16 _ ?_;refine Ze fun K18 hK18=> ?_;refine Zc ?_;refine S1 ?_;refine mj (ι:=List ByteArray) [1,2,5,6] [2] [512] (fun i=>[(7,oL sC i)]) hM ?_ ?_
       ·intro e19 hM K21 hK21;refine mj (ι:=Bool) [1,2,5,6,7] [2] [512] (fun i=>[(43,oB i)]) hM ?_ ?_
        ·intro e22 hM K24 hK24;exact au
        ·intro x8 hM;(try dsimp only at hM);refine Zj hM (fun h27 hM=> ?_) (fun h27 hM=> ?_)
         ·have F:=nf F h27;refine le1 [1,2,5,6] [2] [512] ?_;obtain ⟨x9,e28,hM⟩:=bind_some hM;obtain ⟨c29,s30⟩:=ZG e28;replace c29:=c29.symm;subst c29;(try simp at s30);have F:=Zyn F s30;obtain ⟨x10,e32,hM⟩:=bind_some hM;obtain ⟨c33,s34⟩:=ZG e32;replace c33:=c33.symm;subst c33;(try simp at s34);have F:=Zyn F s34;refine ZE [[],[],[0,1],[10002816],[3],[3,4],[0,1,2,3,4,5],[0,1,2,3,4,5,6]] mixed (by kernel_rfl) ?_;simp [go_sem,F];refine ⟨Zp (by kernel_rfl), ?_⟩;exact au
         ·have F:=nf F h27;exact au
       ·intro x7 hM;(try dsimp only at hM);exact au
      ·have F:=Zyn (nf F h17) (lF h17);exact au
     ·intro x4 hM;(try dsimp only at hM);exact au
theorem ZdQ (k:Nat):∀(a0:Zb) (a1:List ByteArray) (r:List ByteArray) (hM:QY k a0 a1=some r),Ctr Tryz.prog 149 [.agg (Zb.c a0),.one (.sl (a1.map sC))] true [.one (.sl (r.map sC))]:=(Zim k)
instance:HC 149 (Ty @ZdQ):=⟨ZdQ⟩
theorem ZbE (k:Nat) (a0:List ByteArray) (r:List ByteArray) (hM:VU k a0=some r):Ctr Tryz.prog 148 [.one (.sl (a0.map sC))] true [.one (.sl (r.map sC))]:=by
 unfold VU at hM;refine Zn Tryz.func148 Tryz.ntmps148 Tryz.results148 fun N w0 hbad F=> ?_;refine S1 ?_;refine S1 ?_;refine mj (ι:=List ByteArray) [] [] [] (fun i=>[(3,oO 448 i.length)]) hM ?_ ?_ (ca:=fun i=>[(448,aT sC i)])
 ·intro e1 hM K3 hK3;refine S1 ?_;refine Zc ?_;refine lp (ι:=(List ByteArray)×Int) [0] [] [] (fun i=>[(3,oO 448 i.1.length),(4,oI i.2)]) (fun n i=>QI k a0 n i.1 i.2=some e1) k (([]:List ByteArray),0) hM (by simp [QI]) ?_ (ca:=fun i=>[(448,aT sC i.1)]);intro KL4 nL4 ⟨x2,x3⟩ hL4 hM _;have hM:QI k a0 (nL4+1) x2 x3=some e1:=hM;rw [QI] at hM;refine Ze fun K5 hK5=> ?_;refine S1 ?_;refine Zj hM (fun h6 hM=> ?_) (fun h6 hM=> ?_)
  ·have F:=Zyn (nf F h6) (lT h6);refine Zh ?_;refine hK5 _ ?_;refine mj (ι:=List ByteArray) [0,4] [] [] (fun i=>[(3,oO 448 i.length)]) hM ?_ ?_ (ca:=fun i=>[(448,aT sC i)])
   ·intro e7 hM K9 hK9;refine Zc ?_;refine S1 ?_;refine mj (ι:=Int) [0,3,4] [] [448] (fun i=>[(5,oI i)]) hM ?_ ?_
    ·intro e10 hM K12 hK12;refine Zc ?_;refine lp (ι:=Int) [0,3,4] [] [448] (fun i=>[(5,oI i)]) (fun n i=>QH a0 x2 x3 n i=some e10) k 0 hM (by simp [QH]) ?_;intro KL13 nL13 x6 hL13 hM _;have hM:QH a0 x2 x3 (nL13+1) x6=some e10:=hM;rw [QH] at hM;refine Ze fun K14 hK14=> ?_;refine mj (ι:=Bool) [0,3,4,5] [] [448] (fun i=>[(28,oB i)]) hM ?_ ?_
     ·intro e15 hM K17 hK17;rcases ifM hM with ⟨h18,hM⟩| ⟨h18,hM⟩
      ·have F:=Zyn (nf F h18) (lT h18);obtain ⟨x8,e19,hM⟩:=bind_some hM;have F:=Zyn F (Xy e19);have F:=Zyn F (Zlk e19);obtain ⟨x9,e20,hM⟩:=bind_some hM;have F:=Zyn F (Xy e20);refine Zt 13 mixed (by kernel_rfl) (by kernel_rfl) ?_;simp [go_sem,F];exact au
      ·have F:=Zyn (nf F h18) (lF h18);refine Zt 13 mixed (by kernel_rfl) (by kernel_rfl) ?_;simp [go_sem,F];exact au
     ·intro x7 hM;(try dsimp only at hM);exact au
    ·intro x5 hM;(try dsimp only at hM);refine Ze fun K22 hK22=> ?_;refine mj (ι:=Bool) [0,3,4,5] [] [448] (fun i=>[(45,oB i)]) hM ?_ ?_
     ·intro e23 hM K25 hK25;rcases ifM hM with ⟨h26,hM⟩| ⟨h26,hM⟩
      ·have F:=Zyn (nf F h26) (lT h26);obtain ⟨x11,e27,hM⟩:=bind_some hM;have F:=Zyn F (Xy e27);have F:=Zyn F (Zlk e27);obtain ⟨x12,e28,hM⟩:=bind_some hM;have F:=Zyn F (Xy e28);refine Zt 13 mixed (by kernel_rfl) (by kernel_rfl) ?_;simp [go_sem,F];exact au
      ·have F:=Zyn (nf F h26) (lF h26);refine Zt 13 mixed (by kernel_rfl) (by kernel_rfl) ?_;simp [go_sem,F];exact au
     ·intro x10 hM;(try dsimp only at hM);refine Zj hM (fun h29 hM=> ?_) (fun h29 hM=> ?_)
      ·have F:=nf F h29;exact au
      ·have F:=nf F h29;refine Zh ?_;refine hK22 _ ?_;obtain ⟨x13,e30,hM⟩:=bind_some hM;obtain ⟨c31,s32⟩:=Zic e30;replace c31:=c31.symm;subst c31;(try simp at s32);have F:=Zyn F s32;obtain ⟨x14,e37,hM⟩:=bind_some hM;obtain ⟨c38,s39⟩:=ZG e37;replace c38:=c38.symm;subst c38;(try simp [F] at s39);have F:=Zyn F s39;refine S1 ?_;refine le1 [0,3,4,5,6] [] [448] ?_ (ca:=[(2944,aT sC (([]:List ByteArray)++((x2.take (x2.length:Int).toNat).drop x5.toNat)))]);obtain ⟨x15,e41,hM⟩:=bind_some hM;obtain ⟨c42,s43⟩:=Zic e41;replace c42:=c42.symm;subst c42;(try simp at s43);have F:=Zyn F s43;obtain ⟨x16,e48,hM⟩:=bind_some hM;have F:=Zyn F (Xy e48);obtain ⟨x17,e49,hM⟩:=bind_some hM;obtain ⟨c50,s51⟩:=ZG e49;replace c50:=c50.symm;subst c50;(try simp [F] at s51);have F:=Zyn F s51;obtain ⟨x18,e53,hM⟩:=bind_some hM;obtain ⟨c54,s55⟩:=ZG e53;replace c54:=c54.symm;subst c54;(try simp [F] at s55);have F:=Zyn F s55;refine ZE [[],[],[0,1],[],[],[3,4],[3,4,5],[3,4,5,6],[0,1,2,3,4,5,6,7],[10000448],[0,1,2,3,4,5,6,7,8,9],[0,1,2,3,4,5,6,7,8,9,10]] mixed (by kernel_rfl) ?_;simp [go_sem,F];refine ⟨Zp (by kernel_rfl), ?_⟩;obtain rfl:=si hM;exact fr hK9 [(3776,448)] [0,3,4] [] [3776] ((((x2.take x5.toNat).drop (0:Int).toNat)++[x16])++(([]:List ByteArray)++((x2.take (x2.length:Int).toNat).drop x5.toNat))) rfl
   ·intro x4 hM;(try dsimp only at hM);exact au
  ·have F:=Zyn (nf F h6) (lF h6);exact au
 ·intro x1 hM;(try dsimp only at hM);exact au
instance:HC 148 (Ty @ZbE):=⟨ZbE⟩
theorem ZbG (k:Nat) (a0:Zb) (r:List ByteArray) (hM:Zat k a0=some r):Ctr Tryz.prog 98 [.agg (Zb.c a0)] true [.one (.sl (r.map sC))]:=by
 unfold Zat at hM;refine Zn Tryz.func98 Tryz.ntmps98 Tryz.results98 fun N w0 hbad F=> ?_;exact au
instance:HC 98 (Ty @ZbG):=⟨ZbG⟩
theorem JW (k:Nat) (a0:Zq) (r:List ByteArray) (hM:JX k a0=some r):Ctr Tryz.prog 47 [.agg (Zq.c a0)] true [.one (.sl (r.map sC))]:=by
 unfold JX at hM;refine Zn Tryz.func47 Tryz.ntmps47 Tryz.results47 fun N w0 hbad F=> ?_;exact au
instance:HC 47 (Ty @JW):=⟨JW⟩
theorem ZcD (k:Nat) (a0:List Zq) (a1:ByteArray) (r:List Int) (hM:WX k a0 a1=some r):Ctr Tryz.prog 125 [.one (.sl (a0.map Zq.c)),.one (.str a1)] true [.one (.sl (r.map iC))]:=by
 unfold WX at hM;refine Zn Tryz.func125 Tryz.ntmps125 Tryz.results125 fun N w0 hbad F=> ?_;refine S1 ?_;refine S1 ?_;refine mj (ι:=List Int) [] [] [] (fun i=>[(5,oO 448 i.length)]) hM ?_ ?_ (ca:=fun i=>[(448,aT iC i)])
 ·intro e1 hM K3 hK3;refine S1 ?_;refine Zc ?_;refine lp (ι:=(List Int)×Int) [0,1] [] [] (fun i=>[(5,oO 448 i.1.length),(6,oI i.2)]) (fun n i=>Qa a0 a1 n i.1 i.2=some e1) k (([]:List Int),0) hM (by simp [Qa]) ?_ (ca:=fun i=>[(448,aT iC i.1)]);intro KL4 nL4 ⟨x2,x3⟩ hL4 hM _;have hM:Qa a0 a1 (nL4+1) x2 x3=some e1:=hM;rw [Qa] at hM;refine Ze fun K5 hK5=> ?_;refine S1 ?_;refine Zj hM (fun h6 hM=> ?_) (fun h6 hM=> ?_)
  ·have F:=Zyn (nf F h6) (lT h6);refine Zh ?_;refine hK5 _ ?_;refine mj (ι:=List Int) [0,1,6] [] [] (fun i=>[(5,oO 448 i.length)]) hM ?_ ?_ (ca:=fun i=>[(448,aT iC i)])
   ·intro e7 hM K9 hK9;refine Zc ?_;refine mj (ι:=Bool) [0,1,5,6] [] [448] (fun i=>[(28,oB i)]) hM ?_ ?_
    ·intro e10 hM K12 hK12;exact au
    ·intro x5 hM;(try dsimp only at hM);exact au
   ·intro x4 hM;(try dsimp only at hM);exact au
  ·have F:=Zyn (nf F h6) (lF h6);exact au
 ·intro x1 hM;(try dsimp only at hM);exact au
instance:HC 125 (Ty @ZcD):=⟨ZcD⟩
theorem ZdV (k:Nat) (a0:List Zq) (a1:ByteArray) (r:Int) (hM:Vu k a0 a1=some r):Ctr Tryz.prog 72 [.one (.sl (a0.map Zq.c)),.one (.str a1)] true [.one (.int .i64 r)]:=by
 unfold Vu at hM;refine Zn Tryz.func72 Tryz.ntmps72 Tryz.results72 fun N w0 hbad F=> ?_;exact au
instance:HC 72 (Ty @ZdV):=⟨ZdV⟩
theorem Kj (k:Nat) (a0:List Int) (a1:Int) (r:Bool) (hM:Q4 k a0 a1=some r):Ctr Tryz.prog 28 [.one (.sl (a0.map iC)),.one (.int .i64 a1)] true [.one (.bool r)]:=by
 unfold Q4 at hM;refine Zn Tryz.func28 Tryz.ntmps28 Tryz.results28 fun N w0 hbad F=> ?_;refine S1 ?_;refine mjE (ι:=Unit) [] [] [] (fun i=>[]) hM ?_ ?_
 ·intro e1 hM hR1 K3 hK3;refine S1 ?_;refine Zc ?_;refine lp (ι:=Int) [0,1] [] [] (fun i=>[(5,oI i)]) (fun n i=>YS a0 a1 n i=some e1) k 0 hM (by simp [YS]) ?_;intro KL4 nL4 x1 hL4 hM _;have hM:YS a0 a1 (nL4+1) x1=some e1:=hM;rw [YS] at hM;exact au
 ·intro _ hM;dsimp only at hM;exact au
instance:HC 28 (Ty @Kj):=⟨Kj⟩
set_option maxHeartbeats 4000000
set_option maxRecDepth 100000
theorem Zfj (k:Nat) (a0:List Int) (r:List Int) (hM:Zal k a0=some r):Ctr Tryz.prog 73 [.one (.sl (a0.map iC))] true [.one (.sl (r.map iC))]:=by
 unfold Zal at hM;refine Zn Tryz.func73 Tryz.ntmps73 Tryz.results73 fun N w0 hbad F=> ?_;refine S1 ?_;refine S1 ?_;refine mj (ι:=List Int) [] [] [] (fun i=>[(3,oO 448 i.length)]) hM ?_ ?_ (ca:=fun i=>[(448,aT iC i)])
 ·intro e1 hM K3 hK3;refine S1 ?_;refine Zc ?_;refine lp (ι:=(List Int)×Int) [0] [] [] (fun i=>[(3,oO 448 i.1.length),(4,oI i.2)]) (fun n i=>Wv k a0 n i.1 i.2=some e1) k (([]:List Int),0) hM (by simp [Wv]) ?_ (ca:=fun i=>[(448,aT iC i.1)]);intro KL4 nL4 ⟨x2,x3⟩ hL4 hM _;have hM:Wv k a0 (nL4+1) x2 x3=some e1:=hM;rw [Wv] at hM;refine Ze fun K5 hK5=> ?_;refine S1 ?_;refine Zj hM (fun h6 hM=> ?_) (fun h6 hM=> ?_)
  ·have F:=Zyn (nf F h6) (lT h6);refine Zh ?_;refine hK5 _ ?_;refine mj (ι:=List Int) [0,4] [] [] (fun i=>[(3,oO 448 i.length)]) hM ?_ ?_ (ca:=fun i=>[(448,aT iC i)])
   ·intro e7 hM K9 hK9;refine Zc ?_;refine Ze fun K10 hK10=> ?_;obtain ⟨x5,e11,hM⟩:=bind_some hM;have F:=Zyn F (Xy e11);obtain ⟨x6,e12,hM⟩:=bind_some hM;refine Zv fun K h=> ?_;simp [go_sem,F];refine Yl false (Kj k x2 x5 x6 e12) ?_;simp [go_sem,F];refine h _ ?_;refine Zj hM (fun h13 hM=> ?_) (fun h13 hM=> ?_)
    ·have F:=nf F h13;exact au
    ·have F:=nf F h13;refine Zh ?_;refine hK10 _ ?_;refine S1 ?_;refine mj (ι:=Int) [0,3,4] [] [448] (fun i=>[(5,oI i)]) hM ?_ ?_
     ·intro e14 hM K16 hK16;refine Zc ?_;refine lp (ι:=Int) [0,3,4] [] [448] (fun i=>[(5,oI i)]) (fun n i=>Wu a0 x2 x3 n i=some e14) k 0 hM (by simp [Wu]) ?_;intro KL17 nL17 x8 hL17 hM _;have hM:Wu a0 x2 x3 (nL17+1) x8=some e14:=hM;rw [Wu] at hM;refine Ze fun K18 hK18=> ?_;refine mj (ι:=Bool) [0,3,4,5] [] [448] (fun i=>[(34,oB i)]) hM ?_ ?_
      ·intro e19 hM K21 hK21;rcases ifM hM with ⟨h22,hM⟩| ⟨h22,hM⟩
       ·have F:=Zyn (nf F h22) (lT h22);obtain ⟨x10,e23,hM⟩:=bind_some hM;have F:=Zyn F (Xy e23);have F:=Zyn F (Zlk e23);obtain ⟨x11,e24,hM⟩:=bind_some hM;have F:=Zyn F (Zym (e11.symm.trans e24));have F:=Zyn F (Xy e24);refine Zt 13 mixed (by kernel_rfl) (by kernel_rfl) ?_;simp [go_sem,F];exact au
       ·have F:=Zyn (nf F h22) (lF h22);refine Zt 13 mixed (by kernel_rfl) (by kernel_rfl) ?_;simp [go_sem,F];exact au
      ·intro x9 hM;(try dsimp only at hM);exact au
     ·intro x7 hM;(try dsimp only at hM);obtain ⟨x12,e26,hM⟩:=bind_some hM;obtain ⟨c27,s28⟩:=Zic e26;replace c27:=c27.symm;subst c27;(try simp at s28);have F:=Zyn F s28;obtain ⟨x13,e33,hM⟩:=bind_some hM;obtain ⟨c34,s35⟩:=ZG e33;replace c34:=c34.symm;subst c34;(try simp [F] at s35);have F:=Zyn F s35;refine S1 ?_;obtain ⟨x14,e37,hM⟩:=bind_some hM;obtain ⟨c38,s39⟩:=ZG e37;replace c38:=c38.symm;subst c38;(try simp [F] at s39);have F:=Zyn F s39;refine S1 ?_;obtain ⟨x15,e41,hM⟩:=bind_some hM;obtain ⟨c42,s43⟩:=Zic e41;replace c42:=c42.symm;subst c42;(try simp at s43);have F:=Zyn F s43;obtain ⟨x16,e48,hM⟩:=bind_some hM;obtain ⟨c49,s50⟩:=ZG e48;replace c49:=c49.symm;subst c49
      (try simp [F] at s50);have F:=Zyn F s50;refine JM ?_;simp [go_sem,F];obtain rfl:=si hM;exact fr hK9 [(2368,448)] [0,3,4] [] [2368] (((([]:List Int)++((x2.take x7.toNat).drop (0:Int).toNat))++[x5])++((x2.take (x2.length:Int).toNat).drop x7.toNat)) rfl
   ·intro x4 hM;(try dsimp only at hM);exact au
  ·have F:=Zyn (nf F h6) (lF h6);exact au
 ·intro x1 hM;(try dsimp only at hM);exact au
instance:HC 73 (Ty @Zfj):=⟨Zfj⟩
theorem ZaP (k:Nat) (a0:List Zq) (a1:Int) (r:List Int) (hM:Xh k a0 a1=some r):Ctr Tryz.prog 27 [.one (.sl (a0.map Zq.c)),.one (.int .i64 a1)] true [.one (.sl (r.map iC))]:=by
 unfold Xh at hM;refine Zn Tryz.func27 Tryz.ntmps27 Tryz.results27 fun N w0 hbad F=> ?_;refine S1 ?_;refine S1 ?_;refine Ze fun K1 hK1=> ?_;obtain ⟨x1,e2,hM⟩:=bind_some hM;refine Zv fun K h=> ?_;simp [go_sem,F];refine Yl false (Zcf a1 0 (IntKind.i64.wrap ((a0.length:Int)-1)) x1 e2) ?_;simp [go_sem,F];refine h _ ?_;refine Zj hM (fun h3 hM=> ?_) (fun h3 hM=> ?_)
 ·have F:=nf F h3;exact au
 ·have F:=nf F h3;refine Zh ?_;refine hK1 _ ?_;obtain ⟨x2,e4,hM⟩:=bind_some hM;have F:=Zyn F (Xy e4);obtain ⟨x3,e5,hM⟩:=bind_some hM;refine Zv fun K h=> ?_;simp [go_sem,F];refine Yl false (JW k x2 x3 e5) ?_;simp [go_sem,F];refine h _ ?_;refine mj (ι:=List Int) [] [] [] (fun i=>[(5,oO 576 i.length)]) hM ?_ ?_ (ca:=fun i=>[(576,aT iC i)])
  ·intro e6 hM K8 hK8;refine S1 ?_;refine Zc ?_;refine lp (ι:=(List Int)×Int) [0,6] [] [1344] (fun i=>[(5,oO 576 i.1.length),(7,oI i.2)]) (fun n i=>Z9 k a0 x3 n i.1 i.2=some e6) k (([]:List Int),0) hM (by simp [Z9]) ?_ (ca:=fun i=>[(576,aT iC i.1)]);intro KL9 nL9 ⟨x5,x6⟩ hL9 hM _;have hM:Z9 k a0 x3 (nL9+1) x5 x6=some e6:=hM;rw [Z9] at hM;refine Ze fun K10 hK10=> ?_;refine S1 ?_;refine Zj hM (fun h11 hM=> ?_) (fun h11 hM=> ?_)
   ·have F:=Zyn (nf F h11) (lT h11);refine Zh ?_;refine hK10 _ ?_;refine mj (ι:=List Int) [0,6,7] [] [1344] (fun i=>[(5,oO 576 i.length)]) hM ?_ ?_ (ca:=fun i=>[(576,aT iC i)])
    ·intro e12 hM K14 hK14;exact au
    ·intro x7 hM;(try dsimp only at hM);exact au
   ·have F:=Zyn (nf F h11) (lF h11);exact au
  ·intro x4 hM;(try dsimp only at hM);exact au
instance:HC 27 (Ty @ZaP):=⟨ZaP⟩
theorem Zgj (k:Nat) (a0:List Zq) (a1:Int) (r:List Int) (hM:Zgk k a0 a1=some r):Ctr Tryz.prog 248 [.one (.sl (a0.map Zq.c)),.one (.int .i64 a1)] true [.one (.sl (r.map iC))]:=by
 unfold Zgk at hM;refine Zn Tryz.func248 Tryz.ntmps248 Tryz.results248 fun N w0 hbad F=> ?_;refine S1 ?_;refine S1 ?_;refine mj (ι:=List Int) [] [] [] (fun i=>[(5,oO 448 i.length)]) hM ?_ ?_ (ca:=fun i=>[(448,aT iC i)])
 ·intro e1 hM K3 hK3;refine S1 ?_;refine Zc ?_;refine lp (ι:=(List Int)×Int) [0,1] [] [] (fun i=>[(5,oO 448 i.1.length),(6,oI i.2)]) (fun n i=>Wc k a0 a1 n i.1 i.2=some e1) k (([]:List Int),0) hM (by simp [Wc]) ?_ (ca:=fun i=>[(448,aT iC i.1)]);intro KL4 nL4 ⟨x2,x3⟩ hL4 hM _;have hM:Wc k a0 a1 (nL4+1) x2 x3=some e1:=hM;rw [Wc] at hM;refine Ze fun K5 hK5=> ?_;refine S1 ?_;refine Zj hM (fun h6 hM=> ?_) (fun h6 hM=> ?_)
  ·have F:=Zyn (nf F h6) (lT h6);refine Zh ?_;refine hK5 _ ?_;refine mj (ι:=List Int) [0,1,6] [] [] (fun i=>[(5,oO 448 i.length)]) hM ?_ ?_ (ca:=fun i=>[(448,aT iC i)])
   ·intro e7 hM K9 hK9;exact au
   ·intro x4 hM;(try dsimp only at hM);exact au
  ·have F:=Zyn (nf F h6) (lF h6);exact au
 ·intro x1 hM;(try dsimp only at hM);exact au
instance:HC 248 (Ty @Zgj):=⟨Zgj⟩
theorem UI (k:Nat) (a0:List Zq) (a1:Int) (a2:Bool) (r:List Int) (hM:Un k a0 a1 a2=some r):Ctr Tryz.prog 195 [.one (.sl (a0.map Zq.c)),.one (.int .i64 a1),.one (.bool a2)] true [.one (.sl (r.map iC))]:=by
 unfold Un at hM;refine Zn Tryz.func195 Tryz.ntmps195 Tryz.results195 fun N w0 hbad F=> ?_;exact au
instance:HC 195 (Ty @UI):=⟨UI⟩
theorem Zfk (k:Nat) (a0:List Zq) (a1:Int) (a2:Bool) (r:List Int) (hM:Zcd k a0 a1 a2=some r):Ctr Tryz.prog 150 [.one (.sl (a0.map Zq.c)),.one (.int .i64 a1),.one (.bool a2)] true [.one (.sl (r.map iC))]:=by
 unfold Zcd at hM;refine Zn Tryz.func150 Tryz.ntmps150 Tryz.results150 fun N w0 hbad F=> ?_;refine S1 ?_;obtain ⟨x1,e1,hM⟩:=bind_some hM;refine Zv fun K h=> ?_;simp [go_sem,F];refine Yl false (UI k a0 a1 a2 x1 e1) ?_;simp [go_sem,F];refine h _ ?_;refine mj (ι:=List Int) [] [] [] (fun i=>[(7,oO 896 i.length)]) hM ?_ ?_ (ca:=fun i=>[(896,aT iC i)])
 ·intro e2 hM K4 hK4;refine S1 ?_;refine Zc ?_;refine lp (ι:=(List Int)×Int) [0,2] [] [] (fun i=>[(7,oO 896 i.1.length),(8,oI i.2)]) (fun n i=>Wx k a0 a2 n i.1 i.2=some e2) k (x1,0) hM (by simp [Wx]) ?_ (ca:=fun i=>[(896,aT iC i.1)]);intro KL5 nL5 ⟨x3,x4⟩ hL5 hM _;have hM:Wx k a0 a2 (nL5+1) x3 x4=some e2:=hM;rw [Wx] at hM;refine Ze fun K6 hK6=> ?_;refine S1 ?_;refine Zj hM (fun h7 hM=> ?_) (fun h7 hM=> ?_)
  ·have F:=Zyn (nf F h7) (lT h7);refine Zh ?_;refine hK6 _ ?_;refine mj (ι:=List Int) [0,2,8] [] [] (fun i=>[(7,oO 896 i.length)]) hM ?_ ?_ (ca:=fun i=>[(896,aT iC i)])
   ·intro e8 hM K10 hK10;refine Zc ?_;obtain ⟨x6,e11,hM⟩:=bind_some hM;have F:=Zyn F (Xy e11);have F:=Zyn F (Zlk e11);obtain ⟨x7,e12,hM⟩:=bind_some hM;refine Zv fun K h=> ?_;simp [go_sem,F];refine Yl false (UI k a0 x6 a2 x7 e12) ?_;simp [go_sem,F];refine h _ ?_;refine S1 ?_;refine Zc ?_;refine lp (ι:=(List Int)×Int) [0,2,8,9] [] [1728] (fun i=>[(7,oO 896 i.1.length),(10,oI i.2)]) (fun n i=>Ww k x7 n i.1 i.2=some e8) k (x3,0) hM (by simp [Ww]) ?_ (ca:=fun i=>[(896,aT iC i.1)]);intro KL13 nL13 ⟨x8,x9⟩ hL13 hM _;have hM:Ww k x7 (nL13+1) x8 x9=some e8:=hM;rw [Ww] at hM;refine Ze fun K14 hK14=> ?_;refine S1 ?_;refine Zj hM (fun h15 hM=> ?_) (fun h15 hM=> ?_)
    ·have F:=Zyn (nf F h15) (lT h15);refine Zh ?_;refine hK14 _ ?_;refine mj (ι:=List Int) [0,2,8,9,10] [] [1728] (fun i=>[(7,oO 896 i.length)]) hM ?_ ?_ (ca:=fun i=>[(896,aT iC i)])
     ·intro e16 hM K18 hK18;exact au
     ·intro x10 hM;(try dsimp only at hM);exact au
    ·have F:=Zyn (nf F h15) (lF h15);exact au
   ·intro x5 hM;(try dsimp only at hM);exact au
  ·have F:=Zyn (nf F h7) (lF h7);exact au
 ·intro x2 hM;(try dsimp only at hM);exact au
instance:HC 150 (Ty @Zfk):=⟨Zfk⟩
end Go.Proofs.YtbkllghhcphkaaaGreatDoor
