import Derived.Test.YtbkllghhcphkaaaGreatDoorCt3
set_option linter.unusedSimpArgs false
set_option linter.unusedVariables false
namespace Go.Proofs.YtbkllghhcphkaaaGreatDoor
open Go.RowKit Am
set_option maxHeartbeats 4000000
set_option maxRecDepth 100000
theorem UG (k:Nat) (a0:ByteArray) (r:Zb×Bool) (hM:VC k a0=some r):Ctr Tryz.prog 114 [.one (.str a0)] true [.agg (Zb.c r.1),.one (.bool r.2)]:=by
 unfold VC at hM;refine Zr Tryz.func114 Tryz.ntmps114 Tryz.results114 fun N w0 hbad F=> ?_;refine S1 ?_;obtain ⟨x1,e1,hM⟩:=bind_some hM;refine Zs fun K h=> ?_;simp [go_sem,F];refine Qt false (VS k a0 x1 e1) ?_;simp [go_sem,F];refine h _ ?_;obtain ⟨x2,e2,hM⟩:=bind_some hM;have F:=Zwg F (WZ e2);have F:=Zwg F (show 0<x1.length by simpa using ZhY e2);have F:=Zwg F (Zs6 0 e2);obtain ⟨x3,e3,hM⟩:=bind_some hM;refine Zs fun K h=> ?_;simp [go_sem,F];refine Qt false (Wg k x2 32 x3 e3) ?_;simp [go_sem,F];refine h _ ?_;refine mjE (ι:=List YT) [2,5] [2] [896] (fun i=>[]) hM ?_ ?_ (cb:=fun i=>[(5,[cI 5,cI 0,cI 0,cS (⟨#[]⟩:ByteArray),.nil,.own 896 x3.length,.own 2624 i.length])]) (ca:=fun i=>[(2624,aT YT.c i)])
 ·intro e4 hM hR1 K6 hK6;refine S1 ?_;refine Zc ?_;refine lp (ι:=(List YT)×Int) [2,4,5] [2] [640,896] (fun i=>[(6,oI i.2)]) (fun n i=>YH k x1 x3 n i.1 i.2=some e4) k ([],1) hM (by simp [YH]) ?_ (cb:=fun i=>[(5,[cI 5,cI 0,cI 0,cS (⟨#[]⟩:ByteArray),.nil,.own 896 x3.length,.own 2624 i.1.length])]) (ca:=fun i=>[(2624,aT YT.c i.1)]);intro KL7 nL7 ⟨x5,x6⟩ hL7 hM _;have hM:YH k x1 x3 (nL7+1) x5 x6=some e4:=hM;rw [YH] at hM;refine Zg fun K8 hK8=> ?_;refine S1 ?_;refine Zn hM (fun h9 hM=> ?_) (fun h9 hM=> ?_)
  ·have F:=Zwg (nf F h9) (lT h9);refine Zi ?_;refine hK8 _ ?_;refine Zg fun K10 hK10=> ?_;refine Zc ?_;refine Zg fun K11 hK11=> ?_;refine le1 [2,4,5,6] [2,5] [640,896,2624] ?_;obtain ⟨x7,e12,hM⟩:=bind_some hM;have F:=Zwg F (WZ e12);have F:=Zwg F (ZhY e12);obtain ⟨x8,e13,hM⟩:=bind_some hM;refine ZJ [[],[],[0,1],[0,1,2],[],[4],[4,5],[0,1,2,3,4,5,6],[0,1,2,3,4,5,6,7],[0,1,2,3,4,5,6,7,8],[0,1,2,3,4,5,6,7,8],[0,1,2,3,4,5,6,7,8,9],[0,1,2,3,4,5,6,7,8,9,10,11]] mixed (by kernel_rfl) ?_;simp (maxSteps:=9999999) [go_sem,F];refine Qt false (U8 k x7 (x3.length:Int) x8 e13) ?_;simp (maxSteps:=9999999) [go_sem,F];refine ⟨Zq (by kernel_rfl), ?_⟩;exact au
  ·have F:=Zwg (nf F h9) (lF h9);exact au
 ·intro x4 hM;dsimp only at hM;exact au
instance:HC 114 (Ty @UG):=⟨UG⟩
theorem UL (k:Nat) (a0:ByteArray) (r:Int) (hM:UM k a0=some r):Ctr Tryz.prog 115 [.one (.str a0)] true [.one (.int .i64 r)]:=by
 unfold UM at hM;refine Zr Tryz.func115 Tryz.ntmps115 Tryz.results115 fun N w0 hbad F=> ?_;refine S1 ?_;obtain ⟨x1,e1,hM⟩:=bind_some hM;refine Zs fun K h=> ?_;simp [go_sem,F];refine Qt false (VS k a0 x1 e1) ?_;simp [go_sem,F];refine h _ ?_;obtain ⟨x2,e2,hM⟩:=bind_some hM;have F:=Zwg F (WZ e2);have F:=Zwg F (show 0<x1.length by simpa using ZhY e2);have F:=Zwg F (Zs6 0 e2);obtain ⟨x3,e3,hM⟩:=bind_some hM;refine Zs fun K h=> ?_;simp [go_sem,F];refine Qt false (Wg k x2 32 x3 e3) ?_;simp [go_sem,F];refine h _ ?_;refine Zg fun K4 hK4=> ?_;obtain ⟨x4,e5,hM⟩:=bind_some hM;refine Zs fun K h=> ?_;simp [go_sem,F];refine Qt false (UB k x3 x4 e5) ?_;simp [go_sem,F];refine h _ ?_;refine Zn hM (fun h6 hM=> ?_) (fun h6 hM=> ?_)
 ·have F:=nf F h6;exact au
 ·have F:=nf F h6;refine Zi ?_;refine hK4 _ ?_;refine mjE (ι:=Unit) [] [] [] (fun i=>[]) hM ?_ ?_
  ·intro e7 hM hR1 K9 hK9;refine S1 ?_;refine Zc ?_;refine lp (ι:=Int) [3,4] [] [576,832] (fun i=>[(5,oI i)]) (fun n i=>YI k x1 x3 n i=some e7) k 1 hM (by simp [YI]) ?_;intro KL10 nL10 x5 hL10 hM _;have hM:YI k x1 x3 (nL10+1) x5=some e7:=hM;rw [YI] at hM;refine Zg fun K11 hK11=> ?_;refine S1 ?_;refine Zn hM (fun h12 hM=> ?_) (fun h12 hM=> ?_)
   ·have F:=Zwg (nf F h12) (lT h12);refine Zi ?_;refine hK11 _ ?_;refine Zg fun K13 hK13=> ?_;refine Zc ?_;obtain ⟨x6,e14,hM⟩:=bind_some hM;have F:=Zwg F (WZ e14);have F:=Zwg F (ZhY e14);obtain ⟨x7,e15,hM⟩:=bind_some hM;refine Zs fun K h=> ?_;simp [go_sem,F];refine Qt false (U8 k x6 (x3.length:Int) x7 e15) ?_;simp [go_sem,F];refine h _ ?_;refine mj (ι:=Bool) [3,4,5] [] [576,832] (fun i=>[(38,oB i)]) hM ?_ ?_
    ·intro e16 hM K18 hK18;exact au
    ·intro x8 hM;(try dsimp only at hM);exact au
   ·have F:=Zwg (nf F h12) (lF h12);exact au
  ·intro _ hM;dsimp only at hM;exact au
instance:HC 115 (Ty @UL):=⟨UL⟩
theorem Zbn (a0:YT) (r:YT) (hM:ZcN a0=some r):Ctr Tryz.prog 174 [.agg (YT.c a0)] true [.agg (YT.c r)]:=by
 unfold ZcN at hM;refine Zr Tryz.func174 Tryz.ntmps174 Tryz.results174 fun N w0 hbad F=> ?_;refine S1 ?_;refine Zg fun K1 hK1=> ?_;refine le1 [1,2] [1,2] [] ?_;obtain ⟨x1,e2,hM⟩:=bind_some hM;obtain ⟨c3,s4⟩:=Z0 e2;replace c3:=c3.symm;subst c3;(try simp at s4);have F:=Zwg F s4;obtain ⟨x2,e6,hM⟩:=bind_some hM;obtain ⟨c7,s8⟩:=Z0 e6;replace c7:=c7.symm;subst c7;(try simp at s8);have F:=Zwg F s8;refine ZJ [[],[],[1],[0,1,2],[],[10000192],[5],[0,1,2,3,4,5,6],[0,1,2,3,4,5,6,7],[0,1,2,3,4,5,6,7,8]] mixed (by kernel_rfl) ?_;simp [go_sem,F];refine ⟨Zq (by kernel_rfl), ?_⟩;exact au
instance:HC 174 (Ty @Zbn):=⟨Zbn⟩
theorem Zg6:∀(k:Nat),(∀(a0:Zb) (r:Zb) (hM:X1 k a0=some r),Ctr Tryz.prog 118 [.agg (Zb.c a0)] true [.agg (Zb.c r)]):=by
 intro k
 induction k with
 | zero=>intro a0 r hM;simp [X1] at hM
 | succ k ih_s_l3Copy=>
  ·intro a0 r hM;haveI:HC 118 _:=⟨ih_s_l3Copy⟩;rw [X1] at hM;refine Zr Tryz.func118 Tryz.ntmps118 Tryz.results118 fun N w0 hbad F=> ?_;refine S1 ?_;refine Zg fun K1 hK1=> ?_;refine le1 [1,2] [1,2] [] ?_;obtain ⟨x1,e2,hM⟩:=bind_some hM;obtain ⟨c3,s4⟩:=Z0 e2;replace c3:=c3.symm;subst c3;(try simp at s4);have F:=Zwg F s4;refine ZJ [[10000896],[0],[10000896],[2],[10000896],[4],[10000896],[6],[],[],[9],[8,9,10],[0,1,2,3,4,5,6,7,8,9,10,11],[],[0,1,2,3,4,5,6,7,8,9,10,11,12,13]] mixed (by kernel_rfl) ?_;simp (maxSteps:=9999999) [go_sem,F];refine ⟨Zq (by kernel_rfl), ?_⟩;refine hK1 _ ?_;refine mj (ι:=List Zb) [1,2,3] [1,2] [] (fun i=>[]) hM ?_ ?_ (cb:=fun i=>[(3,[cI a0.kind,cI a0.n,cI a0.step,cS a0.text,.own 2240 i.length,.own 896 ((([]:List ByteArray)++a0.columns).length),.nil])]) (ca:=fun i=>[(896,aT sC (([]:List ByteArray)++a0.columns)),(2240,aT Zb.c i)])
   ·intro e6 hM K8 hK8;refine S1 ?_;refine Zc ?_;refine lp (ι:=(List Zb)×Int) [1,2,3] [1,2] [] (fun i=>[(4,oI i.2)]) (fun n i=>X8 (X1 k) a0 n i.1 i.2=some e6) k ([],0) hM (by simp [X8]) ?_ (cb:=fun i=>[(3,[cI a0.kind,cI a0.n,cI a0.step,cS a0.text,.own 2240 i.1.length,.own 896 ((([]:List ByteArray)++a0.columns).length),.nil])]) (ca:=fun i=>[(896,aT sC (([]:List ByteArray)++a0.columns)),(2240,aT Zb.c i.1)]);intro KL9 nL9 ⟨x3,x4⟩ hL9 hM _;have hM:X8 (X1 k) a0 (nL9+1) x3 x4=some e6:=hM;rw [X8] at hM;refine Zg fun K10 hK10=> ?_;refine S1 ?_;refine Zn hM (fun h11 hM=> ?_) (fun h11 hM=> ?_)
    ·have F:=Zwg (nf F h11) (lT h11);refine Zi ?_;refine hK10 _ ?_;refine Zg fun K12 hK12=> ?_;refine Zc ?_;refine le1 [1,2,3,4] [1,2,3] [2240] ?_ (ca:=[(896,aT sC (([]:List ByteArray)++a0.columns))]);obtain ⟨x5,e13,hM⟩:=bind_some hM;have F:=Zwg F (WZ e13);obtain ⟨x6,e14,hM⟩:=bind_some hM;obtain ⟨x7,e15,hM⟩:=bind_some hM;obtain ⟨c16,s17⟩:=Z0 e15;replace c16:=c16.symm;subst c16;(try simp at s17);have F:=Zwg F s17;refine ZJ [[10002112,10002113,10002114],[0],[],[2],[],[2,3,4],[2,3,4,5],[2,3,4,5,6],[2,3,4,5,6,7],[0,1,2,3,4,5,6,7,8],[0,1,2,3,4,5,6,7,8,9],[0,1,2,3,4,5,6,7,8,9,10]] mixed (by kernel_rfl) ?_;simp [go_sem,F];refine Qt false (ih_s_l3Copy x5 x6 e14) ?_;simp [go_sem,F];refine ⟨Zq (by kernel_rfl), ?_⟩;exact au
    ·have F:=Zwg (nf F h11) (lF h11);exact au
   ·intro x2 hM;(try dsimp only at hM);refine mj (ι:=List YT) [2,3] [2] [2240] (fun i=>[]) hM ?_ ?_ (cb:=fun i=>[(3,[cI a0.kind,cI a0.n,cI a0.step,cS a0.text,.own 2240 x2.length,.own 896 ((([]:List ByteArray)++a0.columns).length),.own 3392 i.length])]) (ca:=fun i=>[(896,aT sC (([]:List ByteArray)++a0.columns)),(3392,aT YT.c i)])
    ·intro e19 hM K21 hK21;refine S1 ?_;refine Zc ?_;refine lp (ι:=(List YT)×Int) [1,2,3] [1,2] [2240] (fun i=>[(5,oI i.2)]) (fun n i=>X7 a0 n i.1 i.2=some e19) k ([],0) hM (by simp [X7]) ?_ (cb:=fun i=>[(3,[cI a0.kind,cI a0.n,cI a0.step,cS a0.text,.own 2240 x2.length,.own 896 ((([]:List ByteArray)++a0.columns).length),.own 3392 i.1.length])]) (ca:=fun i=>[(896,aT sC (([]:List ByteArray)++a0.columns)),(3392,aT YT.c i.1)]);intro KL22 nL22 ⟨x9,x10⟩ hL22 hM _;have hM:X7 a0 (nL22+1) x9 x10=some e19:=hM;rw [X7] at hM;refine Zg fun K23 hK23=> ?_;refine S1 ?_;refine Zn hM (fun h24 hM=> ?_) (fun h24 hM=> ?_)
     ·have F:=Zwg (nf F h24) (lT h24);refine Zi ?_;refine hK23 _ ?_;refine Zg fun K25 hK25=> ?_;refine Zc ?_;refine le1 [1,2,3,5] [1,2,3] [2240,3392] ?_ (ca:=[(896,aT sC (([]:List ByteArray)++a0.columns))]);obtain ⟨x11,e26,hM⟩:=bind_some hM;have F:=Zwg F (WZ e26);obtain ⟨x12,e27,hM⟩:=bind_some hM;obtain ⟨x13,e28,hM⟩:=bind_some hM;obtain ⟨c29,s30⟩:=Z0 e28;replace c29:=c29.symm;subst c29;(try simp at s30);have F:=Zwg F s30;refine ZJ [[10003264,10003265],[0],[],[2],[],[2,3,4],[2,3,4,5],[2,3,4,5,6],[2,3,4,5,6,7],[0,1,2,3,4,5,6,7,8],[0,1,2,3,4,5,6,7,8,9],[0,1,2,3,4,5,6,7,8,9,10]] mixed (by kernel_rfl) ?_;simp [go_sem,F];refine Qt false (Zbn x11 x12 e27) ?_;simp [go_sem,F];refine ⟨Zq (by kernel_rfl), ?_⟩;exact au
     ·have F:=Zwg (nf F h24) (lF h24);exact au
    ·intro x8 hM;(try dsimp only at hM);exact au
theorem Zac (k:Nat):∀(a0:Zb) (r:Zb) (hM:X1 k a0=some r),Ctr Tryz.prog 118 [.agg (Zb.c a0)] true [.agg (Zb.c r)]:=(Zg6 k)
instance:HC 118 (Ty @Zac):=⟨Zac⟩
theorem VA (k:Nat) (a0:Int) (a1:Zb) (r:Zb) (hM:Vf k a0 a1=some r):Ctr Tryz.prog 116 [.one (.int .i64 a0),.agg (Zb.c a1)] true [.agg (Zb.c r)]:=by
 unfold Vf at hM;refine Zr Tryz.func116 Tryz.ntmps116 Tryz.results116 fun N w0 hbad F=> ?_;refine S1 ?_;refine Zg fun K1 hK1=> ?_;refine mj (ι:=Bool) [0,3,4] [3,4] [] (fun i=>[(18,oB i)]) hM ?_ ?_
 ·intro e2 hM K4 hK4;exact au
 ·intro x1 hM;(try dsimp only at hM);refine Zn hM (fun h8 hM=> ?_) (fun h8 hM=> ?_)
  ·have F:=nf F h8;exact au
  ·have F:=nf F h8;refine Zi ?_;refine hK1 _ ?_;obtain ⟨x4,e10,hM⟩:=bind_some hM;refine Zs fun K h=> ?_;simp [go_sem,F];refine Qt false (Zac k a1 x4 e10) ?_;simp [go_sem,F];refine h _ ?_;refine mj (ι:=List YT) [4,5] [4] [1344,1345] (fun i=>[]) hM ?_ ?_ (cb:=fun i=>[(5,[cI x4.kind,cI x4.n,cI x4.step,cS x4.text,.own 1344 x4.list.length,.own 1345 x4.columns.length,.own 1346 i.length])]) (ca:=fun i=>[(1346,aT YT.c i)])
   ·intro e11 hM K13 hK13;refine S1 ?_;refine Zc ?_;refine lp (ι:=(List YT)×Int) [0,4,5] [4] [1344,1345] (fun i=>[(6,oI i.2)]) (fun n i=>ZP a0 n i.1 i.2=some e11) k (x4.rows,0) hM (by simp [ZP]) ?_ (cb:=fun i=>[(5,[cI x4.kind,cI x4.n,cI x4.step,cS x4.text,.own 1344 x4.list.length,.own 1345 x4.columns.length,.own 1346 i.1.length])]) (ca:=fun i=>[(1346,aT YT.c i.1)]);intro KL14 nL14 ⟨x6,x7⟩ hL14 hM _;have hM:ZP a0 (nL14+1) x6 x7=some e11:=hM;rw [ZP] at hM;exact au
   ·intro x5 hM;(try dsimp only at hM);exact au
instance:HC 116 (Ty @VA):=⟨VA⟩
theorem JK (k:Nat) (a0:Zk) (r:Zm) (hM:Yq k a0=some r):Ctr Tryz.prog 63 [.agg (Zk.c a0)] false [.agg (Zm.c r)]:=by
 unfold Yq at hM;refine Zr Tryz.func63 Tryz.ntmps63 Tryz.results63 fun N w0 hbad F=> ?_;refine S1 ?_;refine Zg fun K1 hK1=> ?_;obtain ⟨x1,e2,hM⟩:=bind_some hM;refine Zs fun K h=> ?_;simp [go_sem,F];refine Qt false (Xp k a0 x1 e2) ?_;simp [go_sem,F];refine h _ ?_;refine Zn hM (fun h3 hM=> ?_) (fun h3 hM=> ?_)
 ·have F:=nf F h3;exact au
 ·have F:=nf F h3;refine Zi ?_;refine hK1 _ ?_;refine Zg fun K4 hK4=> ?_;refine S1 ?_;refine Zc ?_;refine S1 ?_;refine Zn hM (fun h5 hM=> ?_) (fun h5 hM=> ?_)
  ·have F:=nf F h5;obtain ⟨x2,e6,hM⟩:=bind_some hM;refine Zs fun K h=> ?_;simp [go_sem,F];refine Qt false (UF k a0.code x2 e6) ?_;simp [go_sem,F];refine h _ ?_;refine Zg fun K7 hK7=> ?_;refine S1 ?_;refine Zn hM (fun h8 hM=> ?_) (fun h8 hM=> ?_)
   ·have F:=Zwg (nf F h8) (eT h8);refine Zg fun K9 hK9=> ?_;refine le1 [1,2,4] [1,2] [] ?_;obtain ⟨x3,e10,hM⟩:=bind_some hM;refine ZJ [[],[0],[],[],[0,1,2,3],[0,1,2,3,4]] mixed (by kernel_rfl) ?_;simp [go_sem,F];refine Qt false (WQ 8 x3 e10) ?_;simp [go_sem,F];refine ⟨Zq (by kernel_rfl), ?_⟩;refine hK9 _ ?_;obtain rfl:=si hM;refine le1 [2] [] [] ?_ (cb:=[(2,[cI 4,cS a0.name,cI 0,cI 0,cS (⟨#[]⟩:ByteArray),.nil,cI x3.kind,cI x3.n,cI x3.step,cS x3.text,cL Zb.c x3.list,cL sC x3.columns,cL YT.c x3.rows,cI x2.2])]);exact au
   ·have F:=Zwg (nf F h8) (eF h8);exact au
  ·have F:=nf F h5;refine S1 ?_;refine Zn hM (fun h11 hM=> ?_) (fun h11 hM=> ?_)
   ·have F:=nf F h11;refine Zg fun K12 hK12=> ?_;refine le1 [1,2] [1,2] [] ?_;obtain ⟨x4,e13,hM⟩:=bind_some hM;refine ZJ [[],[0],[],[2],[2,3],[0,1,2,3,4],[0,1,2,3,4,5]] mixed (by kernel_rfl) ?_;simp [go_sem,F];refine Qt false (VD a0.n x4 e13) ?_;simp [go_sem,F];refine ⟨Zq (by kernel_rfl), ?_⟩;refine hK12 _ ?_;obtain rfl:=si hM;refine le1 [2] [] [] ?_ (cb:=[(2,[cI 3,cS a0.name,cI 0,cI 0,cS (⟨#[]⟩:ByteArray),.nil,cI x4.kind,cI x4.n,cI x4.step,cS x4.text,cL Zb.c x4.list,cL sC x4.columns,cL YT.c x4.rows,cI 0])]);exact au
   ·have F:=nf F h11;refine S1 ?_;refine Zn hM (fun h14 hM=> ?_) (fun h14 hM=> ?_)
    ·have F:=nf F h14;obtain ⟨x5,e15,hM⟩:=bind_some hM;refine Zs fun K h=> ?_;simp [go_sem,F];refine Qt false (UG k a0.code x5 e15) ?_;simp [go_sem,F];refine h _ ?_;refine Zg fun K16 hK16=> ?_;refine S1 ?_;refine Zn hM (fun h17 hM=> ?_) (fun h17 hM=> ?_)
     ·have F:=nf F h17;refine Zg fun K18 hK18=> ?_;refine le1 [1,2] [1,2] [] ?_;obtain ⟨x6,e19,hM⟩:=bind_some hM;obtain ⟨x7,e20,hM⟩:=bind_some hM;refine ZJ [[],[0],[],[],[3],[2,3,4],[0,1,2,3,4,5],[0,1,2,3,4,5,6]] mixed (by kernel_rfl) ?_;simp [go_sem,F];refine Qt false (WQ 8 x6 e19) ?_;simp [go_sem,F];refine Qt false (UL k a0.code x7 e20) ?_;simp [go_sem,F];refine ⟨Zq (by kernel_rfl), ?_⟩;refine hK18 _ ?_;obtain rfl:=si hM;refine le1 [2] [] [] ?_ (cb:=[(2,[cI 4,cS a0.name,cI 0,cI 0,cS (⟨#[]⟩:ByteArray),.nil,cI x6.kind,cI x6.n,cI x6.step,cS x6.text,cL Zb.c x6.list,cL sC x6.columns,cL YT.c x6.rows,cI x7])]);exact au
     ·have F:=nf F h17;refine Zi ?_;refine hK16 _ ?_;refine Zg fun K21 hK21=> ?_;refine le1 [1,2,5] [1,2,5] [2880,2881,2882] ?_;obtain ⟨x8,e22,hM⟩:=bind_some hM;refine ZJ [[],[0],[],[2],[],[2,3,4],[0,1,2,3,4,5],[0,1,2,3,4,5,6]] mixed (by kernel_rfl) ?_;simp [go_sem,F];refine Qt false (VA k a0.id x5.1 x8 e22) ?_;simp [go_sem,F];refine ⟨Zq (by kernel_rfl), ?_⟩;refine hK21 _ ?_;obtain rfl:=si hM;refine le1 [2] [] [] ?_ (cb:=[(2,[cI 3,cS a0.name,cI 0,cI 0,cS (⟨#[]⟩:ByteArray),.nil,cI x8.kind,cI x8.n,cI x8.step,cS x8.text,cL Zb.c x8.list,cL sC x8.columns,cL YT.c x8.rows,cI 0])]);exact au
    ·have F:=nf F h14;exact au
instance:HC 63 (Ty @JK):=⟨JK⟩
theorem Ud (k:Nat) (a0:Ze) (r:List Zm) (hM:W4 k a0=some r):Ctr Tryz.prog 22 [.agg (Ze.c a0)] false [.one (.sl (r.map Zm.c))]:=by
 unfold W4 at hM;refine Zr Tryz.func22 Tryz.ntmps22 Tryz.results22 fun N w0 hbad F=> ?_;refine S1 ?_;refine S1 ?_;refine Zg fun K1 hK1=> ?_;obtain ⟨x1,e2,hM⟩:=bind_some hM;refine Zs fun K h=> ?_;simp [go_sem,F];refine Qt false (Wj k a0 x1 e2) ?_;simp [go_sem,F];refine h _ ?_;refine Zn hM (fun h3 hM=> ?_) (fun h3 hM=> ?_)
 ·have F:=nf F h3;refine S1 ?_;obtain rfl:=si hM;refine le1 [] [] [] ?_ (ch:=[(2,oL Zm.c ([]:List Zm))]);exact au
 ·have F:=nf F h3;refine Zi ?_;refine hK1 _ ?_;refine mj (ι:=List Zm) [] [] [] (fun i=>[(3,oO 320 i.length)]) hM ?_ ?_ (ca:=fun i=>[(320,aF Zm.c i)])
  ·intro e4 hM K6 hK6;refine S1 ?_;refine Zc ?_;refine Zom [320] (σ':=⟨27,[(1,.one (.box 1 0)),(3,.one (.own 320 (([]:List Zm).length))),(4,.one (.l (.int .i64 0)))],[(1,[.l (.sl (a0.cells.map Zk.c))])],[(320,some ⟨false,([]:List Zm).map Zm.c⟩)]⟩) ?_;refine lp (ι:=(List Zm)×Int) [1] [1] [] (fun i=>[(3,oO 320 i.1.length),(4,oI i.2)]) (fun n i=>Qg k a0 n i.1 i.2=some e4) k (([]:List Zm),0) hM (by simp [Qg]) ?_ (ca:=fun i=>[(320,aF Zm.c i.1)]);intro KL7 nL7 ⟨x3,x4⟩ hL7 hM _;have hM:Qg k a0 (nL7+1) x3 x4=some e4:=hM;rw [Qg] at hM;exact au
  ·intro x2 hM;(try dsimp only at hM);refine S1 ?_;obtain rfl:=si hM;refine le1 [] [] [] ?_ (ch:=[(2,oL Zm.c x2)]);exact au
instance:HC 22 (Ty @Ud):=⟨Ud⟩
theorem ZfX:∀(k:Nat),(∀(a0:Za) (a1:List ByteArray) (r:List ByteArray) (hM:QN k a0 a1=some r),Ctr Tryz.prog 149 [.agg (Za.c a0),.one (.sl (a1.map sC))] true [.one (.sl (r.map sC))]):=by
 intro k
 induction k with
 | zero=>intro a0 a1 r hM;simp [QN] at hM
 | succ k ih_s_l13Free=>
  ·intro a0 a1 r hM;haveI:HC 149 _:=⟨ih_s_l13Free⟩;rw [QN] at hM;refine Zr Tryz.func149 Tryz.ntmps149 Tryz.results149 fun N w0 hbad F=> ?_;refine S1 ?_;refine S1 ?_;refine Zg fun K1 hK1=> ?_;refine mj (ι:=Bool) [1,2,5] [2] [512] (fun i=>[(18,oB i)]) hM ?_ ?_
   ·intro e2 hM K4 hK4;exact au
   ·intro x1 hM;(try dsimp only at hM);refine Zn hM (fun h7 hM=> ?_) (fun h7 hM=> ?_)
    ·have F:=nf F h7;exact au
    ·have F:=nf F h7;refine Zi ?_;refine hK1 _ ?_;refine mj (ι:=List ByteArray) [] [] [] (fun i=>[(5,oO 512 i.length)]) hM ?_ ?_ (ca:=fun i=>[(512,aT sC i)])
     ·intro e12 hM K14 hK14;refine S1 ?_;refine Zc ?_;refine lp (ι:=(List ByteArray)×Int) [1,2] [2] [] (fun i=>[(5,oO 512 i.1.length),(6,oI i.2)]) (fun n i=>Qe (QN k) a0 a1 n i.1 i.2=some e12) k (([]:List ByteArray),0) hM (by simp [Qe]) ?_ (ca:=fun i=>[(512,aT sC i.1)]);intro KL15 nL15 ⟨x5,x6⟩ hL15 hM _;have hM:Qe (QN k) a0 a1 (nL15+1) x5 x6=some e12:=hM;rw [Qe] at hM;refine Zg fun K16 hK16=> ?_;refine S1 ?_;refine Zn hM (fun h17 hM=> ?_) (fun h17 hM=> ?_)
      ·have F:=Zwg (nf F h17) (lT h17);refine Zi ?_;refine hK16 _ ?_;refine Zg fun K18 hK18=> ?_;refine Zc ?_;refine S1 ?_;refine mj (ι:=List ByteArray) [1,2,5,6] [2] [512] (fun i=>[(7,oL sC i)]) hM ?_ ?_
       ·intro e19 hM K21 hK21;refine mj (ι:=Bool) [1,2,5,6,7] [2] [512] (fun i=>[(43,oB i)]) hM ?_ ?_
        ·intro e22 hM K24 hK24;exact au
        ·intro x8 hM;(try dsimp only at hM);refine Zn hM (fun h27 hM=> ?_) (fun h27 hM=> ?_)
         ·have F:=nf F h27;refine le1 [1,2,5,6] [2] [512] ?_;obtain ⟨x9,e28,hM⟩:=bind_some hM;obtain ⟨c29,s30⟩:=Z0 e28;replace c29:=c29.symm;subst c29;(try simp at s30);have F:=Zwg F s30;obtain ⟨x10,e32,hM⟩:=bind_some hM;obtain ⟨c33,s34⟩:=Z0 e32;replace c33:=c33.symm;subst c33;(try simp at s34);have F:=Zwg F s34;refine ZJ [[],[],[0,1],[10002816],[3],[3,4],[0,1,2,3,4,5],[0,1,2,3,4,5,6]] mixed (by kernel_rfl) ?_;simp [go_sem,F];refine ⟨Zq (by kernel_rfl), ?_⟩;exact au
         ·have F:=nf F h27;exact au
       ·intro x7 hM;(try dsimp only at hM);exact au
      ·have F:=Zwg (nf F h17) (lF h17);exact au
     ·intro x4 hM;(try dsimp only at hM);exact au
theorem ZbX (k:Nat):∀(a0:Za) (a1:List ByteArray) (r:List ByteArray) (hM:QN k a0 a1=some r),Ctr Tryz.prog 149 [.agg (Za.c a0),.one (.sl (a1.map sC))] true [.one (.sl (r.map sC))]:=(ZfX k)
instance:HC 149 (Ty @ZbX):=⟨ZbX⟩
theorem Zai (k:Nat) (a0:List ByteArray) (r:List ByteArray) (hM:VB k a0=some r):Ctr Tryz.prog 148 [.one (.sl (a0.map sC))] true [.one (.sl (r.map sC))]:=by
 unfold VB at hM;refine Zr Tryz.func148 Tryz.ntmps148 Tryz.results148 fun N w0 hbad F=> ?_;refine S1 ?_;refine S1 ?_;refine mj (ι:=List ByteArray) [] [] [] (fun i=>[(3,oO 448 i.length)]) hM ?_ ?_ (ca:=fun i=>[(448,aT sC i)])
 ·intro e1 hM K3 hK3;refine S1 ?_;refine Zc ?_;refine lp (ι:=(List ByteArray)×Int) [0] [] [] (fun i=>[(3,oO 448 i.1.length),(4,oI i.2)]) (fun n i=>QC k a0 n i.1 i.2=some e1) k (([]:List ByteArray),0) hM (by simp [QC]) ?_ (ca:=fun i=>[(448,aT sC i.1)]);intro KL4 nL4 ⟨x2,x3⟩ hL4 hM _;have hM:QC k a0 (nL4+1) x2 x3=some e1:=hM;rw [QC] at hM;refine Zg fun K5 hK5=> ?_;refine S1 ?_;refine Zn hM (fun h6 hM=> ?_) (fun h6 hM=> ?_)
  ·have F:=Zwg (nf F h6) (lT h6);refine Zi ?_;refine hK5 _ ?_;refine mj (ι:=List ByteArray) [0,4] [] [] (fun i=>[(3,oO 448 i.length)]) hM ?_ ?_ (ca:=fun i=>[(448,aT sC i)])
   ·intro e7 hM K9 hK9;refine Zc ?_;refine S1 ?_;refine mj (ι:=Int) [0,3,4] [] [448] (fun i=>[(5,oI i)]) hM ?_ ?_
    ·intro e10 hM K12 hK12;refine Zc ?_;refine lp (ι:=Int) [0,3,4] [] [448] (fun i=>[(5,oI i)]) (fun n i=>QB a0 x2 x3 n i=some e10) k 0 hM (by simp [QB]) ?_;intro KL13 nL13 x6 hL13 hM _;have hM:QB a0 x2 x3 (nL13+1) x6=some e10:=hM;rw [QB] at hM;refine Zg fun K14 hK14=> ?_;refine mj (ι:=Bool) [0,3,4,5] [] [448] (fun i=>[(28,oB i)]) hM ?_ ?_
     ·intro e15 hM K17 hK17;rcases ifM hM with ⟨h18,hM⟩| ⟨h18,hM⟩
      ·have F:=Zwg (nf F h18) (lT h18);obtain ⟨x8,e19,hM⟩:=bind_some hM;have F:=Zwg F (WZ e19);have F:=Zwg F (ZhY e19);obtain ⟨x9,e20,hM⟩:=bind_some hM;have F:=Zwg F (WZ e20);refine ZB 13 mixed (by kernel_rfl) (by kernel_rfl) ?_;simp [go_sem,F];exact au
      ·have F:=Zwg (nf F h18) (lF h18);refine ZB 13 mixed (by kernel_rfl) (by kernel_rfl) ?_;simp [go_sem,F];exact au
     ·intro x7 hM;(try dsimp only at hM);exact au
    ·intro x5 hM;(try dsimp only at hM);refine Zg fun K22 hK22=> ?_;refine mj (ι:=Bool) [0,3,4,5] [] [448] (fun i=>[(45,oB i)]) hM ?_ ?_
     ·intro e23 hM K25 hK25;rcases ifM hM with ⟨h26,hM⟩| ⟨h26,hM⟩
      ·have F:=Zwg (nf F h26) (lT h26);obtain ⟨x11,e27,hM⟩:=bind_some hM;have F:=Zwg F (WZ e27);have F:=Zwg F (ZhY e27);obtain ⟨x12,e28,hM⟩:=bind_some hM;have F:=Zwg F (WZ e28);refine ZB 13 mixed (by kernel_rfl) (by kernel_rfl) ?_;simp [go_sem,F];exact au
      ·have F:=Zwg (nf F h26) (lF h26);refine ZB 13 mixed (by kernel_rfl) (by kernel_rfl) ?_;simp [go_sem,F];exact au
     ·intro x10 hM;(try dsimp only at hM);refine Zn hM (fun h29 hM=> ?_) (fun h29 hM=> ?_)
      ·have F:=nf F h29;exact au
      ·have F:=nf F h29;refine Zi ?_;refine hK22 _ ?_;obtain ⟨x13,e30,hM⟩:=bind_some hM;obtain ⟨c31,s32⟩:=ZfL e30;replace c31:=c31.symm;subst c31;(try simp at s32);have F:=Zwg F s32;obtain ⟨x14,e37,hM⟩:=bind_some hM;obtain ⟨c38,s39⟩:=Z0 e37;replace c38:=c38.symm;subst c38;(try simp [F] at s39);have F:=Zwg F s39;refine S1 ?_;refine le1 [0,3,4,5,6] [] [448] ?_ (ca:=[(2944,aT sC (([]:List ByteArray)++((x2.take (x2.length:Int).toNat).drop x5.toNat)))]);obtain ⟨x15,e41,hM⟩:=bind_some hM;obtain ⟨c42,s43⟩:=ZfL e41;replace c42:=c42.symm;subst c42;(try simp at s43);have F:=Zwg F s43;obtain ⟨x16,e48,hM⟩:=bind_some hM;have F:=Zwg F (WZ e48);obtain ⟨x17,e49,hM⟩:=bind_some hM;obtain ⟨c50,s51⟩:=Z0 e49;replace c50:=c50.symm;subst c50;(try simp [F] at s51);have F:=Zwg F s51;obtain ⟨x18,e53,hM⟩:=bind_some hM;obtain ⟨c54,s55⟩:=Z0 e53;replace c54:=c54.symm;subst c54;(try simp [F] at s55);have F:=Zwg F s55;refine ZJ [[],[],[0,1],[],[],[3,4],[3,4,5],[3,4,5,6],[0,1,2,3,4,5,6,7],[10000448],[0,1,2,3,4,5,6,7,8,9],[0,1,2,3,4,5,6,7,8,9,10]] mixed (by kernel_rfl) ?_;simp [go_sem,F];refine ⟨Zq (by kernel_rfl), ?_⟩;obtain rfl:=si hM;exact fr hK9 [(3776,448)] [0,3,4] [] [3776] ((((x2.take x5.toNat).drop (0:Int).toNat)++[x16])++(([]:List ByteArray)++((x2.take (x2.length:Int).toNat).drop x5.toNat))) rfl
   ·intro x4 hM;(try dsimp only at hM);exact au
  ·have F:=Zwg (nf F h6) (lF h6);exact au
 ·intro x1 hM;(try dsimp only at hM);exact au
instance:HC 148 (Ty @Zai):=⟨Zai⟩
theorem Zak (k:Nat) (a0:Za) (r:List ByteArray) (hM:Kh k a0=some r):Ctr Tryz.prog 98 [.agg (Za.c a0)] true [.one (.sl (r.map sC))]:=by
 unfold Kh at hM;refine Zr Tryz.func98 Tryz.ntmps98 Tryz.results98 fun N w0 hbad F=> ?_;exact au
instance:HC 98 (Ty @Zak):=⟨Zak⟩
theorem Zah (k:Nat) (a0:Zm) (r:List ByteArray) (hM:ZaM k a0=some r):Ctr Tryz.prog 47 [.agg (Zm.c a0)] true [.one (.sl (r.map sC))]:=by
 unfold ZaM at hM;refine Zr Tryz.func47 Tryz.ntmps47 Tryz.results47 fun N w0 hbad F=> ?_;exact au
instance:HC 47 (Ty @Zah):=⟨Zah⟩
theorem Za8 (k:Nat) (a0:List Zm) (a1:ByteArray) (r:List Int) (hM:WD k a0 a1=some r):Ctr Tryz.prog 125 [.one (.sl (a0.map Zm.c)),.one (.str a1)] true [.one (.sl (r.map iC))]:=by
 unfold WD at hM;refine Zr Tryz.func125 Tryz.ntmps125 Tryz.results125 fun N w0 hbad F=> ?_;refine S1 ?_;refine S1 ?_;refine mj (ι:=List Int) [] [] [] (fun i=>[(5,oO 448 i.length)]) hM ?_ ?_ (ca:=fun i=>[(448,aT iC i)])
 ·intro e1 hM K3 hK3;refine S1 ?_;refine Zc ?_;refine lp (ι:=(List Int)×Int) [0,1] [] [] (fun i=>[(5,oO 448 i.1.length),(6,oI i.2)]) (fun n i=>Y7 a0 a1 n i.1 i.2=some e1) k (([]:List Int),0) hM (by simp [Y7]) ?_ (ca:=fun i=>[(448,aT iC i.1)]);intro KL4 nL4 ⟨x2,x3⟩ hL4 hM _;have hM:Y7 a0 a1 (nL4+1) x2 x3=some e1:=hM;rw [Y7] at hM;refine Zg fun K5 hK5=> ?_;refine S1 ?_;refine Zn hM (fun h6 hM=> ?_) (fun h6 hM=> ?_)
  ·have F:=Zwg (nf F h6) (lT h6);refine Zi ?_;refine hK5 _ ?_;refine mj (ι:=List Int) [0,1,6] [] [] (fun i=>[(5,oO 448 i.length)]) hM ?_ ?_ (ca:=fun i=>[(448,aT iC i)])
   ·intro e7 hM K9 hK9;refine Zc ?_;refine mj (ι:=Bool) [0,1,5,6] [] [448] (fun i=>[(28,oB i)]) hM ?_ ?_
    ·intro e10 hM K12 hK12;exact au
    ·intro x5 hM;(try dsimp only at hM);exact au
   ·intro x4 hM;(try dsimp only at hM);exact au
  ·have F:=Zwg (nf F h6) (lF h6);exact au
 ·intro x1 hM;(try dsimp only at hM);exact au
instance:HC 125 (Ty @Za8):=⟨Za8⟩
theorem Zb1 (k:Nat) (a0:List Zm) (a1:ByteArray) (r:Int) (hM:Vg k a0 a1=some r):Ctr Tryz.prog 72 [.one (.sl (a0.map Zm.c)),.one (.str a1)] true [.one (.int .i64 r)]:=by
 unfold Vg at hM;refine Zr Tryz.func72 Tryz.ntmps72 Tryz.results72 fun N w0 hbad F=> ?_;exact au
instance:HC 72 (Ty @Zb1):=⟨Zb1⟩
theorem Jr (k:Nat) (a0:List Int) (a1:Int) (r:Bool) (hM:Z8 k a0 a1=some r):Ctr Tryz.prog 28 [.one (.sl (a0.map iC)),.one (.int .i64 a1)] true [.one (.bool r)]:=by
 unfold Z8 at hM;refine Zr Tryz.func28 Tryz.ntmps28 Tryz.results28 fun N w0 hbad F=> ?_;refine S1 ?_;refine mjE (ι:=Unit) [] [] [] (fun i=>[]) hM ?_ ?_
 ·intro e1 hM hR1 K3 hK3;refine S1 ?_;refine Zc ?_;refine lp (ι:=Int) [0,1] [] [] (fun i=>[(5,oI i)]) (fun n i=>YO a0 a1 n i=some e1) k 0 hM (by simp [YO]) ?_;intro KL4 nL4 x1 hL4 hM _;have hM:YO a0 a1 (nL4+1) x1=some e1:=hM;rw [YO] at hM;exact au
 ·intro _ hM;dsimp only at hM;exact au
instance:HC 28 (Ty @Jr):=⟨Jr⟩
end Go.Proofs.YtbkllghhcphkaaaGreatDoor
