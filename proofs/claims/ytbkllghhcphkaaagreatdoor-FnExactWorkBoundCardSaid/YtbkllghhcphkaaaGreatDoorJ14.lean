import Derived.Test.YtbkllghhcphkaaaGreatDoorJ13
set_option linter.unusedSimpArgs false
set_option linter.unusedVariables false
namespace Go.Proofs.YtbkllghhcphkaaaGreatDoor
open Go.RowKit Am
set_option maxHeartbeats 4000000
set_option maxRecDepth 100000
theorem Zao (a0:Zd) (r:Zd) (hM:Uo a0=some r):Ctr Tryz.prog 92 [.agg (Zd.c a0)] true [.agg (Zd.c r)]:=by
 unfold Uo at hM;refine Zn Tryz.func92 Tryz.ntmps92 Tryz.results92 fun N w0 hbad F=> ?_;exact au
instance:HC 92 (Ty @Zao):=⟨Zao⟩
theorem Zgh (a0:Int) (a1:Int) (r:Int) (hM:ZcS a0 a1=some r):Ctr Tryz.prog 147 [.one (.int .i64 a0),.one (.int .i64 a1)] true [.one (.int .i64 r)]:=by
 unfold ZcS at hM;refine Zn Tryz.func147 Tryz.ntmps147 Tryz.results147 fun N w0 hbad F=> ?_;exact au
instance:HC 147 (Ty @Zgh):=⟨Zgh⟩
theorem ZbB (a0:List Zk) (a1:Int) (a2:Zk) (r:List Zk) (hM:Zce a0 a1 a2=some r):Ctr Tryz.prog 95 [.one (.sl (a0.map Zk.c)),.one (.int .i64 a1),.agg (Zk.c a2)] true [.one (.sl (r.map Zk.c))]:=by
 unfold Zce at hM;refine Zn Tryz.func95 Tryz.ntmps95 Tryz.results95 fun N w0 hbad F=> ?_;exact au
instance:HC 95 (Ty @ZbB):=⟨ZbB⟩
theorem Zam (a0:List Zk) (a1:Int) (r:List Zk) (hM:KD a0 a1=some r):Ctr Tryz.prog 96 [.one (.sl (a0.map Zk.c)),.one (.int .i64 a1)] true [.one (.sl (r.map Zk.c))]:=by
 unfold KD at hM;refine Zn Tryz.func96 Tryz.ntmps96 Tryz.results96 fun N w0 hbad F=> ?_;refine S1 ?_;refine Ze fun K1 hK1=> ?_;refine le1 [0,1] [] [] ?_;obtain ⟨x1,e2,hM⟩:=bind_some hM;obtain ⟨c3,s4⟩:=Vr e2;replace c3:=c3.symm;subst c3;(try simp at s4);have F:=Zyn F s4;obtain ⟨x2,e7,hM⟩:=bind_some hM;obtain ⟨c8,s9⟩:=ZG e7;replace c8:=c8.symm;subst c8;(try simp [F] at s9);have F:=Zyn F s9;obtain ⟨x3,e11,hM⟩:=bind_some hM;obtain ⟨c12,s13⟩:=Vr e11;replace c12:=c12.symm;subst c12;(try simp at s13);have F:=Zyn F s13;obtain ⟨x4,e16,hM⟩:=bind_some hM;obtain ⟨c17,s18⟩:=ZG e16;replace c17:=c17.symm;subst c17;(try simp [F] at s18);have F:=Zyn F s18;refine ZE [[],[],[],[1,2],[0,1,2,3],[10000320],[10000320],[6],[5,6,7],[0,1,2,3,4,5,6,7,8],[0,1,2,3,4,5,6,7,8,9]] mixed (by kernel_rfl) ?_;simp [go_sem,F];refine ⟨Zp (by kernel_rfl), ?_⟩;exact au
instance:HC 96 (Ty @Zam):=⟨Zam⟩
theorem Zan (k:Nat) (a0:Zk) (a1:YA) (r:Zk×Int) (hM:Xd k a0 a1=some r):Ctr Tryz.prog 97 [.agg (Zk.c a0),.agg (YA.c a1)] true [.agg (Zk.c r.1),.one (.int .i64 r.2)]:=by
 unfold Xd at hM;refine Zn Tryz.func97 Tryz.ntmps97 Tryz.results97 fun N w0 hbad F=> ?_;refine S1 ?_;refine mjE (ι:=ByteArray×ByteArray×Int) [2,3,4] [3,4] [] (fun i=>[]) hM ?_ ?_ (cb:=fun i=>[(2,[cI a0.id,cI a0.version,cI a0.kind,cS i.1,cS i.2.1,cI i.2.2])])
 ·intro e1 hM hR1 K3 hK3;exact au
 ·rintro ⟨x1,x2,x3⟩ hM;dsimp only at hM;refine mjE (ι:=Int) [2,4] [4] [] (fun i=>[]) hM ?_ ?_ (cb:=fun i=>[(2,[cI a0.id,cI i,cI a0.kind,cS x1,cS x2,cI x3])])
  ·intro e11 hM hR1 K13 hK13;exact au
  ·intro x4 hM;dsimp only at hM;exact au
instance:HC 97 (Ty @Zan):=⟨Zan⟩
theorem Js (k:Nat) (a0:Zd) (a1:YA) (r:Zd×Int) (hM:VY k a0 a1=some r):Ctr Tryz.prog 43 [.agg (Zd.c a0),.agg (YA.c a1)] true [.agg (Zd.c r.1),.one (.int .i64 r.2)]:=by
 unfold VY at hM;refine Zn Tryz.func43 Tryz.ntmps43 Tryz.results43 fun N w0 hbad F=> ?_;refine S1 ?_;obtain ⟨x1,e1,hM⟩:=bind_some hM;refine Zv fun K h=> ?_;simp [go_sem,F];refine Yl false (Zao a0 x1 e1) ?_;simp [go_sem,F];refine h _ ?_;refine Ze fun K2 hK2=> ?_;refine mj (ι:=Bool) [2,3,4,6] [2,3,4,6] [704] (fun i=>[(20,oB i)]) hM ?_ ?_
 ·intro e3 hM K5 hK5;exact au
 ·intro x2 hM;(try dsimp only at hM);refine Zj hM (fun h9 hM=> ?_) (fun h9 hM=> ?_)
  ·have F:=nf F h9;exact au
  ·have F:=nf F h9;refine Zh ?_;refine hK2 _ ?_;obtain ⟨x5,e10,hM⟩:=bind_some hM;refine Zv fun K h=> ?_;simp [go_sem,F];refine Yl false (WD k a0 a1.cell.id x5 e10) ?_;simp [go_sem,F];refine h _ ?_;refine Ze fun K11 hK11=> ?_;refine S1 ?_;refine Zj hM (fun h12 hM=> ?_) (fun h12 hM=> ?_)
   ·have F:=nf F h12;exact au
   ·have F:=nf F h12;refine Zh ?_;refine hK11 _ ?_;refine Ze fun K19 hK19=> ?_;refine S1 ?_;refine Zj hM (fun h20 hM=> ?_) (fun h20 hM=> ?_)
    ·have F:=Zyn (nf F h20) (lT h20);exact au
    ·have F:=Zyn (nf F h20) (lF h20);refine Zh ?_;refine hK19 _ ?_;refine Ze fun K21 hK21=> ?_;refine S1 ?_;refine Zc ?_;refine S1 ?_;refine Zj hM (fun h22 hM=> ?_) (fun h22 hM=> ?_)
     ·have F:=nf F h22;exact au
     ·have F:=nf F h22;refine S1 ?_;refine Zj hM (fun h24 hM=> ?_) (fun h24 hM=> ?_)
      ·have F:=nf F h24;refine Ze fun K25 hK25=> ?_;refine le1 [2,3,4,7] [2,3,4] [] ?_;obtain ⟨x9,e26,hM⟩:=bind_some hM;obtain ⟨x10,e27,hM⟩:=bind_some hM;have F:=Zyn F (Xy e27);obtain ⟨x11,e28,hM⟩:=bind_some hM;refine ZE [[],[0],[],[0,1,2],[],[4],[],[6],[],[6,7,8],[6,7,8,9],[0,1,2,3,4,5,6,7,8,9,10],[0,1,2,3,4,5,6,7,8,9,10,11],[0,1,2,3,4,5,6,7,8,9,10,11,12],[0,1,2,3,4,5,6,7,8,9,10,11,12,13]] mixed (by kernel_rfl) ?_;simp (maxSteps:=9999999) [go_sem,F];refine Yl false (Zam a0.cells x5 x9 e26) ?_;simp (maxSteps:=9999999) [go_sem,F];refine Yl false (ZbB x9 a1.at_ x10 x11 e28) ?_;simp (maxSteps:=9999999) [go_sem,F];refine ⟨Zp (by kernel_rfl), ?_⟩;exact au
      ·have F:=nf F h24;refine Zh ?_;refine hK21 _ ?_;refine Ze fun K29 hK29=> ?_;refine le1 [2,3,4,6,7] [2,3,4,6] [704] ?_;obtain ⟨x12,e30,hM⟩:=bind_some hM;have F:=Zyn F (Xy e30);obtain ⟨x13,e31,hM⟩:=bind_some hM;refine ZE [[],[0],[],[0,1,2],[0,1,2,3],[],[0,1,2,3,4,5],[0,1,2,3,4,5,6],[0,1,2,3,4,5,6,7],[0,1,2,3,4,5,6,7],[],[0,1,2,3,4,5,6,7,8,10],[0,1,2,3,4,5,6,7,8,9,10,11]] mixed (by kernel_rfl) ?_;simp (maxSteps:=9999999) [go_sem,F];refine Yl false (Zan k x12 a1 x13 e31) ?_;simp (maxSteps:=9999999) [go_sem,F];refine ⟨Zp (by kernel_rfl), ?_⟩;refine hK29 _ ?_;refine mj (ι:=List Zk) [4,6,9] [4] [] (fun i=>[]) hM ?_ ?_ (cb:=fun i=>[(6,[.own 704 i.length])]) (ca:=fun i=>[(704,aT Zk.c i)])
       ·intro e32 hM K34 hK34;exact au
       ·intro x14 hM;(try dsimp only at hM);exact au
instance:HC 43 (Ty @Js):=⟨Js⟩
theorem Wk (k:Nat) (a0:Zd) (a1:Zd) (r:List Int) (hM:Qb k a0 a1=some r):Ctr Tryz.prog 44 [.agg (Zd.c a0),.agg (Zd.c a1)] true [.one (.sl (r.map iC))]:=by
 unfold Qb at hM;refine Zn Tryz.func44 Tryz.ntmps44 Tryz.results44 fun N w0 hbad F=> ?_;refine S1 ?_;refine S1 ?_;refine mj (ι:=List Int) [] [] [] (fun i=>[(5,oO 512 i.length)]) hM ?_ ?_ (ca:=fun i=>[(512,aT iC i)])
 ·intro e1 hM K3 hK3;refine S1 ?_;refine Zc ?_;refine lp (ι:=(List Int)×Int) [2,3] [2,3] [] (fun i=>[(5,oO 512 i.1.length),(6,oI i.2)]) (fun n i=>ZO k a0 a1 n i.1 i.2=some e1) k (([]:List Int),0) hM (by simp [ZO]) ?_ (ca:=fun i=>[(512,aT iC i.1)]);intro KL4 nL4 ⟨x2,x3⟩ hL4 hM _;have hM:ZO k a0 a1 (nL4+1) x2 x3=some e1:=hM;rw [ZO] at hM;refine Ze fun K5 hK5=> ?_;refine S1 ?_;refine Zj hM (fun h6 hM=> ?_) (fun h6 hM=> ?_)
  ·have F:=Zyn (nf F h6) (lT h6);refine Zh ?_;refine hK5 _ ?_;refine mj (ι:=List Int) [2,3,6] [2,3] [] (fun i=>[(5,oO 512 i.length)]) hM ?_ ?_ (ca:=fun i=>[(512,aT iC i)])
   ·intro e7 hM K9 hK9;refine Zc ?_;refine Ze fun K10 hK10=> ?_;obtain ⟨x5,e11,hM⟩:=bind_some hM;have F:=Zyn F (Xy e11);obtain ⟨x6,e12,hM⟩:=bind_some hM;refine Zt 7 mixed (by kernel_rfl) (by kernel_rfl) ?_;simp [go_sem,F];refine Yl false (WD k a0 x5.id x6 e12) ?_;simp [go_sem,F];refine hK10 _ ?_;refine mj (ι:=Bool) [2,3,5,6] [2,3] [512] (fun i=>[(38,oB i)]) hM ?_ ?_
    ·intro e13 hM K15 hK15;rcases ifM hM with ⟨h16,hM⟩| ⟨h16,hM⟩
     ·have F:=Zyn (nf F h16) (lT h16);refine Zt 13 mixed (by kernel_rfl) (by kernel_rfl) ?_;simp [go_sem,F];exact au
     ·have F:=Zyn (nf F h16) (lF h16);obtain ⟨x8,e17,hM⟩:=bind_some hM;have F:=Zyn F (Xy e17);refine Zt 13 mixed (by kernel_rfl) (by kernel_rfl) ?_;simp [go_sem,F];exact au
    ·intro x7 hM;(try dsimp only at hM);exact au
   ·intro x4 hM;(try dsimp only at hM);exact au
  ·have F:=Zyn (nf F h6) (lF h6);exact au
 ·intro x1 hM;(try dsimp only at hM);exact au
instance:HC 44 (Ty @Wk):=⟨Wk⟩
theorem Ub (k:Nat) (a0:Zd) (a1:List Int) (r:List ByteArray) (hM:UX k a0 a1=some r):Ctr Tryz.prog 45 [.agg (Zd.c a0),.one (.sl (a1.map iC))] true [.one (.sl (r.map sC))]:=by
 unfold UX at hM;refine Zn Tryz.func45 Tryz.ntmps45 Tryz.results45 fun N w0 hbad F=> ?_;refine S1 ?_;refine S1 ?_;refine mj (ι:=List ByteArray) [] [] [] (fun i=>[(5,oO 448 i.length)]) hM ?_ ?_ (ca:=fun i=>[(448,aT sC i)])
 ·intro e1 hM K3 hK3;refine S1 ?_;refine Zc ?_;refine lp (ι:=(List ByteArray)×Int) [1,2] [2] [] (fun i=>[(5,oO 448 i.1.length),(6,oI i.2)]) (fun n i=>Y7 k a0 a1 n i.1 i.2=some e1) k (([]:List ByteArray),0) hM (by simp [Y7]) ?_ (ca:=fun i=>[(448,aT sC i.1)]);intro KL4 nL4 ⟨x2,x3⟩ hL4 hM _;have hM:Y7 k a0 a1 (nL4+1) x2 x3=some e1:=hM;rw [Y7] at hM;refine Ze fun K5 hK5=> ?_;refine S1 ?_;refine Zj hM (fun h6 hM=> ?_) (fun h6 hM=> ?_)
  ·have F:=Zyn (nf F h6) (lT h6);refine Zh ?_;refine hK5 _ ?_;refine mj (ι:=List ByteArray) [1,2,6] [2] [] (fun i=>[(5,oO 448 i.length)]) hM ?_ ?_ (ca:=fun i=>[(448,aT sC i)])
   ·intro e7 hM K9 hK9;refine Zc ?_;refine mj (ι:=Bool) [1,2,5,6] [2] [448] (fun i=>[(31,oB i)]) hM ?_ ?_
    ·intro e10 hM K12 hK12;exact au
    ·intro x5 hM;(try dsimp only at hM);exact au
   ·intro x4 hM;(try dsimp only at hM);exact au
  ·have F:=Zyn (nf F h6) (lF h6);exact au
 ·intro x1 hM;(try dsimp only at hM);exact au
instance:HC 45 (Ty @Ub):=⟨Ub⟩
theorem Kl (k:Nat) (a0:List Zq) (a1:Int) (r:List Int) (hM:KI k a0 a1=some r):Ctr Tryz.prog 99 [.one (.sl (a0.map Zq.c)),.one (.int .i64 a1)] true [.one (.sl (r.map iC))]:=by
 unfold KI at hM;refine Zn Tryz.func99 Tryz.ntmps99 Tryz.results99 fun N w0 hbad F=> ?_;exact au
instance:HC 99 (Ty @Kl):=⟨Kl⟩
theorem ZaQ (k:Nat) (a0:List Zq) (a1:List Int) (r:List Int) (hM:Vj k a0 a1=some r):Ctr Tryz.prog 48 [.one (.sl (a0.map Zq.c)),.one (.sl (a1.map iC))] true [.one (.sl (r.map iC))]:=by
 unfold Vj at hM;refine Zn Tryz.func48 Tryz.ntmps48 Tryz.results48 fun N w0 hbad F=> ?_;refine S1 ?_;refine S1 ?_;refine mj (ι:=List Int) [] [] [] (fun i=>[(5,oO 448 i.length)]) hM ?_ ?_ (ca:=fun i=>[(448,aT iC i)])
 ·intro e1 hM K3 hK3;refine S1 ?_;refine Zc ?_;refine lp (ι:=(List Int)×Int) [0,1] [] [] (fun i=>[(5,oO 448 i.1.length),(6,oI i.2)]) (fun n i=>Qj k a0 a1 n i.1 i.2=some e1) k (([]:List Int),0) hM (by simp [Qj]) ?_ (ca:=fun i=>[(448,aT iC i.1)]);intro KL4 nL4 ⟨x2,x3⟩ hL4 hM _;have hM:Qj k a0 a1 (nL4+1) x2 x3=some e1:=hM;rw [Qj] at hM;refine Ze fun K5 hK5=> ?_;refine S1 ?_;refine Zj hM (fun h6 hM=> ?_) (fun h6 hM=> ?_)
  ·have F:=Zyn (nf F h6) (lT h6);refine Zh ?_;refine hK5 _ ?_;refine mj (ι:=List Int) [0,1,6] [] [] (fun i=>[(5,oO 448 i.length)]) hM ?_ ?_ (ca:=fun i=>[(448,aT iC i)])
   ·intro e7 hM K9 hK9;refine Zc ?_;obtain ⟨x5,e10,hM⟩:=bind_some hM;have F:=Zyn F (Xy e10);obtain ⟨x6,e11,hM⟩:=bind_some hM;refine Zv fun K h=> ?_;simp [go_sem,F];refine Yl false (Zcf x5 0 (IntKind.i64.wrap ((a0.length:Int)-1)) x6 e11) ?_;simp [go_sem,F];refine h _ ?_;refine Zj hM (fun h12 hM=> ?_) (fun h12 hM=> ?_)
    ·have F:=nf F h12;refine le1 [0,1,5,6] [] [448] ?_;obtain ⟨x7,e13,hM⟩:=bind_some hM;obtain ⟨c14,s15⟩:=ZG e13;replace c14:=c14.symm;subst c14;(try simp at s15);have F:=Zyn F s15;obtain ⟨x8,e17,hM⟩:=bind_some hM;obtain ⟨x9,e18,hM⟩:=bind_some hM;obtain ⟨c19,s20⟩:=ZG e18;replace c19:=c19.symm;subst c19;(try simp at s20);have F:=Zyn F s20;refine ZE [[],[],[],[1,2],[1,2,3],[1,2,3,4],[0,1,2,3,4,5],[10000448],[10000448],[10000448],[8,9,10000448],[8,9,10,10000448],[0,1,2,3,4,5,6,7,8,9,10,11],[0,1,2,3,4,5,6,7,8,9,10,11,12],[0,1,2,3,4,5,6,7,8,9,10,11,12,13]] mixed (by kernel_rfl) ?_;simp (maxSteps:=9999999) [go_sem,F];refine Yl false (Kl k a0 x5 x8 e17) ?_;simp (maxSteps:=9999999) [go_sem,F];refine ⟨Zp (by kernel_rfl), ?_⟩;exact au
    ·have F:=nf F h12;exact au
   ·intro x4 hM;(try dsimp only at hM);exact au
  ·have F:=Zyn (nf F h6) (lF h6);exact au
 ·intro x1 hM;(try dsimp only at hM);exact au
instance:HC 48 (Ty @ZaQ):=⟨ZaQ⟩
theorem Ji (k:Nat) (a0:Zz) (a1:YA) (r:Int) (hM:Jj k a0 a1=some r):Ctr Tryz.prog 16 [.agg (Zz.c a0),.agg (YA.c a1)] true [.one (.int .i64 r)]:=by
 unfold Jj at hM;refine Zn Tryz.func16 Tryz.ntmps16 Tryz.results16 fun N w0 hbad F=> ?_;refine S1 ?_;obtain ⟨x1,e1,hM⟩:=bind_some hM;refine Zv fun K h=> ?_;simp [go_sem,F];refine Yl false (Js k a0.notebook a1 x1 e1) ?_;simp [go_sem,F];refine h _ ?_;refine Ze fun K2 hK2=> ?_;refine le1 [2,5] [2,5] [1216] ?_;obtain ⟨x2,e3,hM⟩:=bind_some hM;obtain ⟨x3,e4,hM⟩:=bind_some hM;obtain ⟨x4,e5,hM⟩:=bind_some hM;obtain ⟨c6,s7⟩:=ZG e5;replace c6:=c6.symm;subst c6;(try simp at s7);have F:=Zyn F s7;refine ZE [[],[0],[],[0,1,2],[],[],[5],[0,1,2,3,4,5,6],[0,1,2,3,4,5,6,7],[0,1,2,3,4,5,6,7,8]] mixed (by kernel_rfl) ?_;simp [go_sem,F];refine Yl false (Wk k a0.notebook x1.1 x2 e3) ?_;simp [go_sem,F];refine Yl false (Wk k x1.1 a0.notebook x3 e4) ?_;simp [go_sem,F];refine ⟨Zp (by kernel_rfl), ?_⟩;refine hK2 _ ?_;refine Ze fun K9 hK9=> ?_;refine le1 [2,5,7] [2,5] [1216] ?_ (ca:=[(1600,aT iC (x2++x3))]);obtain ⟨x5,e10,hM⟩:=bind_some hM;obtain ⟨x6,e11,hM⟩:=bind_some hM;obtain ⟨x7,e12,hM⟩:=bind_some hM;obtain ⟨c13,s14⟩:=ZG e12;replace c13:=c13.symm;subst c13;(try simp at s14);have F:=Zyn F s14;refine ZE [[],[0],[],[0,1,2],[],[],[0,1,2,3,4,5],[0,1,2,3,4,5,6],[0,1,2,3,4,5,6,7]] mixed (by kernel_rfl) ?_;simp [go_sem,F];refine Yl false (Ub k a0.notebook (x2++x3) x5 e10) ?_;simp [go_sem,F];refine Yl false (Ub k x1.1 (x2++x3) x6 e11) ?_;simp [go_sem,F];refine ⟨Zp (by kernel_rfl), ?_⟩;refine hK9 _ ?_;refine le1 [5,7,8] [] [] ?_ (cb:=[(5,[cL Zk.c x1.1.cells])]) (ca:=[(1600,aT iC (x2++x3)),(2176,aT sC (x5++x6))]);obtain ⟨x8,e16,hM⟩:=bind_some hM;refine Zv fun K h=> ?_;simp [go_sem,F];refine Yl false (UD k x1.1 x8 e16) ?_;simp [go_sem,F];refine h _ ?_;refine S1 ?_;refine mj (ι:=List Int) [9] [] [] (fun i=>[(10,oO 2624 i.length)]) hM ?_ ?_ (ca:=fun i=>[(2624,aT iC i)])
 ·intro e17 hM K19 hK19;refine S1 ?_;refine Zc ?_;refine lp (ι:=(List Int)×Int) [5,7,8,9] [5] [] (fun i=>[(10,oO 2624 i.1.length),(11,oI i.2)]) (fun n i=>YH k x1 x2 x3 x5 x6 x8 n i.1 i.2=some e17) k (([]:List Int),0) hM (by simp [YH]) ?_ (ca:=fun i=>[(1600,aT iC (x2++x3)),(2176,aT sC (x5++x6)),(2624,aT iC i.1)]);intro KL20 nL20 ⟨x10,x11⟩ hL20 hM _;have hM:YH k x1 x2 x3 x5 x6 x8 (nL20+1) x10 x11=some e17:=hM;rw [YH] at hM;refine Ze fun K21 hK21=> ?_;refine S1 ?_;refine Zj hM (fun h22 hM=> ?_) (fun h22 hM=> ?_)
  ·have F:=Zyn (nf F h22) (lT h22);refine Zh ?_;refine hK21 _ ?_;refine mj (ι:=List Int) [5,7,8,9,11] [5] [] (fun i=>[(10,oO 2624 i.length)]) hM ?_ ?_ (ca:=fun i=>[(1600,aT iC (x2++x3)),(2176,aT sC (x5++x6)),(2624,aT iC i)])
   ·intro e23 hM K25 hK25;refine Zc ?_;refine mj (ι:=Bool) [5,7,8,9,10,11] [5] [2624] (fun i=>[(12,oB i)]) hM ?_ ?_ (ca:=fun i=>[(1600,aT iC (x2++x3)),(2176,aT sC (x5++x6))])
    ·intro e26 hM K28 hK28;exact au
    ·intro x13 hM;(try dsimp only at hM);obtain ⟨x18,e35,hM⟩:=bind_some hM;have F:=Zyn F (Xy e35);obtain ⟨x19,e36,hM⟩:=bind_some hM;refine Zv fun K h=> ?_;simp [go_sem,F];refine Yl false (JW k x18 x19 e36) ?_;simp [go_sem,F];refine h _ ?_;refine mj (ι:=Bool) [5,7,8,9,10,11] [5] [2624] (fun i=>[(12,oB i)]) hM ?_ ?_ (ca:=fun i=>[(1600,aT iC (x2++x3)),(2176,aT sC (x5++x6))])
     ·intro e37 hM K39 hK39;refine S1 ?_;refine Zc ?_;refine lp (ι:=Bool×Int) [5,7,8,9,10,11,13] [5] [2624,4928] (fun i=>[(12,oB i.1),(14,oI i.2)]) (fun n i=>YG k x5 x6 x19 n i.1 i.2=some e37) k (x13,0) hM (by simp [YG]) ?_ (ca:=fun i=>[(1600,aT iC (x2++x3)),(2176,aT sC (x5++x6))]);intro KL40 nL40 ⟨x21,x22⟩ hL40 hM _;have hM:YG k x5 x6 x19 (nL40+1) x21 x22=some e37:=hM;rw [YG] at hM;refine Ze fun K41 hK41=> ?_;refine S1 ?_;refine Zj hM (fun h42 hM=> ?_) (fun h42 hM=> ?_)
      ·have F:=Zyn (nf F h42) (lT h42);refine Zh ?_;refine hK41 _ ?_;refine mj (ι:=Bool) [5,7,8,9,10,11,13,14] [5] [2624,4928] (fun i=>[(12,oB i)]) hM ?_ ?_ (ca:=fun i=>[(1600,aT iC (x2++x3)),(2176,aT sC (x5++x6))])
       ·intro e43 hM K45 hK45;exact au
       ·intro x23 hM;(try dsimp only at hM);exact au
      ·have F:=Zyn (nf F h42) (lF h42);exact au
     ·intro x20 hM;(try dsimp only at hM);exact au
   ·intro x12 hM;(try dsimp only at hM);exact au
  ·have F:=Zyn (nf F h22) (lF h22);exact au
 ·intro x9 hM;(try dsimp only at hM);exact au
instance:HC 16 (Ty @Ji):=⟨Ji⟩
theorem Vz (a0:Zd) (r:Zd) (hM:YM a0=some r):Ctr Tryz.prog 104 [.agg (Zd.c a0)] true [.agg (Zd.c r)]:=by
 unfold YM at hM;refine Zn Tryz.func104 Tryz.ntmps104 Tryz.results104 fun N w0 hbad F=> ?_;exact au
instance:HC 104 (Ty @Vz):=⟨Vz⟩
theorem Uh (a0:List Zk) (a1:Int) (a2:Zk) (r:List Zk) (hM:UZ a0 a1 a2=some r):Ctr Tryz.prog 155 [.one (.sl (a0.map Zk.c)),.one (.int .i64 a1),.agg (Zk.c a2)] true [.one (.sl (r.map Zk.c))]:=by
 unfold UZ at hM;refine Zn Tryz.func155 Tryz.ntmps155 Tryz.results155 fun N w0 hbad F=> ?_;refine S1 ?_;refine S1 ?_;refine Ze fun K1 hK1=> ?_;refine le1 [0,5,7] [5] [] ?_;obtain ⟨x1,e2,hM⟩:=bind_some hM;obtain ⟨c3,s4⟩:=Vr e2;replace c3:=c3.symm;subst c3;(try simp at s4);have F:=Zyn F s4;obtain ⟨x2,e7,hM⟩:=bind_some hM;obtain ⟨c8,s9⟩:=ZG e7;replace c8:=c8.symm;subst c8;(try simp [F] at s9);have F:=Zyn F s9;obtain ⟨x3,e11,hM⟩:=bind_some hM;obtain ⟨c12,s13⟩:=ZG e11;replace c12:=c12.symm;subst c12;(try simp [F] at s13);have F:=Zyn F s13;obtain ⟨x4,e15,hM⟩:=bind_some hM;obtain ⟨c16,s17⟩:=Vr e15;replace c16:=c16.symm;subst c16;(try simp at s17);have F:=Zyn F s17;obtain ⟨x5,e20,hM⟩:=bind_some hM;obtain ⟨c21,s22⟩:=ZG e20;replace c21:=c21.symm;subst c21;(try simp [F] at s22);have F:=Zyn F s22;refine ZE [[],[],[],[1,2],[0,1,2,3],[],[5],[0,1,2,3,4,5,6],[10000832],[10000832],[8,9],[0,1,2,3,4,5,6,7,8,9,10],[0,1,2,3,4,5,6,7,8,9,10,11]] mixed (by kernel_rfl) ?_;simp (maxSteps:=9999999) [go_sem,F];refine ⟨Zp (by kernel_rfl), ?_⟩;exact au
instance:HC 155 (Ty @Uh):=⟨Uh⟩
theorem UP (a0:List Zk) (a1:Int) (r:List Zk) (hM:KN a0 a1=some r):Ctr Tryz.prog 156 [.one (.sl (a0.map Zk.c)),.one (.int .i64 a1)] true [.one (.sl (r.map Zk.c))]:=by
 unfold KN at hM;refine Zn Tryz.func156 Tryz.ntmps156 Tryz.results156 fun N w0 hbad F=> ?_;refine S1 ?_;refine Ze fun K1 hK1=> ?_;refine le1 [0,1] [] [] ?_;obtain ⟨x1,e2,hM⟩:=bind_some hM;obtain ⟨c3,s4⟩:=Vr e2;replace c3:=c3.symm;subst c3;(try simp at s4);have F:=Zyn F s4;obtain ⟨x2,e7,hM⟩:=bind_some hM;obtain ⟨c8,s9⟩:=ZG e7;replace c8:=c8.symm;subst c8;(try simp [F] at s9);have F:=Zyn F s9;obtain ⟨x3,e11,hM⟩:=bind_some hM;obtain ⟨c12,s13⟩:=Vr e11;replace c12:=c12.symm;subst c12;(try simp at s13);have F:=Zyn F s13;obtain ⟨x4,e16,hM⟩:=bind_some hM;obtain ⟨c17,s18⟩:=ZG e16;replace c17:=c17.symm;subst c17;(try simp [F] at s18);have F:=Zyn F s18;refine ZE [[],[],[],[1,2],[0,1,2,3],[10000320],[10000320],[6],[5,6,7],[0,1,2,3,4,5,6,7,8],[0,1,2,3,4,5,6,7,8,9]] mixed (by kernel_rfl) ?_;simp [go_sem,F];refine ⟨Zp (by kernel_rfl), ?_⟩;exact au
instance:HC 156 (Ty @UP):=⟨UP⟩
set_option maxHeartbeats 4000000
set_option maxRecDepth 100000
theorem Zfq (a0:Int) (a1:Int) (a2:Int) (r:Bool) (hM:X7 a0 a1 a2=some r):Ctr Tryz.prog 103 [.one (.int .i64 a0),.one (.int .i64 a1),.one (.int .i64 a2)] true [.one (.bool r)]:=by
 unfold X7 at hM;refine Zn Tryz.func103 Tryz.ntmps103 Tryz.results103 fun N w0 hbad F=> ?_;refine S1 ?_;refine mj (ι:=Bool) [] [] [] (fun i=>[(6,oB i)]) hM ?_ ?_
 ·intro e1 hM K3 hK3;exact au
 ·intro x1 hM;(try dsimp only at hM);exact au
instance:HC 103 (Ty @Zfq):=⟨Zfq⟩
theorem KT (k:Nat) (a0:ByteArray) (r:Bool) (hM:W1 k a0=some r):Ctr Tryz.prog 176 [.one (.str a0)] true [.one (.bool r)]:=by
 unfold W1 at hM;refine Zn Tryz.func176 Tryz.ntmps176 Tryz.results176 fun N w0 hbad F=> ?_;refine S1 ?_;refine mjE (ι:=Unit) [0] [] [] (fun i=>[]) hM ?_ ?_
 ·intro e1 hM hR1 K3 hK3;refine S1 ?_;refine Zc ?_;refine lp (ι:=Int) [0] [] [] (fun i=>[(3,oI i)]) (fun n i=>Y1 a0 n i=some e1) k 0 hM (by simp [Y1]) ?_;intro KL4 nL4 x1 hL4 hM _;have hM:Y1 a0 (nL4+1) x1=some e1:=hM;rw [Y1] at hM;refine Ze fun K5 hK5=> ?_;refine S1 ?_;refine Zj hM (fun h6 hM=> ?_) (fun h6 hM=> ?_)
  ·have F:=Zyn (nf F h6) (lT h6);refine Zh ?_;refine hK5 _ ?_;refine Ze fun K7 hK7=> ?_;refine Zc ?_;refine mj (ι:=Bool) [0,3] [] [] (fun i=>[(19,oB i)]) hM ?_ ?_
   ·intro e8 hM K10 hK10;exact au
   ·intro x2 hM;(try dsimp only at hM);exact au
  ·have F:=Zyn (nf F h6) (lF h6);exact au
 ·intro _ hM;dsimp only at hM;exact au
instance:HC 176 (Ty @KT):=⟨KT⟩
theorem Zfr (k:Nat) (a0:ByteArray) (r:Bool) (hM:Zed k a0=some r):Ctr Tryz.prog 217 [.one (.str a0)] true [.one (.bool r)]:=by
 unfold Zed at hM;refine Zn Tryz.func217 Tryz.ntmps217 Tryz.results217 fun N w0 hbad F=> ?_;refine S1 ?_;refine mjE (ι:=Unit) [0] [] [] (fun i=>[]) hM ?_ ?_
 ·intro e1 hM hR1 K3 hK3;refine S1 ?_;refine Zc ?_;refine lp (ι:=Int) [0] [] [] (fun i=>[(3,oI i)]) (fun n i=>WJ a0 n i=some e1) k 0 hM (by simp [WJ]) ?_;intro KL4 nL4 x1 hL4 hM _;have hM:WJ a0 (nL4+1) x1=some e1:=hM;rw [WJ] at hM;refine Ze fun K5 hK5=> ?_;refine S1 ?_;refine Zj hM (fun h6 hM=> ?_) (fun h6 hM=> ?_)
  ·have F:=Zyn (nf F h6) (lT h6);refine Zh ?_;refine hK5 _ ?_;refine Ze fun K7 hK7=> ?_;refine Zc ?_;refine mj (ι:=Bool) [0,3] [] [] (fun i=>[(4,oB i)]) hM ?_ ?_
   ·intro e8 hM K10 hK10;exact au
   ·intro x2 hM;(try dsimp only at hM);refine mj (ι:=Bool) [0,3] [] [] (fun i=>[(38,oB i)]) hM ?_ ?_
    ·intro e13 hM K15 hK15;exact au
    ·intro x4 hM;(try dsimp only at hM);exact au
  ·have F:=Zyn (nf F h6) (lF h6);exact au
 ·intro _ hM;dsimp only at hM;exact au
instance:HC 217 (Ty @Zfr):=⟨Zfr⟩
theorem JG (a0:ByteArray) (r:Int) (hM:ZM a0=some r):Ctr Tryz.prog 234 [.one (.str a0)] true [.one (.int .i64 r)]:=by
 unfold ZM at hM;refine Zn Tryz.func234 Tryz.ntmps234 Tryz.results234 fun N w0 hbad F=> ?_;refine S1 ?_;refine Ze fun K1 hK1=> ?_;refine S1 ?_;refine Zc ?_;refine S1 ?_;refine Zj hM (fun h2 hM=> ?_) (fun h2 hM=> ?_)
 ·have F:=nf F h2;exact au
 ·have F:=nf F h2;refine mj (ι:=Bool) [3] [] [] (fun i=>[(6,oB i)]) hM ?_ ?_
  ·intro e3 hM K5 hK5;exact au
  ·intro x1 hM;(try dsimp only at hM);refine Zj hM (fun h10 hM=> ?_) (fun h10 hM=> ?_)
   ·have F:=nf F h10;exact au
   ·have F:=nf F h10;refine mj (ι:=Bool) [3] [] [] (fun i=>[(12,oB i)]) hM ?_ ?_
    ·intro e11 hM K13 hK13;exact au
    ·intro x2 hM;(try dsimp only at hM);refine Zj hM (fun h20 hM=> ?_) (fun h20 hM=> ?_)
     ·have F:=nf F h20;exact au
     ·have F:=nf F h20;refine mj (ι:=Bool) [3] [] [] (fun i=>[(20,oB i)]) hM ?_ ?_
      ·intro e21 hM K23 hK23;exact au
      ·intro x3 hM;(try dsimp only at hM);exact au
instance:HC 234 (Ty @JG):=⟨JG⟩
theorem ZaS (a0:ByteArray) (r:Bool) (hM:Uy a0=some r):Ctr Tryz.prog 218 [.one (.str a0)] true [.one (.bool r)]:=by
 unfold Uy at hM;refine Zn Tryz.func218 Tryz.ntmps218 Tryz.results218 fun N w0 hbad F=> ?_;refine S1 ?_;refine Ze fun K1 hK1=> ?_;refine S1 ?_;refine Zc ?_;refine mj (ι:=Bool) [0] [] [] (fun i=>[(4,oB i)]) hM ?_ ?_
 ·intro e2 hM K4 hK4;exact au
 ·intro x1 hM;(try dsimp only at hM);exact au
instance:HC 218 (Ty @ZaS):=⟨ZaS⟩
theorem KR (k:Nat) (a0:ByteArray) (r:Bool) (hM:Z2 k a0=some r):Ctr Tryz.prog 177 [.one (.str a0)] true [.one (.bool r)]:=by
 unfold Z2 at hM;refine Zn Tryz.func177 Tryz.ntmps177 Tryz.results177 fun N w0 hbad F=> ?_;refine S1 ?_;refine mj (ι:=Bool) [] [] [] (fun i=>[(2,oB i)]) hM ?_ ?_
 ·intro e1 hM K3 hK3;exact au
 ·intro x1 hM;(try dsimp only at hM);exact au
instance:HC 177 (Ty @KR):=⟨KR⟩
theorem XC (k:Nat) (a0:Zk) (r:Bool) (hM:YX k a0=some r):Ctr Tryz.prog 126 [.agg (Zk.c a0)] true [.one (.bool r)]:=by
 unfold YX at hM;refine Zn Tryz.func126 Tryz.ntmps126 Tryz.results126 fun N w0 hbad F=> ?_;refine S1 ?_;refine Ze fun K1 hK1=> ?_;refine mj (ι:=Bool) [1] [1] [] (fun i=>[(18,oB i)]) hM ?_ ?_
 ·intro e2 hM K4 hK4;exact au
 ·intro x1 hM;(try dsimp only at hM);refine Zj hM (fun h10 hM=> ?_) (fun h10 hM=> ?_)
  ·have F:=nf F h10;exact au
  ·have F:=nf F h10;refine Zh ?_;refine hK1 _ ?_;refine Ze fun K11 hK11=> ?_;refine S1 ?_;refine Zc ?_;refine S1 ?_;refine Zj hM (fun h12 hM=> ?_) (fun h12 hM=> ?_)
   ·have F:=nf F h12;refine mj (ι:=Bool) [] [] [] (fun i=>[(2,oB i)]) hM ?_ ?_
    ·intro e13 hM K15 hK15;exact au
    ·intro x5 hM;(try dsimp only at hM);exact au
   ·have F:=nf F h12;refine mj (ι:=Bool) [1,20] [1] [] (fun i=>[(31,oB i)]) hM ?_ ?_
    ·intro e17 hM K19 hK19;exact au
    ·intro x6 hM;(try dsimp only at hM);refine Zj hM (fun h21 hM=> ?_) (fun h21 hM=> ?_)
     ·have F:=nf F h21;refine mj (ι:=Bool) [] [] [] (fun i=>[(2,oB i)]) hM ?_ ?_
      ·intro e22 hM K24 hK24;exact au
      ·intro x7 hM;(try dsimp only at hM);exact au
     ·have F:=nf F h21;refine S1 ?_;refine Zj hM (fun h27 hM=> ?_) (fun h27 hM=> ?_)
      ·have F:=nf F h27;refine mj (ι:=Bool) [] [] [] (fun i=>[(2,oB i)]) hM ?_ ?_
       ·intro e28 hM K30 hK30;exact au
       ·intro x9 hM;(try dsimp only at hM);exact au
      ·have F:=nf F h27;exact au
instance:HC 126 (Ty @XC):=⟨XC⟩
theorem XD (k:Nat) (a0:Zd) (a1:Int) (r:Int) (hM:Y6 k a0 a1=some r):Ctr Tryz.prog 55 [.agg (Zd.c a0),.one (.int .i64 a1)] true [.one (.int .i64 r)]:=by
 unfold Y6 at hM;refine Zn Tryz.func55 Tryz.ntmps55 Tryz.results55 fun N w0 hbad F=> ?_;refine S1 ?_;refine mjE (ι:=Unit) [] [] [] (fun i=>[]) hM ?_ ?_
 ·intro e1 hM hR1 K3 hK3;refine S1 ?_;refine Zc ?_;refine lp (ι:=Int) [1,8,9] [] [] (fun i=>[(10,oI i)]) (fun n i=>QP a0 a1 n i=some e1) k 0 hM (by simp [QP]) ?_;intro KL4 nL4 x1 hL4 hM _;have hM:QP a0 a1 (nL4+1) x1=some e1:=hM;rw [QP] at hM;exact au
 ·intro _ hM;dsimp only at hM;exact au
instance:HC 55 (Ty @XD):=⟨XD⟩
end Go.Proofs.YtbkllghhcphkaaaGreatDoor
