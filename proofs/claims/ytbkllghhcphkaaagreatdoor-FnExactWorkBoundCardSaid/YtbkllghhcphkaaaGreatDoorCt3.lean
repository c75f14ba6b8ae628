import Derived.Test.YtbkllghhcphkaaaGreatDoorCt2
set_option linter.unusedSimpArgs false
set_option linter.unusedVariables false
namespace Go.Proofs.YtbkllghhcphkaaaGreatDoor
open Go.RowKit Am
set_option maxHeartbeats 4000000
set_option maxRecDepth 100000
theorem Vb (a0:Int) (r:Za) (hM:Ur a0=some r):Ctr Tryz.prog 112 [.one (.int .i64 a0)] true [.agg (Za.c r)]:=by
 unfold Ur at hM;refine Zn Tryz.func112 Tryz.ntmps112 Tryz.results112 fun N w0 hbad F=> ?_;exact au
instance:HC 112 (Ty @Vb):=⟨Vb⟩
theorem VW (a0:Int) (r:Za) (hM:Zas a0=some r):Ctr Tryz.prog 113 [.one (.int .i64 a0)] true [.agg (Za.c r)]:=by
 unfold Zas at hM;refine Zn Tryz.func113 Tryz.ntmps113 Tryz.results113 fun N w0 hbad F=> ?_;exact au
instance:HC 113 (Ty @VW):=⟨VW⟩
theorem Uc (k:Nat) (a0:ByteArray) (r:List ByteArray) (hM:UY k a0=some r):Ctr Tryz.prog 169 [.one (.str a0)] true [.one (.sl (r.map sC))]:=by
 unfold UY at hM;refine Zn Tryz.func169 Tryz.ntmps169 Tryz.results169 fun N w0 hbad F=> ?_;refine S1 ?_;refine S1 ?_;refine S1 ?_;refine mj (ι:=(List ByteArray)×Int) [0] [] [] (fun i=>[(3,oO 384 i.1.length),(4,oI i.2)]) hM ?_ ?_ (ca:=fun i=>[(384,aT sC i.1)])
 ·intro e1 hM K3 hK3;refine S1 ?_;refine Zc ?_;refine lp (ι:=(List ByteArray)×Int×Int) [0] [] [] (fun i=>[(3,oO 384 i.1.length),(4,oI i.2.1),(5,oI i.2.2)]) (fun n i=>ZU a0 n i.1 i.2.1 i.2.2=some e1) k (([]:List ByteArray),0,0) hM (by simp [ZU]) ?_ (ca:=fun i=>[(384,aT sC i.1)]);intro KL4 nL4 ⟨x3,x4,x5⟩ hL4 hM _;have hM:ZU a0 (nL4+1) x3 x4 x5=some e1:=hM;rw [ZU] at hM;refine Ze fun K5 hK5=> ?_;refine S1 ?_;refine Zj hM (fun h6 hM=> ?_) (fun h6 hM=> ?_)
  ·have F:=Zyn (nf F h6) (lT h6);refine Zh ?_;refine hK5 _ ?_;refine mj (ι:=(List ByteArray)×Int) [0,5] [] [] (fun i=>[(3,oO 384 i.1.length),(4,oI i.2)]) hM ?_ ?_ (ca:=fun i=>[(384,aT sC i.1)])
   ·intro e7 hM K9 hK9;refine Zc ?_;refine mj (ι:=Bool) [0,3,4,5] [] [384] (fun i=>[(24,oB i)]) hM ?_ ?_
    ·intro e10 hM K12 hK12;exact au
    ·intro x8 hM;(try dsimp only at hM);exact au
   ·rintro ⟨x6,x7⟩ hM;dsimp only at hM;exact au
  ·have F:=Zyn (nf F h6) (lF h6);exact au
 ·rintro ⟨x1,x2⟩ hM;dsimp only at hM;exact au
instance:HC 169 (Ty @Uc):=⟨Uc⟩
theorem WA (k:Nat) (a0:ByteArray) (a1:Int) (r:List ByteArray) (hM:Vg k a0 a1=some r):Ctr Tryz.prog 170 [.one (.str a0),.one (.int .u8 a1)] true [.one (.sl (r.map sC))]:=by
 unfold Vg at hM;refine Zn Tryz.func170 Tryz.ntmps170 Tryz.results170 fun N w0 hbad F=> ?_;refine S1 ?_;refine S1 ?_;refine S1 ?_;refine mj (ι:=List ByteArray) [] [] [] (fun i=>[(5,oO 512 i.length)]) hM ?_ ?_ (ca:=fun i=>[(512,aT sC i)])
 ·intro e1 hM K3 hK3;refine S1 ?_;refine Zc ?_;refine lp (ι:=(List ByteArray)×Int×Int) [0,1] [] [] (fun i=>[(5,oO 512 i.1.length),(6,oI i.2.1),(7,oI i.2.2)]) (fun n i=>YI a0 a1 n i.1 i.2.1 i.2.2=some e1) k (([]:List ByteArray),0,0) hM (by simp [YI]) ?_ (ca:=fun i=>[(512,aT sC i.1)]);intro KL4 nL4 ⟨x2,x3,x4⟩ hL4 hM _;have hM:YI a0 a1 (nL4+1) x2 x3 x4=some e1:=hM;rw [YI] at hM;refine Ze fun K5 hK5=> ?_;refine S1 ?_;refine Zj hM (fun h6 hM=> ?_) (fun h6 hM=> ?_)
  ·have F:=Zyn (nf F h6) (eT h6);refine Zh ?_;refine hK5 _ ?_;refine mj (ι:=(List ByteArray)×Int) [0,1,7] [] [] (fun i=>[(5,oO 512 i.1.length),(6,oI i.2)]) hM ?_ ?_ (ca:=fun i=>[(512,aT sC i.1)])
   ·intro e7 hM K9 hK9;refine Zc ?_;refine mj (ι:=Bool) [0,1,5,6,7] [] [512] (fun i=>[(25,oB i)]) hM ?_ ?_
    ·intro e10 hM K12 hK12;exact au
    ·intro x7 hM;(try dsimp only at hM);exact au
   ·rintro ⟨x5,x6⟩ hM;dsimp only at hM;exact au
  ·have F:=Zyn (nf F h6) (eF h6);exact au
 ·intro x1 hM;(try dsimp only at hM);exact au
instance:HC 170 (Ty @WA):=⟨WA⟩
theorem ZcB (a0:Int) (r:Bool) (hM:Qs a0=some r):Ctr Tryz.prog 211 [.one (.int .i64 a0)] true [.one (.bool r)]:=by
 unfold Qs at hM;refine Zn Tryz.func211 Tryz.ntmps211 Tryz.results211 fun N w0 hbad F=> ?_;exact au
instance:HC 211 (Ty @ZcB):=⟨ZcB⟩
theorem JU (k:Nat) (a0:ByteArray) (a1:Int) (r:(List Int)×Bool) (hM:JV k a0 a1=some r):Ctr Tryz.prog 171 [.one (.str a0),.one (.int .i64 a1)] true [.one (.sl (r.1.map iC)),.one (.bool r.2)]:=by
 unfold JV at hM;refine Zn Tryz.func171 Tryz.ntmps171 Tryz.results171 fun N w0 hbad F=> ?_;refine S1 ?_;refine S1 ?_;obtain ⟨x1,e1,hM⟩:=bind_some hM;refine Zv fun K h=> ?_;simp [go_sem,F];refine Yl false (WA k a0 32 x1 e1) ?_;simp [go_sem,F];refine h _ ?_;refine mjE (ι:=List Int) [1] [] [] (fun i=>[(6,oO 704 i.length)]) hM ?_ ?_ (ca:=fun i=>[(704,aT iC i)])
 ·intro e2 hM hR1 K4 hK4;refine S1 ?_;refine Zc ?_;refine lp (ι:=(List Int)×Int) [1,7] [] [832] (fun i=>[(6,oO 704 i.1.length),(8,oI i.2)]) (fun n i=>YT k x1 n i.1 i.2=some e2) k (([]:List Int),0) hM (by simp [YT]) ?_ (ca:=fun i=>[(704,aT iC i.1)]);intro KL5 nL5 ⟨x3,x4⟩ hL5 hM _;have hM:YT k x1 (nL5+1) x3 x4=some e2:=hM;rw [YT] at hM;refine Ze fun K6 hK6=> ?_;refine S1 ?_;refine Zj hM (fun h7 hM=> ?_) (fun h7 hM=> ?_)
  ·have F:=Zyn (nf F h7) (lT h7);refine Zh ?_;refine hK6 _ ?_;refine Ze fun K8 hK8=> ?_;refine Zc ?_;obtain ⟨x5,e9,hM⟩:=bind_some hM;have F:=Zyn F (Xy e9);have F:=Zyn F (Zlk e9);obtain ⟨x6,e10,hM⟩:=bind_some hM;refine Zv fun K h=> ?_;simp [go_sem,F];refine Yl false (Ud k x5 x6 e10) ?_;simp [go_sem,F];refine h _ ?_;refine Ze fun K11 hK11=> ?_;refine mj (ι:=Bool) [1,6,7,8,9] [] [704,832] (fun i=>[(34,oB i)]) hM ?_ ?_
   ·intro e12 hM K14 hK14;exact au
   ·intro x7 hM;(try dsimp only at hM);exact au
  ·have F:=Zyn (nf F h7) (lF h7);exact au
 ·intro x2 hM;dsimp only at hM;exact au
instance:HC 171 (Ty @JU):=⟨JU⟩
theorem Zby (a0:Za) (r:Bool) (hM:Je a0=some r):Ctr Tryz.prog 260 [.agg (Za.c a0)] true [.one (.bool r)]:=by
 unfold Je at hM;refine Zn Tryz.func260 Tryz.ntmps260 Tryz.results260 fun N w0 hbad F=> ?_;refine S1 ?_;refine mj (ι:=Bool) [] [] [] (fun i=>[(2,oB i)]) hM ?_ ?_
 ·intro e1 hM K3 hK3;exact au
 ·intro x1 hM;(try dsimp only at hM);exact au
instance:HC 260 (Ty @Zby):=⟨Zby⟩
theorem Ziq:∀(k:Nat),(∀(a0:Za) (r:Int) (hM:Xi k a0=some r),Ctr Tryz.prog 261 [.agg (Za.c a0)] true [.one (.int .i64 r)]):=by
 intro k
 induction k with
 | zero=>intro a0 r hM;simp [Xi] at hM
 | succ k ih_s_DepthOf=>
  ·intro a0 r hM;haveI:HC 261 _:=⟨ih_s_DepthOf⟩;rw [Xi] at hM;refine Zn Tryz.func261 Tryz.ntmps261 Tryz.results261 fun N w0 hbad F=> ?_;refine S1 ?_;refine S1 ?_;refine mj (ι:=Int) [] [] [] (fun i=>[(3,oI i)]) hM ?_ ?_
   ·intro e1 hM K3 hK3;refine S1 ?_;refine Zc ?_;refine lp (ι:=Int×Int) [1] [1] [] (fun i=>[(3,oI i.1),(4,oI i.2)]) (fun n i=>XS (Xi k) a0 n i.1 i.2=some e1) k (0,0) hM (by simp [XS]) ?_;intro KL4 nL4 ⟨x2,x3⟩ hL4 hM _;have hM:XS (Xi k) a0 (nL4+1) x2 x3=some e1:=hM;rw [XS] at hM;exact au
   ·intro x1 hM;(try dsimp only at hM);exact au
theorem ZdW (k:Nat):∀(a0:Za) (r:Int) (hM:Xi k a0=some r),Ctr Tryz.prog 261 [.agg (Za.c a0)] true [.one (.int .i64 r)]:=(Ziq k)
instance:HC 261 (Ty @ZdW):=⟨ZdW⟩
theorem KJ (k:Nat) (a0:List ByteArray) (r:Bool) (hM:Vv k a0=some r):Ctr Tryz.prog 215 [.one (.sl (a0.map sC))] true [.one (.bool r)]:=by
 unfold Vv at hM;refine Zn Tryz.func215 Tryz.ntmps215 Tryz.results215 fun N w0 hbad F=> ?_;refine S1 ?_;refine mjE (ι:=Unit) [] [] [] (fun i=>[]) hM ?_ ?_
 ·intro e1 hM hR1 K3 hK3;refine S1 ?_;refine Zc ?_;refine lp (ι:=Int) [0] [] [] (fun i=>[(3,oI i)]) (fun n i=>Yd k a0 n i=some e1) k 0 hM (by simp [Yd]) ?_;intro KL4 nL4 x1 hL4 hM _;have hM:Yd k a0 (nL4+1) x1=some e1:=hM;rw [Yd] at hM;refine Ze fun K5 hK5=> ?_;refine S1 ?_;refine Zj hM (fun h6 hM=> ?_) (fun h6 hM=> ?_)
  ·have F:=Zyn (nf F h6) (lT h6);refine Zh ?_;refine hK5 _ ?_;refine Ze fun K7 hK7=> ?_;refine Zc ?_;refine Ze fun K8 hK8=> ?_;refine le1 [0,3] [] [] ?_;obtain ⟨x2,e9,hM⟩:=bind_some hM;obtain ⟨c10,s11⟩:=Vr e9;replace c10:=c10.symm;subst c10;(try simp at s11);have F:=Zyn F s11;obtain ⟨x3,e14,hM⟩:=bind_some hM;have F:=Zyn F (Xy e14);obtain ⟨x4,e15,hM⟩:=bind_some hM;refine ZE [[],[],[0,1],[],[],[3,4],[3,4,5],[0,1,2,3,4,5,6]] mixed (by kernel_rfl) ?_;simp [go_sem,F];refine Yl false (ZcT k ((a0.take x1.toNat).drop (0:Int).toNat) x3 x4 e15) ?_;simp [go_sem,F];refine ⟨Zp (by kernel_rfl), ?_⟩;exact au
  ·have F:=Zyn (nf F h6) (lF h6);exact au
 ·intro _ hM;dsimp only at hM;exact au
instance:HC 215 (Ty @KJ):=⟨KJ⟩
theorem Jf (k:Nat) (a0:List ByteArray) (r:Bool) (hM:VP k a0=some r):Ctr Tryz.prog 173 [.one (.sl (a0.map sC))] true [.one (.bool r)]:=by
 unfold VP at hM;refine Zn Tryz.func173 Tryz.ntmps173 Tryz.results173 fun N w0 hbad F=> ?_;refine S1 ?_;refine mjE (ι:=Unit) [0] [] [] (fun i=>[]) hM ?_ ?_
 ·intro e1 hM hR1 K3 hK3;refine S1 ?_;refine Zc ?_;refine lp (ι:=Int) [0] [] [] (fun i=>[(3,oI i)]) (fun n i=>QG k a0 n i=some e1) k 0 hM (by simp [QG]) ?_;intro KL4 nL4 x1 hL4 hM _;have hM:QG k a0 (nL4+1) x1=some e1:=hM;rw [QG] at hM;exact au
 ·intro _ hM;dsimp only at hM;refine mj (ι:=Bool) [] [] [] (fun i=>[(2,oB i)]) hM ?_ ?_
  ·intro e11 hM K13 hK13;exact au
  ·intro x4 hM;(try dsimp only at hM);exact au
instance:HC 173 (Ty @Jf):=⟨Jf⟩
theorem Ki (a0:Zo) (a1:Zo) (r:Bool) (hM:VQ a0 a1=some r):Ctr Tryz.prog 286 [.agg (Zo.c a0),.agg (Zo.c a1)] true [.one (.bool r)]:=by
 unfold VQ at hM;refine Zn Tryz.func286 Tryz.ntmps286 Tryz.results286 fun N w0 hbad F=> ?_;refine S1 ?_;refine mj (ι:=Bool) [] [] [] (fun i=>[(4,oB i)]) hM ?_ ?_
 ·intro e1 hM K3 hK3;exact au
 ·intro x1 hM;(try dsimp only at hM);exact au
instance:HC 286 (Ty @Ki):=⟨Ki⟩
theorem KC (k:Nat) (a0:List Zo) (r:Bool) (hM:WT k a0=some r):Ctr Tryz.prog 262 [.one (.sl (a0.map Zo.c))] true [.one (.bool r)]:=by
 unfold WT at hM;refine Zn Tryz.func262 Tryz.ntmps262 Tryz.results262 fun N w0 hbad F=> ?_;refine S1 ?_;refine mjE (ι:=Unit) [] [] [] (fun i=>[]) hM ?_ ?_
 ·intro e1 hM hR1 K3 hK3;refine S1 ?_;refine Zc ?_;refine lp (ι:=Int) [0] [] [] (fun i=>[(3,oI i)]) (fun n i=>YY a0 n i=some e1) k 0 hM (by simp [YY]) ?_;intro KL4 nL4 x1 hL4 hM _;have hM:YY a0 (nL4+1) x1=some e1:=hM;rw [YY] at hM;refine Ze fun K5 hK5=> ?_;refine S1 ?_;refine Zj hM (fun h6 hM=> ?_) (fun h6 hM=> ?_)
  ·have F:=Zyn (nf F h6) (lT h6);refine Zh ?_;refine hK5 _ ?_;refine Ze fun K7 hK7=> ?_;refine Zc ?_;refine mj (ι:=Bool) [0,3] [] [] (fun i=>[(40,oB i)]) hM ?_ ?_
   ·intro e8 hM K10 hK10;obtain ⟨x3,e11,hM⟩:=bind_some hM;have F:=Zyn F (Xy e11);rcases ifM hM with ⟨h12,hM⟩| ⟨h12,hM⟩
    ·have F:=Zyn (nf F h12) (lT h12);refine Zt 27 mixed (by kernel_rfl) (by kernel_rfl) ?_;simp [go_sem,F];exact au
    ·have F:=Zyn (nf F h12) (lF h12);rcases ifM hM with ⟨h13,hM⟩| ⟨h13,hM⟩
     ·have F:=Zyn (nf F h13) (lT h13);refine Zt 27 mixed (by kernel_rfl) (by kernel_rfl) ?_;simp [go_sem,F];exact au
     ·have F:=Zyn (nf F h13) (lF h13);rcases ifM hM with ⟨h14,hM⟩| ⟨h14,hM⟩
      ·have F:=Zyn (nf F h14) (lT h14);obtain ⟨x4,e15,hM⟩:=bind_some hM;have F:=Zyn F (Xy e15);obtain ⟨x5,e16,hM⟩:=bind_some hM;refine Zt 27 mixed (by kernel_rfl) (by kernel_rfl) ?_;simp [go_sem,F];refine Yl false (Ki x4 x3 x5 e16) ?_;simp [go_sem,F];exact au
      ·have F:=Zyn (nf F h14) (lF h14);refine Zt 27 mixed (by kernel_rfl) (by kernel_rfl) ?_;simp [go_sem,F];exact au
   ·intro x2 hM;(try dsimp only at hM);exact au
  ·have F:=Zyn (nf F h6) (lF h6);exact au
 ·intro _ hM;dsimp only at hM;exact au
instance:HC 262 (Ty @KC):=⟨KC⟩
theorem ZdN (k:Nat) (a0:Za) (r:Bool) (hM:Zbx k a0=some r):Ctr Tryz.prog 214 [.agg (Za.c a0)] true [.one (.bool r)]:=by
 unfold Zbx at hM;refine Zn Tryz.func214 Tryz.ntmps214 Tryz.results214 fun N w0 hbad F=> ?_;refine S1 ?_;refine Ze fun K1 hK1=> ?_;refine mj (ι:=Bool) [1] [1] [] (fun i=>[(15,oB i)]) hM ?_ ?_
 ·intro e2 hM K4 hK4;exact au
 ·intro x1 hM;(try dsimp only at hM);refine Zj hM (fun h7 hM=> ?_) (fun h7 hM=> ?_)
  ·have F:=nf F h7;exact au
  ·have F:=nf F h7;refine Zh ?_;refine hK1 _ ?_;refine mjE (ι:=Unit) [] [] [] (fun i=>[]) hM ?_ ?_
   ·intro e8 hM hR1 K10 hK10;refine S1 ?_;refine Zc ?_;refine lp (ι:=Int) [1] [1] [] (fun i=>[(3,oI i)]) (fun n i=>Qg k a0 n i=some e8) k 0 hM (by simp [Qg]) ?_;intro KL11 nL11 x3 hL11 hM _;have hM:Qg k a0 (nL11+1) x3=some e8:=hM;rw [Qg] at hM;refine Ze fun K12 hK12=> ?_;refine S1 ?_;refine Zj hM (fun h13 hM=> ?_) (fun h13 hM=> ?_)
    ·have F:=Zyn (nf F h13) (lT h13);refine Zh ?_;refine hK12 _ ?_;refine mjE (ι:=Unit) [1,3] [1] [] (fun i=>[]) hM ?_ ?_
     ·intro e14 hM hR2 K16 hK16;refine Zc ?_;obtain ⟨x4,e17,hM⟩:=bind_some hM;have F:=Zyn F (Xy e17);refine S1 ?_;refine Ze fun K18 hK18=> ?_;refine mj (ι:=Bool) [1,3,4] [1,4] [] (fun i=>[(40,oB i)]) hM ?_ ?_
      ·intro e19 hM K21 hK21;exact au
      ·intro x5 hM;(try dsimp only at hM);refine Zj hM (fun h24 hM=> ?_) (fun h24 hM=> ?_)
       ·have F:=nf F h24;exact au
       ·have F:=nf F h24;refine Zh ?_;refine hK18 _ ?_;refine S1 ?_;refine Zc ?_;refine lp (ι:=Int) [1,3,4] [1,4] [] (fun i=>[(5,oI i)]) (fun n i=>Xb x4 n i=some e14) k 0 hM (by simp [Xb]) ?_;intro KL25 nL25 x7 hL25 hM _;have hM:Xb x4 (nL25+1) x7=some e14:=hM;rw [Xb] at hM;exact au
     ·intro _ hM;dsimp only at hM;exact au
    ·have F:=Zyn (nf F h13) (lF h13);exact au
   ·intro _ hM;dsimp only at hM;exact au
instance:HC 214 (Ty @ZdN):=⟨ZdN⟩
theorem Zjz:∀(k:Nat),(∀(a0:Za) (r:Bool) (hM:JT k a0=some r),Ctr Tryz.prog 213 [.agg (Za.c a0)] true [.one (.bool r)])/\
  (∀(a0:Za) (r:Bool) (hM:ZK k a0=some r),Ctr Tryz.prog 172 [.agg (Za.c a0)] true [.one (.bool r)]):=by
 intro k
 induction k with
 | zero=>exact ⟨by intro a0 r hM;simp [JT] at hM,by intro a0 r hM;simp [ZK] at hM⟩
 | succ k ih=>
  obtain ⟨ih_s_l3List,ih_s_IsValidValue⟩:=ih;refine ⟨?_, ?_⟩
  ·intro a0 r hM;haveI:HC 213 _:=⟨ih_s_l3List⟩;haveI:HC 172 _:=⟨ih_s_IsValidValue⟩;rw [JT] at hM;refine Zn Tryz.func213 Tryz.ntmps213 Tryz.results213 fun N w0 hbad F=> ?_;refine S1 ?_;refine mjE (ι:=Unit) [1] [1] [] (fun i=>[]) hM ?_ ?_
   ·intro e1 hM hR1 K3 hK3;refine S1 ?_;refine Zc ?_;refine lp (ι:=Int) [1] [1] [] (fun i=>[(3,oI i)]) (fun n i=>Wq (ZK k) a0 n i=some e1) k 0 hM (by simp [Wq]) ?_;intro KL4 nL4 x1 hL4 hM _;have hM:Wq (ZK k) a0 (nL4+1) x1=some e1:=hM;rw [Wq] at hM;refine Ze fun K5 hK5=> ?_;refine S1 ?_;refine Zj hM (fun h6 hM=> ?_) (fun h6 hM=> ?_)
    ·have F:=Zyn (nf F h6) (lT h6);refine Zh ?_;refine hK5 _ ?_;refine Ze fun K7 hK7=> ?_;refine Zc ?_;refine mj (ι:=Bool) [1,3] [1] [] (fun i=>[(26,oB i)]) hM ?_ ?_
     ·intro e8 hM K10 hK10;exact au
     ·intro x2 hM;(try dsimp only at hM);exact au
    ·have F:=Zyn (nf F h6) (lF h6);exact au
   ·intro _ hM;dsimp only at hM;refine mj (ι:=Bool) [] [] [] (fun i=>[(2,oB i)]) hM ?_ ?_
    ·intro e16 hM K18 hK18;exact au
    ·intro x6 hM;(try dsimp only at hM);exact au
  ·intro a0 r hM;haveI:HC 213 _:=⟨ih_s_l3List⟩;haveI:HC 172 _:=⟨ih_s_IsValidValue⟩;rw [ZK] at hM;refine Zn Tryz.func172 Tryz.ntmps172 Tryz.results172 fun N w0 hbad F=> ?_;refine S1 ?_;refine Ze fun K1 hK1=> ?_;refine mj (ι:=Bool) [1] [1] [] (fun i=>[(26,oB i)]) hM ?_ ?_
   ·intro e2 hM K4 hK4;exact au
   ·intro x1 hM;(try dsimp only at hM);refine Zj hM (fun h8 hM=> ?_) (fun h8 hM=> ?_)
    ·have F:=nf F h8;exact au
    ·have F:=nf F h8;refine Zh ?_;refine hK1 _ ?_;refine Ze fun K9 hK9=> ?_;refine mj (ι:=Bool) [1] [1] [] (fun i=>[(44,oB i)]) hM ?_ ?_
     ·intro e10 hM K12 hK12;exact au
     ·intro x2 hM;(try dsimp only at hM);refine Zj hM (fun h16 hM=> ?_) (fun h16 hM=> ?_)
      ·have F:=nf F h16;exact au
      ·have F:=nf F h16;refine Zh ?_;refine hK9 _ ?_;refine Ze fun K17 hK17=> ?_;refine S1 ?_;refine Zc ?_;refine S1 ?_;refine Zj hM (fun h18 hM=> ?_) (fun h18 hM=> ?_)
       ·have F:=nf F h18;exact au
       ·have F:=nf F h18;refine S1 ?_;refine Zj hM (fun h20 hM=> ?_) (fun h20 hM=> ?_)
        ·have F:=nf F h20;refine mj (ι:=Bool) [] [] [] (fun i=>[(2,oB i)]) hM ?_ ?_
         ·intro e21 hM K23 hK23;exact au
         ·intro x4 hM;(try dsimp only at hM);exact au
        ·have F:=nf F h20;refine S1 ?_;refine Zj hM (fun h26 hM=> ?_) (fun h26 hM=> ?_)
         ·have F:=nf F h26;refine mj (ι:=Bool) [] [] [] (fun i=>[(2,oB i)]) hM ?_ ?_
          ·intro e27 hM K29 hK29;exact au
          ·intro x6 hM;(try dsimp only at hM);exact au
         ·have F:=nf F h26;refine S1 ?_;refine Zj hM (fun h32 hM=> ?_) (fun h32 hM=> ?_)
          ·have F:=nf F h32;refine mj (ι:=Bool) [] [] [] (fun i=>[(2,oB i)]) hM ?_ ?_
           ·intro e33 hM K35 hK35;exact au
           ·intro x8 hM;(try dsimp only at hM);exact au
          ·have F:=nf F h32;refine S1 ?_;refine Zj hM (fun h39 hM=> ?_) (fun h39 hM=> ?_)
           ·have F:=nf F h39;refine mj (ι:=Bool) [] [] [] (fun i=>[(2,oB i)]) hM ?_ ?_
            ·intro e40 hM K42 hK42;exact au
            ·intro x11 hM;(try dsimp only at hM);exact au
           ·have F:=nf F h39;exact au
theorem JY (k:Nat):∀(a0:Za) (r:Bool) (hM:ZK k a0=some r),Ctr Tryz.prog 172 [.agg (Za.c a0)] true [.one (.bool r)]:=(Zjz k).2
instance:HC 172 (Ty @JY):=⟨JY⟩
end Go.Proofs.YtbkllghhcphkaaaGreatDoor
