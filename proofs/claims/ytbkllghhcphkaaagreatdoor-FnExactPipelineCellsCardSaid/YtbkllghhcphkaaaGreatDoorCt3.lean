import Derived.Test.YtbkllghhcphkaaaGreatDoorCt2
set_option linter.unusedSimpArgs false
set_option linter.unusedVariables false
namespace Go.Proofs.YtbkllghhcphkaaaGreatDoor
open Go.RowKit Am
set_option maxHeartbeats 4000000
set_option maxRecDepth 100000
theorem WQ (a0:Int) (r:Zb) (hM:Q4 a0=some r):Ctr Tryz.prog 112 [.one (.int .i64 a0)] true [.agg (Zb.c r)]:=by
 unfold Q4 at hM;refine Zr Tryz.func112 Tryz.ntmps112 Tryz.results112 fun N w0 hbad F=> ?_;exact au
instance:HC 112 (Ty @WQ):=⟨WQ⟩
theorem VD (a0:Int) (r:Zb) (hM:Kg a0=some r):Ctr Tryz.prog 113 [.one (.int .i64 a0)] true [.agg (Zb.c r)]:=by
 unfold Kg at hM;refine Zr Tryz.func113 Tryz.ntmps113 Tryz.results113 fun N w0 hbad F=> ?_;exact au
instance:HC 113 (Ty @VD):=⟨VD⟩
theorem VS (k:Nat) (a0:ByteArray) (r:List ByteArray) (hM:Uv k a0=some r):Ctr Tryz.prog 169 [.one (.str a0)] true [.one (.sl (r.map sC))]:=by
 unfold Uv at hM;refine Zr Tryz.func169 Tryz.ntmps169 Tryz.results169 fun N w0 hbad F=> ?_;refine S1 ?_;refine S1 ?_;refine S1 ?_;refine mj (ι:=(List ByteArray)×Int) [0] [] [] (fun i=>[(3,oO 384 i.1.length),(4,oI i.2)]) hM ?_ ?_ (ca:=fun i=>[(384,aT sC i.1)])
 ·intro e1 hM K3 hK3;refine S1 ?_;refine Zc ?_;refine lp (ι:=(List ByteArray)×Int×Int) [0] [] [] (fun i=>[(3,oO 384 i.1.length),(4,oI i.2.1),(5,oI i.2.2)]) (fun n i=>ZM a0 n i.1 i.2.1 i.2.2=some e1) k (([]:List ByteArray),0,0) hM (by simp [ZM]) ?_ (ca:=fun i=>[(384,aT sC i.1)]);intro KL4 nL4 ⟨x3,x4,x5⟩ hL4 hM _;have hM:ZM a0 (nL4+1) x3 x4 x5=some e1:=hM;rw [ZM] at hM;refine Zg fun K5 hK5=> ?_;refine S1 ?_;refine Zn hM (fun h6 hM=> ?_) (fun h6 hM=> ?_)
  ·have F:=Zwg (nf F h6) (lT h6);refine Zi ?_;refine hK5 _ ?_;refine mj (ι:=(List ByteArray)×Int) [0,5] [] [] (fun i=>[(3,oO 384 i.1.length),(4,oI i.2)]) hM ?_ ?_ (ca:=fun i=>[(384,aT sC i.1)])
   ·intro e7 hM K9 hK9;refine Zc ?_;refine mj (ι:=Bool) [0,3,4,5] [] [384] (fun i=>[(24,oB i)]) hM ?_ ?_
    ·intro e10 hM K12 hK12;exact au
    ·intro x8 hM;(try dsimp only at hM);exact au
   ·rintro ⟨x6,x7⟩ hM;dsimp only at hM;exact au
  ·have F:=Zwg (nf F h6) (lF h6);exact au
 ·rintro ⟨x1,x2⟩ hM;dsimp only at hM;exact au
instance:HC 169 (Ty @VS):=⟨VS⟩
theorem Wg (k:Nat) (a0:ByteArray) (a1:Int) (r:List ByteArray) (hM:WV k a0 a1=some r):Ctr Tryz.prog 170 [.one (.str a0),.one (.int .u8 a1)] true [.one (.sl (r.map sC))]:=by
 unfold WV at hM;refine Zr Tryz.func170 Tryz.ntmps170 Tryz.results170 fun N w0 hbad F=> ?_;refine S1 ?_;refine S1 ?_;refine S1 ?_;refine mj (ι:=List ByteArray) [] [] [] (fun i=>[(5,oO 512 i.length)]) hM ?_ ?_ (ca:=fun i=>[(512,aT sC i)])
 ·intro e1 hM K3 hK3;refine S1 ?_;refine Zc ?_;refine lp (ι:=(List ByteArray)×Int×Int) [0,1] [] [] (fun i=>[(5,oO 512 i.1.length),(6,oI i.2.1),(7,oI i.2.2)]) (fun n i=>YG a0 a1 n i.1 i.2.1 i.2.2=some e1) k (([]:List ByteArray),0,0) hM (by simp [YG]) ?_ (ca:=fun i=>[(512,aT sC i.1)]);intro KL4 nL4 ⟨x2,x3,x4⟩ hL4 hM _;have hM:YG a0 a1 (nL4+1) x2 x3 x4=some e1:=hM;rw [YG] at hM;refine Zg fun K5 hK5=> ?_;refine S1 ?_;refine Zn hM (fun h6 hM=> ?_) (fun h6 hM=> ?_)
  ·have F:=Zwg (nf F h6) (eT h6);refine Zi ?_;refine hK5 _ ?_;refine mj (ι:=(List ByteArray)×Int) [0,1,7] [] [] (fun i=>[(5,oO 512 i.1.length),(6,oI i.2)]) hM ?_ ?_ (ca:=fun i=>[(512,aT sC i.1)])
   ·intro e7 hM K9 hK9;refine Zc ?_;refine mj (ι:=Bool) [0,1,5,6,7] [] [512] (fun i=>[(25,oB i)]) hM ?_ ?_
    ·intro e10 hM K12 hK12;exact au
    ·intro x7 hM;(try dsimp only at hM);exact au
   ·rintro ⟨x5,x6⟩ hM;dsimp only at hM;exact au
  ·have F:=Zwg (nf F h6) (eF h6);exact au
 ·intro x1 hM;(try dsimp only at hM);exact au
instance:HC 170 (Ty @Wg):=⟨Wg⟩
theorem Za2 (a0:Int) (r:Bool) (hM:Qn a0=some r):Ctr Tryz.prog 211 [.one (.int .i64 a0)] true [.one (.bool r)]:=by
 unfold Qn at hM;refine Zr Tryz.func211 Tryz.ntmps211 Tryz.results211 fun N w0 hbad F=> ?_;exact au
instance:HC 211 (Ty @Za2):=⟨Za2⟩
theorem U8 (k:Nat) (a0:ByteArray) (a1:Int) (r:(List Int)×Bool) (hM:U9 k a0 a1=some r):Ctr Tryz.prog 171 [.one (.str a0),.one (.int .i64 a1)] true [.one (.sl (r.1.map iC)),.one (.bool r.2)]:=by
 unfold U9 at hM;refine Zr Tryz.func171 Tryz.ntmps171 Tryz.results171 fun N w0 hbad F=> ?_;refine S1 ?_;refine S1 ?_;obtain ⟨x1,e1,hM⟩:=bind_some hM;refine Zs fun K h=> ?_;simp [go_sem,F];refine Qt false (Wg k a0 32 x1 e1) ?_;simp [go_sem,F];refine h _ ?_;refine mjE (ι:=List Int) [1] [] [] (fun i=>[(6,oO 704 i.length)]) hM ?_ ?_ (ca:=fun i=>[(704,aT iC i)])
 ·intro e2 hM hR1 K4 hK4;refine S1 ?_;refine Zc ?_;refine lp (ι:=(List Int)×Int) [1,7] [] [832] (fun i=>[(6,oO 704 i.1.length),(8,oI i.2)]) (fun n i=>YP k x1 n i.1 i.2=some e2) k (([]:List Int),0) hM (by simp [YP]) ?_ (ca:=fun i=>[(704,aT iC i.1)]);intro KL5 nL5 ⟨x3,x4⟩ hL5 hM _;have hM:YP k x1 (nL5+1) x3 x4=some e2:=hM;rw [YP] at hM;refine Zg fun K6 hK6=> ?_;refine S1 ?_;refine Zn hM (fun h7 hM=> ?_) (fun h7 hM=> ?_)
  ·have F:=Zwg (nf F h7) (lT h7);refine Zi ?_;refine hK6 _ ?_;refine Zg fun K8 hK8=> ?_;refine Zc ?_;obtain ⟨x5,e9,hM⟩:=bind_some hM;have F:=Zwg F (WZ e9);have F:=Zwg F (ZhY e9);obtain ⟨x6,e10,hM⟩:=bind_some hM;refine Zs fun K h=> ?_;simp [go_sem,F];refine Qt false (VT k x5 x6 e10) ?_;simp [go_sem,F];refine h _ ?_;refine Zg fun K11 hK11=> ?_;refine mj (ι:=Bool) [1,6,7,8,9] [] [704,832] (fun i=>[(34,oB i)]) hM ?_ ?_
   ·intro e12 hM K14 hK14;exact au
   ·intro x7 hM;(try dsimp only at hM);exact au
  ·have F:=Zwg (nf F h7) (lF h7);exact au
 ·intro x2 hM;dsimp only at hM;exact au
instance:HC 171 (Ty @U8):=⟨U8⟩
theorem Zab (a0:Zb) (r:Bool) (hM:UA a0=some r):Ctr Tryz.prog 260 [.agg (Zb.c a0)] true [.one (.bool r)]:=by
 unfold UA at hM;refine Zr Tryz.func260 Tryz.ntmps260 Tryz.results260 fun N w0 hbad F=> ?_;refine S1 ?_;refine mj (ι:=Bool) [] [] [] (fun i=>[(2,oB i)]) hM ?_ ?_
 ·intro e1 hM K3 hK3;exact au
 ·intro x1 hM;(try dsimp only at hM);exact au
instance:HC 260 (Ty @Zab):=⟨Zab⟩
theorem Zf0:∀(k:Nat),(∀(a0:Zb) (r:Int) (hM:Q5 k a0=some r),Ctr Tryz.prog 261 [.agg (Zb.c a0)] true [.one (.int .i64 r)]):=by
 intro k
 induction k with
 | zero=>intro a0 r hM;simp [Q5] at hM
 | succ k ih_s_DepthOf=>
  ·intro a0 r hM;haveI:HC 261 _:=⟨ih_s_DepthOf⟩;rw [Q5] at hM;refine Zr Tryz.func261 Tryz.ntmps261 Tryz.results261 fun N w0 hbad F=> ?_;refine S1 ?_;refine S1 ?_;refine mj (ι:=Int) [] [] [] (fun i=>[(3,oI i)]) hM ?_ ?_
   ·intro e1 hM K3 hK3;refine S1 ?_;refine Zc ?_;refine lp (ι:=Int×Int) [1] [1] [] (fun i=>[(3,oI i.1),(4,oI i.2)]) (fun n i=>XC (Q5 k) a0 n i.1 i.2=some e1) k (0,0) hM (by simp [XC]) ?_;intro KL4 nL4 ⟨x2,x3⟩ hL4 hM _;have hM:XC (Q5 k) a0 (nL4+1) x2 x3=some e1:=hM;rw [XC] at hM;exact au
   ·intro x1 hM;(try dsimp only at hM);exact au
theorem Zb3 (k:Nat):∀(a0:Zb) (r:Int) (hM:Q5 k a0=some r),Ctr Tryz.prog 261 [.agg (Zb.c a0)] true [.one (.int .i64 r)]:=(Zf0 k)
instance:HC 261 (Ty @Zb3):=⟨Zb3⟩
theorem JL (k:Nat) (a0:List ByteArray) (r:Bool) (hM:Vh k a0=some r):Ctr Tryz.prog 215 [.one (.sl (a0.map sC))] true [.one (.bool r)]:=by
 unfold Vh at hM;refine Zr Tryz.func215 Tryz.ntmps215 Tryz.results215 fun N w0 hbad F=> ?_;refine S1 ?_;refine mjE (ι:=Unit) [] [] [] (fun i=>[]) hM ?_ ?_
 ·intro e1 hM hR1 K3 hK3;refine S1 ?_;refine Zc ?_;refine lp (ι:=Int) [0] [] [] (fun i=>[(3,oI i)]) (fun n i=>Ye k a0 n i=some e1) k 0 hM (by simp [Ye]) ?_;intro KL4 nL4 x1 hL4 hM _;have hM:Ye k a0 (nL4+1) x1=some e1:=hM;rw [Ye] at hM;refine Zg fun K5 hK5=> ?_;refine S1 ?_;refine Zn hM (fun h6 hM=> ?_) (fun h6 hM=> ?_)
  ·have F:=Zwg (nf F h6) (lT h6);refine Zi ?_;refine hK5 _ ?_;refine Zg fun K7 hK7=> ?_;refine Zc ?_;refine Zg fun K8 hK8=> ?_;refine le1 [0,3] [] [] ?_;obtain ⟨x2,e9,hM⟩:=bind_some hM;obtain ⟨c10,s11⟩:=ZbQ e9;replace c10:=c10.symm;subst c10;(try simp at s11);have F:=Zwg F s11;obtain ⟨x3,e14,hM⟩:=bind_some hM;have F:=Zwg F (WZ e14);obtain ⟨x4,e15,hM⟩:=bind_some hM;refine ZJ [[],[],[0,1],[],[],[3,4],[3,4,5],[0,1,2,3,4,5,6]] mixed (by kernel_rfl) ?_;simp [go_sem,F];refine Qt false (Zbo k ((a0.take x1.toNat).drop (0:Int).toNat) x3 x4 e15) ?_;simp [go_sem,F];refine ⟨Zq (by kernel_rfl), ?_⟩;exact au
  ·have F:=Zwg (nf F h6) (lF h6);exact au
 ·intro _ hM;dsimp only at hM;exact au
instance:HC 215 (Ty @JL):=⟨JL⟩
theorem UB (k:Nat) (a0:List ByteArray) (r:Bool) (hM:Vv k a0=some r):Ctr Tryz.prog 173 [.one (.sl (a0.map sC))] true [.one (.bool r)]:=by
 unfold Vv at hM;refine Zr Tryz.func173 Tryz.ntmps173 Tryz.results173 fun N w0 hbad F=> ?_;refine S1 ?_;refine mjE (ι:=Unit) [0] [] [] (fun i=>[]) hM ?_ ?_
 ·intro e1 hM hR1 K3 hK3;refine S1 ?_;refine Zc ?_;refine lp (ι:=Int) [0] [] [] (fun i=>[(3,oI i)]) (fun n i=>Qz k a0 n i=some e1) k 0 hM (by simp [Qz]) ?_;intro KL4 nL4 x1 hL4 hM _;have hM:Qz k a0 (nL4+1) x1=some e1:=hM;rw [Qz] at hM;exact au
 ·intro _ hM;dsimp only at hM;refine mj (ι:=Bool) [] [] [] (fun i=>[(2,oB i)]) hM ?_ ?_
  ·intro e11 hM K13 hK13;exact au
  ·intro x4 hM;(try dsimp only at hM);exact au
instance:HC 173 (Ty @UB):=⟨UB⟩
theorem Jq (a0:ZD) (a1:ZD) (r:Bool) (hM:Vw a0 a1=some r):Ctr Tryz.prog 286 [.agg (ZD.c a0),.agg (ZD.c a1)] true [.one (.bool r)]:=by
 unfold Vw at hM;refine Zr Tryz.func286 Tryz.ntmps286 Tryz.results286 fun N w0 hbad F=> ?_;refine S1 ?_;refine mj (ι:=Bool) [] [] [] (fun i=>[(4,oB i)]) hM ?_ ?_
 ·intro e1 hM K3 hK3;exact au
 ·intro x1 hM;(try dsimp only at hM);exact au
instance:HC 286 (Ty @Jq):=⟨Jq⟩
theorem JD (k:Nat) (a0:List ZD) (r:Bool) (hM:WA k a0=some r):Ctr Tryz.prog 262 [.one (.sl (a0.map ZD.c))] true [.one (.bool r)]:=by
 unfold WA at hM;refine Zr Tryz.func262 Tryz.ntmps262 Tryz.results262 fun N w0 hbad F=> ?_;refine S1 ?_;refine mjE (ι:=Unit) [] [] [] (fun i=>[]) hM ?_ ?_
 ·intro e1 hM hR1 K3 hK3;refine S1 ?_;refine Zc ?_;refine lp (ι:=Int) [0] [] [] (fun i=>[(3,oI i)]) (fun n i=>YU a0 n i=some e1) k 0 hM (by simp [YU]) ?_;intro KL4 nL4 x1 hL4 hM _;have hM:YU a0 (nL4+1) x1=some e1:=hM;rw [YU] at hM;refine Zg fun K5 hK5=> ?_;refine S1 ?_;refine Zn hM (fun h6 hM=> ?_) (fun h6 hM=> ?_)
  ·have F:=Zwg (nf F h6) (lT h6);refine Zi ?_;refine hK5 _ ?_;refine Zg fun K7 hK7=> ?_;refine Zc ?_;refine mj (ι:=Bool) [0,3] [] [] (fun i=>[(40,oB i)]) hM ?_ ?_
   ·intro e8 hM K10 hK10;obtain ⟨x3,e11,hM⟩:=bind_some hM;have F:=Zwg F (WZ e11);rcases ifM hM with ⟨h12,hM⟩| ⟨h12,hM⟩
    ·have F:=Zwg (nf F h12) (lT h12);refine ZB 27 mixed (by kernel_rfl) (by kernel_rfl) ?_;simp [go_sem,F];exact au
    ·have F:=Zwg (nf F h12) (lF h12);rcases ifM hM with ⟨h13,hM⟩| ⟨h13,hM⟩
     ·have F:=Zwg (nf F h13) (lT h13);refine ZB 27 mixed (by kernel_rfl) (by kernel_rfl) ?_;simp [go_sem,F];exact au
     ·have F:=Zwg (nf F h13) (lF h13);rcases ifM hM with ⟨h14,hM⟩| ⟨h14,hM⟩
      ·have F:=Zwg (nf F h14) (lT h14);obtain ⟨x4,e15,hM⟩:=bind_some hM;have F:=Zwg F (WZ e15);obtain ⟨x5,e16,hM⟩:=bind_some hM;refine ZB 27 mixed (by kernel_rfl) (by kernel_rfl) ?_;simp [go_sem,F];refine Qt false (Jq x4 x3 x5 e16) ?_;simp [go_sem,F];exact au
      ·have F:=Zwg (nf F h14) (lF h14);refine ZB 27 mixed (by kernel_rfl) (by kernel_rfl) ?_;simp [go_sem,F];exact au
   ·intro x2 hM;(try dsimp only at hM);exact au
  ·have F:=Zwg (nf F h6) (lF h6);exact au
 ·intro _ hM;dsimp only at hM;exact au
instance:HC 262 (Ty @JD):=⟨JD⟩
theorem ZbS (k:Nat) (a0:Zb) (r:Bool) (hM:Zaa k a0=some r):Ctr Tryz.prog 214 [.agg (Zb.c a0)] true [.one (.bool r)]:=by
 unfold Zaa at hM;refine Zr Tryz.func214 Tryz.ntmps214 Tryz.results214 fun N w0 hbad F=> ?_;refine S1 ?_;refine Zg fun K1 hK1=> ?_;refine mj (ι:=Bool) [1] [1] [] (fun i=>[(15,oB i)]) hM ?_ ?_
 ·intro e2 hM K4 hK4;exact au
 ·intro x1 hM;(try dsimp only at hM);refine Zn hM (fun h7 hM=> ?_) (fun h7 hM=> ?_)
  ·have F:=nf F h7;exact au
  ·have F:=nf F h7;refine Zi ?_;refine hK1 _ ?_;refine mjE (ι:=Unit) [] [] [] (fun i=>[]) hM ?_ ?_
   ·intro e8 hM hR1 K10 hK10;refine S1 ?_;refine Zc ?_;refine lp (ι:=Int) [1] [1] [] (fun i=>[(3,oI i)]) (fun n i=>Qd k a0 n i=some e8) k 0 hM (by simp [Qd]) ?_;intro KL11 nL11 x3 hL11 hM _;have hM:Qd k a0 (nL11+1) x3=some e8:=hM;rw [Qd] at hM;refine Zg fun K12 hK12=> ?_;refine S1 ?_;refine Zn hM (fun h13 hM=> ?_) (fun h13 hM=> ?_)
    ·have F:=Zwg (nf F h13) (lT h13);refine Zi ?_;refine hK12 _ ?_;refine mjE (ι:=Unit) [1,3] [1] [] (fun i=>[]) hM ?_ ?_
     ·intro e14 hM hR2 K16 hK16;refine Zc ?_;obtain ⟨x4,e17,hM⟩:=bind_some hM;have F:=Zwg F (WZ e17);refine S1 ?_;refine Zg fun K18 hK18=> ?_;refine mj (ι:=Bool) [1,3,4] [1,4] [] (fun i=>[(40,oB i)]) hM ?_ ?_
      ·intro e19 hM K21 hK21;exact au
      ·intro x5 hM;(try dsimp only at hM);refine Zn hM (fun h24 hM=> ?_) (fun h24 hM=> ?_)
       ·have F:=nf F h24;exact au
       ·have F:=nf F h24;refine Zi ?_;refine hK18 _ ?_;refine S1 ?_;refine Zc ?_;refine lp (ι:=Int) [1,3,4] [1,4] [] (fun i=>[(5,oI i)]) (fun n i=>QW x4 n i=some e14) k 0 hM (by simp [QW]) ?_;intro KL25 nL25 x7 hL25 hM _;have hM:QW x4 (nL25+1) x7=some e14:=hM;rw [QW] at hM;exact au
     ·intro _ hM;dsimp only at hM;exact au
    ·have F:=Zwg (nf F h13) (lF h13);exact au
   ·intro _ hM;dsimp only at hM;exact au
instance:HC 214 (Ty @ZbS):=⟨ZbS⟩
theorem Zg5:∀(k:Nat),(∀(a0:Zb) (r:Bool) (hM:U7 k a0=some r),Ctr Tryz.prog 213 [.agg (Zb.c a0)] true [.one (.bool r)])/\
  (∀(a0:Zb) (r:Bool) (hM:ZF k a0=some r),Ctr Tryz.prog 172 [.agg (Zb.c a0)] true [.one (.bool r)]):=by
 intro k
 induction k with
 | zero=>exact ⟨by intro a0 r hM;simp [U7] at hM,by intro a0 r hM;simp [ZF] at hM⟩
 | succ k ih=>
  obtain ⟨ih_s_l3List,ih_s_IsValidValue⟩:=ih;refine ⟨?_, ?_⟩
  ·intro a0 r hM;haveI:HC 213 _:=⟨ih_s_l3List⟩;haveI:HC 172 _:=⟨ih_s_IsValidValue⟩;rw [U7] at hM;refine Zr Tryz.func213 Tryz.ntmps213 Tryz.results213 fun N w0 hbad F=> ?_;refine S1 ?_;refine mjE (ι:=Unit) [1] [1] [] (fun i=>[]) hM ?_ ?_
   ·intro e1 hM hR1 K3 hK3;refine S1 ?_;refine Zc ?_;refine lp (ι:=Int) [1] [1] [] (fun i=>[(3,oI i)]) (fun n i=>X6 (ZF k) a0 n i=some e1) k 0 hM (by simp [X6]) ?_;intro KL4 nL4 x1 hL4 hM _;have hM:X6 (ZF k) a0 (nL4+1) x1=some e1:=hM;rw [X6] at hM;refine Zg fun K5 hK5=> ?_;refine S1 ?_;refine Zn hM (fun h6 hM=> ?_) (fun h6 hM=> ?_)
    ·have F:=Zwg (nf F h6) (lT h6);refine Zi ?_;refine hK5 _ ?_;refine Zg fun K7 hK7=> ?_;refine Zc ?_;refine mj (ι:=Bool) [1,3] [1] [] (fun i=>[(26,oB i)]) hM ?_ ?_
     ·intro e8 hM K10 hK10;exact au
     ·intro x2 hM;(try dsimp only at hM);exact au
    ·have F:=Zwg (nf F h6) (lF h6);exact au
   ·intro _ hM;dsimp only at hM;refine mj (ι:=Bool) [] [] [] (fun i=>[(2,oB i)]) hM ?_ ?_
    ·intro e16 hM K18 hK18;exact au
    ·intro x6 hM;(try dsimp only at hM);exact au
  ·intro a0 r hM;haveI:HC 213 _:=⟨ih_s_l3List⟩;haveI:HC 172 _:=⟨ih_s_IsValidValue⟩;rw [ZF] at hM;refine Zr Tryz.func172 Tryz.ntmps172 Tryz.results172 fun N w0 hbad F=> ?_;refine S1 ?_;refine Zg fun K1 hK1=> ?_;refine mj (ι:=Bool) [1] [1] [] (fun i=>[(26,oB i)]) hM ?_ ?_
   ·intro e2 hM K4 hK4;exact au
   ·intro x1 hM;(try dsimp only at hM);refine Zn hM (fun h8 hM=> ?_) (fun h8 hM=> ?_)
    ·have F:=nf F h8;exact au
    ·have F:=nf F h8;refine Zi ?_;refine hK1 _ ?_;refine Zg fun K9 hK9=> ?_;refine mj (ι:=Bool) [1] [1] [] (fun i=>[(44,oB i)]) hM ?_ ?_
     ·intro e10 hM K12 hK12;exact au
     ·intro x2 hM;(try dsimp only at hM);refine Zn hM (fun h16 hM=> ?_) (fun h16 hM=> ?_)
      ·have F:=nf F h16;exact au
      ·have F:=nf F h16;refine Zi ?_;refine hK9 _ ?_;refine Zg fun K17 hK17=> ?_;refine S1 ?_;refine Zc ?_;refine S1 ?_;refine Zn hM (fun h18 hM=> ?_) (fun h18 hM=> ?_)
       ·have F:=nf F h18;exact au
       ·have F:=nf F h18;refine S1 ?_;refine Zn hM (fun h20 hM=> ?_) (fun h20 hM=> ?_)
        ·have F:=nf F h20;refine mj (ι:=Bool) [] [] [] (fun i=>[(2,oB i)]) hM ?_ ?_
         ·intro e21 hM K23 hK23;exact au
         ·intro x4 hM;(try dsimp only at hM);exact au
        ·have F:=nf F h20;refine S1 ?_;refine Zn hM (fun h26 hM=> ?_) (fun h26 hM=> ?_)
         ·have F:=nf F h26;refine mj (ι:=Bool) [] [] [] (fun i=>[(2,oB i)]) hM ?_ ?_
          ·intro e27 hM K29 hK29;exact au
          ·intro x6 hM;(try dsimp only at hM);exact au
         ·have F:=nf F h26;refine S1 ?_;refine Zn hM (fun h32 hM=> ?_) (fun h32 hM=> ?_)
          ·have F:=nf F h32;refine mj (ι:=Bool) [] [] [] (fun i=>[(2,oB i)]) hM ?_ ?_
           ·intro e33 hM K35 hK35;exact au
           ·intro x8 hM;(try dsimp only at hM);exact au
          ·have F:=nf F h32;refine S1 ?_;refine Zn hM (fun h39 hM=> ?_) (fun h39 hM=> ?_)
           ·have F:=nf F h39;refine mj (ι:=Bool) [] [] [] (fun i=>[(2,oB i)]) hM ?_ ?_
            ·intro e40 hM K42 hK42;exact au
            ·intro x11 hM;(try dsimp only at hM);exact au
           ·have F:=nf F h39;exact au
theorem Jb (k:Nat):∀(a0:Zb) (r:Bool) (hM:ZF k a0=some r),Ctr Tryz.prog 172 [.agg (Zb.c a0)] true [.one (.bool r)]:=(Zg5 k).2
instance:HC 172 (Ty @Jb):=⟨Jb⟩
end Go.Proofs.YtbkllghhcphkaaaGreatDoor
