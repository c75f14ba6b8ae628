import Derived.Test.YtfapaeabfcogkaaGreatDoorJ6
import Derived.Test.YtfapaeabfcogkaaGreatDoorJ7
import Derived.Test.YtfapaeabfcogkaaGreatDoorJ11
import Derived.Test.YtfapaeabfcogkaaGreatDoorCt2
set_option linter.unusedSimpArgs false
set_option linter.unusedVariables false
namespace Go.Proofs.YtfapaeabfcogkaaGreatDoor
open Go.RowKit Am
set_option maxHeartbeats 4000000
set_option maxRecDepth 100000
theorem WS (a0:Int) (r:Za) (hM:Wc a0=some r):Ctr Tryz.prog 98 [.one (.int .i64 a0)] true [.agg (Za.c r)]:=by
 unfold Wc at hM
 refine Zr Tryz.func98 Tryz.ntmps98 Tryz.results98 fun N w0 hbad F=> ?_
 exact au
instance:HC 98 (Ty @WS):=⟨WS⟩
theorem VG (a0:Int) (r:Za) (hM:Kp a0=some r):Ctr Tryz.prog 162 [.one (.int .i64 a0)] true [.agg (Za.c r)]:=by
 unfold Kp at hM
 refine Zr Tryz.func162 Tryz.ntmps162 Tryz.results162 fun N w0 hbad F=> ?_
 exact au
instance:HC 162 (Ty @VG):=⟨VG⟩
theorem VT (k:Nat) (a0:ByteArray) (r:List ByteArray) (hM:Ut k a0=some r):Ctr Tryz.prog 224 [.one (.str a0)] true [.one (.sl (r.map sC))]:=by
 unfold Ut at hM
 refine Zr Tryz.func224 Tryz.ntmps224 Tryz.results224 fun N w0 hbad F=> ?_
 refine S1 ?_;refine S1 ?_;refine S1 ?_;refine mj (ι:=(List ByteArray)×Int) [0] [] [] (fun i=>[(3,oO 384 i.1.length),(4,oI i.2)]) hM ?_ ?_ (ca:=fun i=>[(384,aT sC i.1)])
 ·intro e1 hM K3 hK3;refine S1 ?_;refine Zg ?_;refine lp (ι:=(List ByteArray)×Int×Int) [0] [] [] (fun i=>[(3,oO 384 i.1.length),(4,oI i.2.1),(5,oI i.2.2)]) (fun n i=>ZV a0 n i.1 i.2.1 i.2.2=some e1) k (([]:List ByteArray),0,0) hM (by simp [ZV]) ?_ (ca:=fun i=>[(384,aT sC i.1)]);intro KL4 nL4 ⟨x3,x4,x5⟩ hL4 hM _;have hM:ZV a0 (nL4+1) x3 x4 x5=some e1:=hM
  rw [ZV] at hM;refine Zh fun K5 hK5=> ?_;refine S1 ?_;refine Zp hM (fun h6 hM=> ?_) (fun h6 hM=> ?_)
  ·have F:=And.intro (nf F h6) (lT h6);refine Zl ?_;refine hK5 _ ?_;refine mj (ι:=(List ByteArray)×Int) [0,5] [] [] (fun i=>[(3,oO 384 i.1.length),(4,oI i.2)]) hM ?_ ?_ (ca:=fun i=>[(384,aT sC i.1)])
   ·intro e7 hM K9 hK9;refine Zg ?_;refine mj (ι:=Bool) [0,3,4,5] [] [384] (fun i=>[(24,oB i)]) hM ?_ ?_
    ·intro e10 hM K12 hK12;exact au
    ·intro x8 hM;(try dsimp only at hM);exact au
   ·rintro ⟨x6,x7⟩ hM;dsimp only at hM;exact au
  ·have F:=And.intro (nf F h6) (lF h6);exact au
 ·rintro ⟨x1,x2⟩ hM;dsimp only at hM;exact au
instance:HC 224 (Ty @VT):=⟨VT⟩
theorem X8 (k:Nat) (a0:ByteArray) (a1:Int) (r:List ByteArray) (hM:WV k a0 a1=some r):Ctr Tryz.prog 225 [.one (.str a0),.one (.int .u8 a1)] true [.one (.sl (r.map sC))]:=by
 unfold WV at hM
 refine Zr Tryz.func225 Tryz.ntmps225 Tryz.results225 fun N w0 hbad F=> ?_
 refine S1 ?_;refine S1 ?_;refine S1 ?_;refine mj (ι:=List ByteArray) [] [] [] (fun i=>[(5,oO 512 i.length)]) hM ?_ ?_ (ca:=fun i=>[(512,aT sC i)])
 ·intro e1 hM K3 hK3;refine S1 ?_;refine Zg ?_;refine lp (ι:=(List ByteArray)×Int×Int) [0,1] [] [] (fun i=>[(5,oO 512 i.1.length),(6,oI i.2.1),(7,oI i.2.2)]) (fun n i=>YC a0 a1 n i.1 i.2.1 i.2.2=some e1) k (([]:List ByteArray),0,0) hM (by simp [YC]) ?_ (ca:=fun i=>[(512,aT sC i.1)]);intro KL4 nL4 ⟨x2,x3,x4⟩ hL4 hM _;have hM:YC a0 a1 (nL4+1) x2 x3 x4=some e1:=hM
  rw [YC] at hM;refine Zh fun K5 hK5=> ?_;refine S1 ?_;refine Zp hM (fun h6 hM=> ?_) (fun h6 hM=> ?_)
  ·have F:=And.intro (nf F h6) (eT h6);refine Zl ?_;refine hK5 _ ?_;refine mj (ι:=(List ByteArray)×Int) [0,1,7] [] [] (fun i=>[(5,oO 512 i.1.length),(6,oI i.2)]) hM ?_ ?_ (ca:=fun i=>[(512,aT sC i.1)])
   ·intro e7 hM K9 hK9;refine Zg ?_;refine mj (ι:=Bool) [0,1,5,6,7] [] [512] (fun i=>[(25,oB i)]) hM ?_ ?_
    ·intro e10 hM K12 hK12;exact au
    ·intro x7 hM;(try dsimp only at hM);exact au
   ·rintro ⟨x5,x6⟩ hM;dsimp only at hM;exact au
  ·have F:=And.intro (nf F h6) (eF h6);exact au
 ·intro x1 hM;(try dsimp only at hM);exact au
instance:HC 225 (Ty @X8):=⟨X8⟩
theorem Zbt (a0:Int) (r:Bool) (hM:Y7 a0=some r):Ctr Tryz.prog 260 [.one (.int .i64 a0)] true [.one (.bool r)]:=by
 unfold Y7 at hM
 refine Zr Tryz.func260 Tryz.ntmps260 Tryz.results260 fun N w0 hbad F=> ?_
 exact au
instance:HC 260 (Ty @Zbt):=⟨Zbt⟩
theorem Jj (k:Nat) (a0:ByteArray) (a1:Int) (r:(List Int)×Bool) (hM:Jk k a0 a1=some r):Ctr Tryz.prog 226 [.one (.str a0),.one (.int .i64 a1)] true [.one (.sl (r.1.map iC)),.one (.bool r.2)]:=by
 unfold Jk at hM
 refine Zr Tryz.func226 Tryz.ntmps226 Tryz.results226 fun N w0 hbad F=> ?_
 refine S1 ?_;refine S1 ?_;obtain ⟨x1,e1,hM⟩:=bind_some hM;refine Zw fun K h=> ?_;simp [go_sem,F];refine Qb false (X8 k a0 32 x1 e1) ?_;simp [go_sem,F];refine h _ ?_;refine mjE (ι:=List Int) [1] [] [] (fun i=>[(6,oO 704 i.length)]) hM ?_ ?_ (ca:=fun i=>[(704,aT iC i)])
 ·intro e2 hM hR1 K4 hK4;refine S1 ?_;refine Zg ?_;refine lp (ι:=(List Int)×Int) [1,7] [] [832] (fun i=>[(6,oO 704 i.1.length),(8,oI i.2)]) (fun n i=>YH k x1 n i.1 i.2=some e2) k (([]:List Int),0) hM (by simp [YH]) ?_ (ca:=fun i=>[(704,aT iC i.1)]);intro KL5 nL5 ⟨x3,x4⟩ hL5 hM _;have hM:YH k x1 (nL5+1) x3 x4=some e2:=hM;rw [YH] at hM
  refine Zh fun K6 hK6=> ?_;refine S1 ?_;refine Zp hM (fun h7 hM=> ?_) (fun h7 hM=> ?_)
  ·have F:=And.intro (nf F h7) (lT h7);refine Zl ?_;refine hK6 _ ?_;refine Zh fun K8 hK8=> ?_;refine Zg ?_;obtain ⟨x5,e9,hM⟩:=bind_some hM;have F:=And.intro F (Vs e9);have F:=And.intro F (Zoi e9);obtain ⟨x6,e10,hM⟩:=bind_some hM;refine Zw fun K h=> ?_;simp [go_sem,F];refine Qb false (VU k x5 x6 e10) ?_;simp [go_sem,F];refine h _ ?_
   refine Zh fun K11 hK11=> ?_;refine mj (ι:=Bool) [1,6,7,8,9] [] [704,832] (fun i=>[(34,oB i)]) hM ?_ ?_
   ·intro e12 hM K14 hK14;exact au
   ·intro x7 hM;(try dsimp only at hM);exact au
  ·have F:=And.intro (nf F h7) (lF h7);exact au
 ·intro x2 hM;dsimp only at hM;exact au
instance:HC 226 (Ty @Jj):=⟨Jj⟩
theorem Zat (a0:Za) (r:Bool) (hM:UG a0=some r):Ctr Tryz.prog 311 [.agg (Za.c a0)] true [.one (.bool r)]:=by
 unfold UG at hM
 refine Zr Tryz.func311 Tryz.ntmps311 Tryz.results311 fun N w0 hbad F=> ?_
 refine S1 ?_;refine mj (ι:=Bool) [] [] [] (fun i=>[(2,oB i)]) hM ?_ ?_
 ·intro e1 hM K3 hK3;exact au
 ·intro x1 hM;(try dsimp only at hM);exact au
instance:HC 311 (Ty @Zat):=⟨Zat⟩
theorem ZgQ:∀(k:Nat),(∀(a0:Za) (r:Int) (hM:QP k a0=some r),Ctr Tryz.prog 312 [.agg (Za.c a0)] true [.one (.int .i64 r)]):=by
 intro k
 induction k with
 | zero=>intro a0 r hM;simp [QP] at hM
 | succ k ih_s_DepthOf=>
  ·intro a0 r hM
   haveI:HC 312 _:=⟨ih_s_DepthOf⟩;rw [QP] at hM
   refine Zr Tryz.func312 Tryz.ntmps312 Tryz.results312 fun N w0 hbad F=> ?_
   refine S1 ?_;refine S1 ?_;refine mj (ι:=Int) [] [] [] (fun i=>[(3,oI i)]) hM ?_ ?_
   ·intro e1 hM K3 hK3;refine S1 ?_;refine Zg ?_;refine lp (ι:=Int×Int) [1] [1] [] (fun i=>[(3,oI i.1),(4,oI i.2)]) (fun n i=>Xt (QP k) a0 n i.1 i.2=some e1) k (0,0) hM (by simp [Xt]) ?_;intro KL4 nL4 ⟨x2,x3⟩ hL4 hM _;have hM:Xt (QP k) a0 (nL4+1) x2 x3=some e1:=hM;rw [Xt] at hM;exact au
   ·intro x1 hM;(try dsimp only at hM);exact au
theorem ZcD (k:Nat):∀(a0:Za) (r:Int) (hM:QP k a0=some r),Ctr Tryz.prog 312 [.agg (Za.c a0)] true [.one (.int .i64 r)]:=(ZgQ k)
instance:HC 312 (Ty @ZcD):=⟨ZcD⟩
theorem JV (k:Nat) (a0:List ByteArray) (r:Bool) (hM:Vc k a0=some r):Ctr Tryz.prog 264 [.one (.sl (a0.map sC))] true [.one (.bool r)]:=by
 unfold Vc at hM
 refine Zr Tryz.func264 Tryz.ntmps264 Tryz.results264 fun N w0 hbad F=> ?_
 refine S1 ?_;refine mjE (ι:=Unit) [] [] [] (fun i=>[]) hM ?_ ?_
 ·intro e1 hM hR1 K3 hK3;refine S1 ?_;refine Zg ?_;refine lp (ι:=Int) [0] [] [] (fun i=>[(3,oI i)]) (fun n i=>Yc k a0 n i=some e1) k 0 hM (by simp [Yc]) ?_;intro KL4 nL4 x1 hL4 hM _;have hM:Yc k a0 (nL4+1) x1=some e1:=hM;rw [Yc] at hM;refine Zh fun K5 hK5=> ?_;refine S1 ?_;refine Zp hM (fun h6 hM=> ?_) (fun h6 hM=> ?_)
  ·have F:=And.intro (nf F h6) (lT h6);refine Zl ?_;refine hK5 _ ?_;refine Zh fun K7 hK7=> ?_;refine Zg ?_;refine Zh fun K8 hK8=> ?_;refine le1 [0,3] [] [] ?_;obtain ⟨x2,e9,hM⟩:=bind_some hM;obtain ⟨c10,s11⟩:=Zek e9;replace c10:=c10.symm;subst c10;(try simp at s11);have F:=And.intro F s11;obtain ⟨x3,e14,hM⟩:=bind_some hM;have F:=And.intro F (Vs e14)
   obtain ⟨x4,e15,hM⟩:=bind_some hM;refine ZT [[],[],[0,1],[],[],[3,4],[3,4,5],[0,1,2,3,4,5,6]] mixed (by kernel_rfl) ?_;simp [go_sem,F];refine Qb false (ZbM k ((a0.take x1.toNat).drop (0:Int).toNat) x3 x4 e15) ?_;simp [go_sem,F];refine ⟨Zu (by kernel_rfl), ?_⟩;exact au
  ·have F:=And.intro (nf F h6) (lF h6);exact au
 ·intro _ hM;dsimp only at hM;exact au
instance:HC 264 (Ty @JV):=⟨JV⟩
theorem UH (k:Nat) (a0:List ByteArray) (r:Bool) (hM:Vz k a0=some r):Ctr Tryz.prog 228 [.one (.sl (a0.map sC))] true [.one (.bool r)]:=by
 unfold Vz at hM
 refine Zr Tryz.func228 Tryz.ntmps228 Tryz.results228 fun N w0 hbad F=> ?_
 refine S1 ?_;refine mjE (ι:=Unit) [0] [] [] (fun i=>[]) hM ?_ ?_
 ·intro e1 hM hR1 K3 hK3;refine S1 ?_;refine Zg ?_;refine lp (ι:=Int) [0] [] [] (fun i=>[(3,oI i)]) (fun n i=>Qo k a0 n i=some e1) k 0 hM (by simp [Qo]) ?_;intro KL4 nL4 x1 hL4 hM _;have hM:Qo k a0 (nL4+1) x1=some e1:=hM;rw [Qo] at hM;exact au
 ·intro _ hM;dsimp only at hM;refine mj (ι:=Bool) [] [] [] (fun i=>[(2,oB i)]) hM ?_ ?_
  ·intro e11 hM K13 hK13;exact au
  ·intro x4 hM;(try dsimp only at hM);exact au
instance:HC 228 (Ty @UH):=⟨UH⟩
theorem JB (a0:Zc) (a1:Zc) (r:Bool) (hM:VA a0 a1=some r):Ctr Tryz.prog 335 [.agg (Zc.c a0),.agg (Zc.c a1)] true [.one (.bool r)]:=by
 unfold VA at hM
 refine Zr Tryz.func335 Tryz.ntmps335 Tryz.results335 fun N w0 hbad F=> ?_
 refine S1 ?_;refine mj (ι:=Bool) [] [] [] (fun i=>[(4,oB i)]) hM ?_ ?_
 ·intro e1 hM K3 hK3;exact au
 ·intro x1 hM;(try dsimp only at hM);exact au
instance:HC 335 (Ty @JB):=⟨JB⟩
theorem JQ (k:Nat) (a0:List Zc) (r:Bool) (hM:Wx k a0=some r):Ctr Tryz.prog 313 [.one (.sl (a0.map Zc.c))] true [.one (.bool r)]:=by
 unfold Wx at hM
 refine Zr Tryz.func313 Tryz.ntmps313 Tryz.results313 fun N w0 hbad F=> ?_
 refine S1 ?_;refine mjE (ι:=Unit) [] [] [] (fun i=>[]) hM ?_ ?_
 ·intro e1 hM hR1 K3 hK3;refine S1 ?_;refine Zg ?_;refine lp (ι:=Int) [0] [] [] (fun i=>[(3,oI i)]) (fun n i=>YM a0 n i=some e1) k 0 hM (by simp [YM]) ?_;intro KL4 nL4 x1 hL4 hM _;have hM:YM a0 (nL4+1) x1=some e1:=hM;rw [YM] at hM;refine Zh fun K5 hK5=> ?_;refine S1 ?_;refine Zp hM (fun h6 hM=> ?_) (fun h6 hM=> ?_)
  ·have F:=And.intro (nf F h6) (lT h6);refine Zl ?_;refine hK5 _ ?_;refine Zh fun K7 hK7=> ?_;refine Zg ?_;refine mj (ι:=Bool) [0,3] [] [] (fun i=>[(40,oB i)]) hM ?_ ?_
   ·intro e8 hM K10 hK10;obtain ⟨x3,e11,hM⟩:=bind_some hM;have F:=And.intro F (Vs e11);rcases ifM hM with ⟨h12,hM⟩| ⟨h12,hM⟩
    ·have F:=And.intro (nf F h12) (lT h12);refine ZD 27 mixed (by kernel_rfl) (by kernel_rfl) ?_;simp [go_sem,F];exact au
    ·have F:=And.intro (nf F h12) (lF h12);rcases ifM hM with ⟨h13,hM⟩| ⟨h13,hM⟩
     ·have F:=And.intro (nf F h13) (lT h13);refine ZD 27 mixed (by kernel_rfl) (by kernel_rfl) ?_;simp [go_sem,F];exact au
     ·have F:=And.intro (nf F h13) (lF h13);rcases ifM hM with ⟨h14,hM⟩| ⟨h14,hM⟩
      ·have F:=And.intro (nf F h14) (lT h14);obtain ⟨x4,e15,hM⟩:=bind_some hM;have F:=And.intro F (Vs e15);obtain ⟨x5,e16,hM⟩:=bind_some hM;refine ZD 27 mixed (by kernel_rfl) (by kernel_rfl) ?_;simp [go_sem,F];refine Qb false (JB x4 x3 x5 e16) ?_;simp [go_sem,F];exact au
      ·have F:=And.intro (nf F h14) (lF h14);refine ZD 27 mixed (by kernel_rfl) (by kernel_rfl) ?_;simp [go_sem,F];exact au
   ·intro x2 hM;(try dsimp only at hM);exact au
  ·have F:=And.intro (nf F h6) (lF h6);exact au
 ·intro _ hM;dsimp only at hM;exact au
instance:HC 313 (Ty @JQ):=⟨JQ⟩
theorem Zcv (k:Nat) (a0:Za) (r:Bool) (hM:Zas k a0=some r):Ctr Tryz.prog 263 [.agg (Za.c a0)] true [.one (.bool r)]:=by
 unfold Zas at hM
 refine Zr Tryz.func263 Tryz.ntmps263 Tryz.results263 fun N w0 hbad F=> ?_
 refine S1 ?_;refine Zh fun K1 hK1=> ?_;refine mj (ι:=Bool) [1] [1] [] (fun i=>[(15,oB i)]) hM ?_ ?_
 ·intro e2 hM K4 hK4;exact au
 ·intro x1 hM;(try dsimp only at hM);refine Zp hM (fun h7 hM=> ?_) (fun h7 hM=> ?_)
  ·have F:=nf F h7;exact au
  ·have F:=nf F h7;refine Zl ?_;refine hK1 _ ?_;refine mjE (ι:=Unit) [] [] [] (fun i=>[]) hM ?_ ?_
   ·intro e8 hM hR1 K10 hK10;refine S1 ?_;refine Zg ?_;refine lp (ι:=Int) [1] [1] [] (fun i=>[(3,oI i)]) (fun n i=>Y1 k a0 n i=some e8) k 0 hM (by simp [Y1]) ?_;intro KL11 nL11 x3 hL11 hM _;have hM:Y1 k a0 (nL11+1) x3=some e8:=hM;rw [Y1] at hM;refine Zh fun K12 hK12=> ?_;refine S1 ?_;refine Zp hM (fun h13 hM=> ?_) (fun h13 hM=> ?_)
    ·have F:=And.intro (nf F h13) (lT h13);refine Zl ?_;refine hK12 _ ?_;refine mjE (ι:=Unit) [1,3] [1] [] (fun i=>[]) hM ?_ ?_
     ·intro e14 hM hR2 K16 hK16;refine Zg ?_;obtain ⟨x4,e17,hM⟩:=bind_some hM;have F:=And.intro F (Vs e17);refine S1 ?_;refine Zh fun K18 hK18=> ?_;refine mj (ι:=Bool) [1,3,4] [1,4] [] (fun i=>[(40,oB i)]) hM ?_ ?_
      ·intro e19 hM K21 hK21;exact au
      ·intro x5 hM;(try dsimp only at hM);refine Zp hM (fun h24 hM=> ?_) (fun h24 hM=> ?_)
       ·have F:=nf F h24;exact au
       ·have F:=nf F h24;refine Zl ?_;refine hK18 _ ?_;refine S1 ?_;refine Zg ?_;refine lp (ι:=Int) [1,3,4] [1,4] [] (fun i=>[(5,oI i)]) (fun n i=>QL x4 n i=some e14) k 0 hM (by simp [QL]) ?_;intro KL25 nL25 x7 hL25 hM _;have hM:QL x4 (nL25+1) x7=some e14:=hM;rw [QL] at hM;exact au
     ·intro _ hM;dsimp only at hM;exact au
    ·have F:=And.intro (nf F h13) (lF h13);exact au
   ·intro _ hM;dsimp only at hM;exact au
instance:HC 263 (Ty @Zcv):=⟨Zcv⟩
theorem ZdQ:∀(k:Nat),(∀(a0:Za) (r:Bool) (hM:Uj k a0=some r),Ctr Tryz.prog 262 [.agg (Za.c a0)] true [.one (.bool r)])∧
  (∀(a0:Za) (r:Bool) (hM:ZK k a0=some r),Ctr Tryz.prog 227 [.agg (Za.c a0)] true [.one (.bool r)]):=by
 intro k
 induction k with
 | zero=>exact ⟨by intro a0 r hM;simp [Uj] at hM,by intro a0 r hM;simp [ZK] at hM⟩
 | succ k ih=>
  obtain ⟨ih_s_l3List,ih_s_IsValidValue⟩:=ih
  refine ⟨?_, ?_⟩
  ·intro a0 r hM
   haveI:HC 262 _:=⟨ih_s_l3List⟩;haveI:HC 227 _:=⟨ih_s_IsValidValue⟩;rw [Uj] at hM
   refine Zr Tryz.func262 Tryz.ntmps262 Tryz.results262 fun N w0 hbad F=> ?_
   refine S1 ?_;refine mjE (ι:=Unit) [1] [1] [] (fun i=>[]) hM ?_ ?_
   ·intro e1 hM hR1 K3 hK3;refine S1 ?_;refine Zg ?_;refine lp (ι:=Int) [1] [1] [] (fun i=>[(3,oI i)]) (fun n i=>X2 (ZK k) a0 n i=some e1) k 0 hM (by simp [X2]) ?_;intro KL4 nL4 x1 hL4 hM _;have hM:X2 (ZK k) a0 (nL4+1) x1=some e1:=hM;rw [X2] at hM;refine Zh fun K5 hK5=> ?_;refine S1 ?_;refine Zp hM (fun h6 hM=> ?_) (fun h6 hM=> ?_)
    ·have F:=And.intro (nf F h6) (lT h6);refine Zl ?_;refine hK5 _ ?_;refine Zh fun K7 hK7=> ?_;refine Zg ?_;refine mj (ι:=Bool) [1,3] [1] [] (fun i=>[(26,oB i)]) hM ?_ ?_
     ·intro e8 hM K10 hK10;exact au
     ·intro x2 hM;(try dsimp only at hM);exact au
    ·have F:=And.intro (nf F h6) (lF h6);exact au
   ·intro _ hM;dsimp only at hM;refine mj (ι:=Bool) [] [] [] (fun i=>[(2,oB i)]) hM ?_ ?_
    ·intro e16 hM K18 hK18;exact au
    ·intro x6 hM;(try dsimp only at hM);exact au
  ·intro a0 r hM
   haveI:HC 262 _:=⟨ih_s_l3List⟩;haveI:HC 227 _:=⟨ih_s_IsValidValue⟩;rw [ZK] at hM
   refine Zr Tryz.func227 Tryz.ntmps227 Tryz.results227 fun N w0 hbad F=> ?_
   refine S1 ?_;refine Zh fun K1 hK1=> ?_;refine mj (ι:=Bool) [1] [1] [] (fun i=>[(26,oB i)]) hM ?_ ?_
   ·intro e2 hM K4 hK4;exact au
   ·intro x1 hM;(try dsimp only at hM);refine Zp hM (fun h8 hM=> ?_) (fun h8 hM=> ?_)
    ·have F:=nf F h8;exact au
    ·have F:=nf F h8;refine Zl ?_;refine hK1 _ ?_;refine Zh fun K9 hK9=> ?_;refine mj (ι:=Bool) [1] [1] [] (fun i=>[(44,oB i)]) hM ?_ ?_
     ·intro e10 hM K12 hK12;exact au
     ·intro x2 hM;(try dsimp only at hM);refine Zp hM (fun h16 hM=> ?_) (fun h16 hM=> ?_)
      ·have F:=nf F h16;exact au
      ·have F:=nf F h16;refine Zl ?_;refine hK9 _ ?_;refine Zh fun K17 hK17=> ?_;refine S1 ?_;refine Zg ?_;refine S1 ?_;refine Zp hM (fun h18 hM=> ?_) (fun h18 hM=> ?_)
       ·have F:=nf F h18;exact au
       ·have F:=nf F h18;refine S1 ?_;refine Zp hM (fun h20 hM=> ?_) (fun h20 hM=> ?_)
        ·have F:=nf F h20;refine mj (ι:=Bool) [] [] [] (fun i=>[(2,oB i)]) hM ?_ ?_
         ·intro e21 hM K23 hK23;exact au
         ·intro x4 hM;(try dsimp only at hM);exact au
        ·have F:=nf F h20;refine S1 ?_;refine Zp hM (fun h26 hM=> ?_) (fun h26 hM=> ?_)
         ·have F:=nf F h26;refine mj (ι:=Bool) [] [] [] (fun i=>[(2,oB i)]) hM ?_ ?_
          ·intro e27 hM K29 hK29;exact au
          ·intro x6 hM;(try dsimp only at hM);exact au
         ·have F:=nf F h26;refine S1 ?_;refine Zp hM (fun h32 hM=> ?_) (fun h32 hM=> ?_)
          ·have F:=nf F h32;refine mj (ι:=Bool) [] [] [] (fun i=>[(2,oB i)]) hM ?_ ?_
           ·intro e33 hM K35 hK35;exact au
           ·intro x8 hM;(try dsimp only at hM);exact au
          ·have F:=nf F h32;refine S1 ?_;refine Zp hM (fun h39 hM=> ?_) (fun h39 hM=> ?_)
           ·have F:=nf F h39;refine mj (ι:=Bool) [] [] [] (fun i=>[(2,oB i)]) hM ?_ ?_
            ·intro e40 hM K42 hK42;exact au
            ·intro x11 hM;(try dsimp only at hM);exact au
           ·have F:=nf F h39;exact au
theorem ZdP (k:Nat):∀(a0:Za) (r:Bool) (hM:Uj k a0=some r),Ctr Tryz.prog 262 [.agg (Za.c a0)] true [.one (.bool r)]:=(ZdQ k).1
instance:HC 262 (Ty @ZdP):=⟨ZdP⟩
theorem Jl (k:Nat):∀(a0:Za) (r:Bool) (hM:ZK k a0=some r),Ctr Tryz.prog 227 [.agg (Za.c a0)] true [.one (.bool r)]:=(ZdQ k).2
instance:HC 227 (Ty @Jl):=⟨Jl⟩
end Go.Proofs.YtfapaeabfcogkaaGreatDoor
namespace Go.Proofs.YtfapaeabfcogkaaGreatDoor
open Go.RowKit Am
set_option maxHeartbeats 4000000
set_option maxRecDepth 100000
theorem UK (k:Nat) (a0:ByteArray) (r:Za×Bool) (hM:VF k a0=some r):Ctr Tryz.prog 163 [.one (.str a0)] true [.agg (Za.c r.1),.one (.bool r.2)]:=by
 unfold VF at hM
 refine Zr Tryz.func163 Tryz.ntmps163 Tryz.results163 fun N w0 hbad F=> ?_
 refine S1 ?_;obtain ⟨x1,e1,hM⟩:=bind_some hM;refine Zw fun K h=> ?_;simp [go_sem,F];refine Qb false (VT k a0 x1 e1) ?_;simp [go_sem,F];refine h _ ?_;obtain ⟨x2,e2,hM⟩:=bind_some hM;have F:=And.intro F (Vs e2);have F:=And.intro F (show 0<x1.length by simpa using Zoi e2);have F:=And.intro F (Zsf 0 e2);obtain ⟨x3,e3,hM⟩:=bind_some hM;refine Zw fun K h=> ?_
 simp [go_sem,F];refine Qb false (X8 k x2 32 x3 e3) ?_;simp [go_sem,F];refine h _ ?_;refine mjE (ι:=List Zq) [2,5] [2] [896] (fun i=>[]) hM ?_ ?_ (cb:=fun i=>[(5,[cI 5,cI 0,cI 0,cS (⟨#[]⟩:ByteArray),.nil,.own 896 x3.length,.own 2624 i.length])]) (ca:=fun i=>[(2624,aT Zq.c i)])
 ·intro e4 hM hR1 K6 hK6;refine S1 ?_;refine Zg ?_;refine lp (ι:=(List Zq)×Int) [2,4,5] [2] [640,896] (fun i=>[(6,oI i.2)]) (fun n i=>YD k x1 x3 n i.1 i.2=some e4) k ([],1) hM (by simp [YD]) ?_ (cb:=fun i=>[(5,[cI 5,cI 0,cI 0,cS (⟨#[]⟩:ByteArray),.nil,.own 896 x3.length,.own 2624 i.1.length])]) (ca:=fun i=>[(2624,aT Zq.c i.1)])
  intro KL7 nL7 ⟨x5,x6⟩ hL7 hM _;have hM:YD k x1 x3 (nL7+1) x5 x6=some e4:=hM;rw [YD] at hM;refine Zh fun K8 hK8=> ?_;refine S1 ?_;refine Zp hM (fun h9 hM=> ?_) (fun h9 hM=> ?_)
  ·have F:=And.intro (nf F h9) (lT h9);refine Zl ?_;refine hK8 _ ?_;refine Zh fun K10 hK10=> ?_;refine Zg ?_;refine Zh fun K11 hK11=> ?_;refine le1 [2,4,5,6] [2,5] [640,896,2624] ?_;obtain ⟨x7,e12,hM⟩:=bind_some hM;have F:=And.intro F (Vs e12);have F:=And.intro F (Zoi e12);obtain ⟨x8,e13,hM⟩:=bind_some hM;refine ZT [[],[],[0,1],[0,1,2],[],[4],[4,5],[0,1,2,3,4,5,6],[0,1,2,3,4,5,6,7],[0,1,2,3,4,5,6,7,8],[0,1,2,3,4,5,6,7,8],[0,1,2,3,4,5,6,7,8,9],[0,1,2,3,4,5,6,7,8,9,10,11]] mixed (by kernel_rfl) ?_
   simp (maxSteps:=9999999) [go_sem,F];refine Qb false (Jj k x7 (x3.length:Int) x8 e13) ?_;simp (maxSteps:=9999999) [go_sem,F];refine ⟨Zu (by kernel_rfl), ?_⟩;exact au
  ·have F:=And.intro (nf F h9) (lF h9);exact au
 ·intro x4 hM;dsimp only at hM;exact au
instance:HC 163 (Ty @UK):=⟨UK⟩
theorem UP (k:Nat) (a0:ByteArray) (r:Int) (hM:UQ k a0=some r):Ctr Tryz.prog 164 [.one (.str a0)] true [.one (.int .i64 r)]:=by
 unfold UQ at hM
 refine Zr Tryz.func164 Tryz.ntmps164 Tryz.results164 fun N w0 hbad F=> ?_
 refine S1 ?_;obtain ⟨x1,e1,hM⟩:=bind_some hM;refine Zw fun K h=> ?_;simp [go_sem,F];refine Qb false (VT k a0 x1 e1) ?_;simp [go_sem,F];refine h _ ?_;obtain ⟨x2,e2,hM⟩:=bind_some hM;have F:=And.intro F (Vs e2);have F:=And.intro F (show 0<x1.length by simpa using Zoi e2);have F:=And.intro F (Zsf 0 e2);obtain ⟨x3,e3,hM⟩:=bind_some hM;refine Zw fun K h=> ?_
 simp [go_sem,F];refine Qb false (X8 k x2 32 x3 e3) ?_;simp [go_sem,F];refine h _ ?_;refine Zh fun K4 hK4=> ?_;obtain ⟨x4,e5,hM⟩:=bind_some hM;refine Zw fun K h=> ?_;simp [go_sem,F];refine Qb false (UH k x3 x4 e5) ?_;simp [go_sem,F];refine h _ ?_;refine Zp hM (fun h6 hM=> ?_) (fun h6 hM=> ?_)
 ·have F:=nf F h6;exact au
 ·have F:=nf F h6;refine Zl ?_;refine hK4 _ ?_;refine mjE (ι:=Unit) [] [] [] (fun i=>[]) hM ?_ ?_
  ·intro e7 hM hR1 K9 hK9;refine S1 ?_;refine Zg ?_;refine lp (ι:=Int) [3,4] [] [576,832] (fun i=>[(5,oI i)]) (fun n i=>YE k x1 x3 n i=some e7) k 1 hM (by simp [YE]) ?_;intro KL10 nL10 x5 hL10 hM _;have hM:YE k x1 x3 (nL10+1) x5=some e7:=hM;rw [YE] at hM;refine Zh fun K11 hK11=> ?_;refine S1 ?_;refine Zp hM (fun h12 hM=> ?_) (fun h12 hM=> ?_)
   ·have F:=And.intro (nf F h12) (lT h12);refine Zl ?_;refine hK11 _ ?_;refine Zh fun K13 hK13=> ?_;refine Zg ?_;obtain ⟨x6,e14,hM⟩:=bind_some hM;have F:=And.intro F (Vs e14);have F:=And.intro F (Zoi e14);obtain ⟨x7,e15,hM⟩:=bind_some hM;refine Zw fun K h=> ?_;simp [go_sem,F];refine Qb false (Jj k x6 (x3.length:Int) x7 e15) ?_;simp [go_sem,F]
    refine h _ ?_;refine mj (ι:=Bool) [3,4,5] [] [576,832] (fun i=>[(38,oB i)]) hM ?_ ?_
    ·intro e16 hM K18 hK18;exact au
    ·intro x8 hM;(try dsimp only at hM);exact au
   ·have F:=And.intro (nf F h12) (lF h12);exact au
  ·intro _ hM;dsimp only at hM;exact au
instance:HC 164 (Ty @UP):=⟨UP⟩
theorem ZbL (a0:Zq) (r:Zq) (hM:Zdf a0=some r):Ctr Tryz.prog 160 [.agg (Zq.c a0)] true [.agg (Zq.c r)]:=by
 unfold Zdf at hM
 refine Zr Tryz.func160 Tryz.ntmps160 Tryz.results160 fun N w0 hbad F=> ?_
 refine S1 ?_;refine Zh fun K1 hK1=> ?_;refine le1 [1,2] [1,2] [] ?_;obtain ⟨x1,e2,hM⟩:=bind_some hM;obtain ⟨c3,s4⟩:=QY e2;replace c3:=c3.symm;subst c3;(try simp at s4);have F:=And.intro F s4;obtain ⟨x2,e6,hM⟩:=bind_some hM;obtain ⟨c7,s8⟩:=QY e6;replace c7:=c7.symm;subst c7;(try simp at s8);have F:=And.intro F s8;refine ZT [[],[],[1],[0,1,2],[],[10000192],[5],[0,1,2,3,4,5,6],[0,1,2,3,4,5,6,7],[0,1,2,3,4,5,6,7,8]] mixed (by kernel_rfl) ?_
 simp [go_sem,F];refine ⟨Zu (by kernel_rfl), ?_⟩;exact au
instance:HC 160 (Ty @ZbL):=⟨ZbL⟩
theorem Zh0:∀(k:Nat),(∀(a0:Za) (r:Za) (hM:Ww k a0=some r),Ctr Tryz.prog 99 [.agg (Za.c a0)] true [.agg (Za.c r)]):=by
 intro k
 induction k with
 | zero=>intro a0 r hM;simp [Ww] at hM
 | succ k ih_s_l3Copy=>
  ·intro a0 r hM
   haveI:HC 99 _:=⟨ih_s_l3Copy⟩;rw [Ww] at hM
   refine Zr Tryz.func99 Tryz.ntmps99 Tryz.results99 fun N w0 hbad F=> ?_
   refine S1 ?_;refine Zh fun K1 hK1=> ?_;refine le1 [1,2] [1,2] [] ?_;obtain ⟨x1,e2,hM⟩:=bind_some hM;obtain ⟨c3,s4⟩:=QY e2;replace c3:=c3.symm;subst c3;(try simp at s4);have F:=And.intro F s4;refine ZT [[10000896],[0],[10000896],[2],[10000896],[4],[10000896],[6],[],[],[9],[8,9,10],[0,1,2,3,4,5,6,7,8,9,10,11],[],[0,1,2,3,4,5,6,7,8,9,10,11,12,13]] mixed (by kernel_rfl) ?_
   simp (maxSteps:=9999999) [go_sem,F];refine ⟨Zu (by kernel_rfl), ?_⟩;refine hK1 _ ?_;refine mj (ι:=List Za) [1,2,3] [1,2] [] (fun i=>[]) hM ?_ ?_ (cb:=fun i=>[(3,[cI a0.kind,cI a0.n,cI a0.step,cS a0.text,.own 2240 i.length,.own 896 ((([]:List ByteArray)++a0.columns).length),.nil])]) (ca:=fun i=>[(896,aT sC (([]:List ByteArray)++a0.columns)),(2240,aT Za.c i)])
   ·intro e6 hM K8 hK8;refine S1 ?_;refine Zg ?_;refine lp (ι:=(List Za)×Int) [1,2,3] [1,2] [] (fun i=>[(4,oI i.2)]) (fun n i=>X4 (Ww k) a0 n i.1 i.2=some e6) k ([],0) hM (by simp [X4]) ?_ (cb:=fun i=>[(3,[cI a0.kind,cI a0.n,cI a0.step,cS a0.text,.own 2240 i.1.length,.own 896 ((([]:List ByteArray)++a0.columns).length),.nil])]) (ca:=fun i=>[(896,aT sC (([]:List ByteArray)++a0.columns)),(2240,aT Za.c i.1)])
    intro KL9 nL9 ⟨x3,x4⟩ hL9 hM _;have hM:X4 (Ww k) a0 (nL9+1) x3 x4=some e6:=hM;rw [X4] at hM;refine Zh fun K10 hK10=> ?_;refine S1 ?_;refine Zp hM (fun h11 hM=> ?_) (fun h11 hM=> ?_)
    ·have F:=And.intro (nf F h11) (lT h11);refine Zl ?_;refine hK10 _ ?_;refine Zh fun K12 hK12=> ?_;refine Zg ?_;refine le1 [1,2,3,4] [1,2,3] [2240] ?_ (ca:=[(896,aT sC (([]:List ByteArray)++a0.columns))]);obtain ⟨x5,e13,hM⟩:=bind_some hM;have F:=And.intro F (Vs e13);obtain ⟨x6,e14,hM⟩:=bind_some hM;obtain ⟨x7,e15,hM⟩:=bind_some hM;obtain ⟨c16,s17⟩:=QY e15
     replace c16:=c16.symm;subst c16;(try simp at s17);have F:=And.intro F s17;refine ZT [[10002112,10002113,10002114],[0],[],[2],[],[2,3,4],[2,3,4,5],[2,3,4,5,6],[2,3,4,5,6,7],[0,1,2,3,4,5,6,7,8],[0,1,2,3,4,5,6,7,8,9],[0,1,2,3,4,5,6,7,8,9,10]] mixed (by kernel_rfl) ?_;simp [go_sem,F];refine Qb false (ih_s_l3Copy x5 x6 e14) ?_
     simp [go_sem,F];refine ⟨Zu (by kernel_rfl), ?_⟩;exact au
    ·have F:=And.intro (nf F h11) (lF h11);exact au
   ·intro x2 hM;(try dsimp only at hM);refine mj (ι:=List Zq) [2,3] [2] [2240] (fun i=>[]) hM ?_ ?_ (cb:=fun i=>[(3,[cI a0.kind,cI a0.n,cI a0.step,cS a0.text,.own 2240 x2.length,.own 896 ((([]:List ByteArray)++a0.columns).length),.own 3392 i.length])]) (ca:=fun i=>[(896,aT sC (([]:List ByteArray)++a0.columns)),(3392,aT Zq.c i)])
    ·intro e19 hM K21 hK21;refine S1 ?_;refine Zg ?_;refine lp (ι:=(List Zq)×Int) [1,2,3] [1,2] [2240] (fun i=>[(5,oI i.2)]) (fun n i=>X3 a0 n i.1 i.2=some e19) k ([],0) hM (by simp [X3]) ?_ (cb:=fun i=>[(3,[cI a0.kind,cI a0.n,cI a0.step,cS a0.text,.own 2240 x2.length,.own 896 ((([]:List ByteArray)++a0.columns).length),.own 3392 i.1.length])]) (ca:=fun i=>[(896,aT sC (([]:List ByteArray)++a0.columns)),(3392,aT Zq.c i.1)])
     intro KL22 nL22 ⟨x9,x10⟩ hL22 hM _;have hM:X3 a0 (nL22+1) x9 x10=some e19:=hM;rw [X3] at hM;refine Zh fun K23 hK23=> ?_;refine S1 ?_;refine Zp hM (fun h24 hM=> ?_) (fun h24 hM=> ?_)
     ·have F:=And.intro (nf F h24) (lT h24);refine Zl ?_;refine hK23 _ ?_;refine Zh fun K25 hK25=> ?_;refine Zg ?_;refine le1 [1,2,3,5] [1,2,3] [2240,3392] ?_ (ca:=[(896,aT sC (([]:List ByteArray)++a0.columns))]);obtain ⟨x11,e26,hM⟩:=bind_some hM;have F:=And.intro F (Vs e26);obtain ⟨x12,e27,hM⟩:=bind_some hM;obtain ⟨x13,e28,hM⟩:=bind_some hM
      obtain ⟨c29,s30⟩:=QY e28;replace c29:=c29.symm;subst c29;(try simp at s30);have F:=And.intro F s30;refine ZT [[10003264,10003265],[0],[],[2],[],[2,3,4],[2,3,4,5],[2,3,4,5,6],[2,3,4,5,6,7],[0,1,2,3,4,5,6,7,8],[0,1,2,3,4,5,6,7,8,9],[0,1,2,3,4,5,6,7,8,9,10]] mixed (by kernel_rfl) ?_;simp [go_sem,F];refine Qb false (ZbL x11 x12 e27) ?_
      simp [go_sem,F];refine ⟨Zu (by kernel_rfl), ?_⟩;exact au
     ·have F:=And.intro (nf F h24) (lF h24);exact au
    ·intro x8 hM;(try dsimp only at hM);exact au
theorem Zau (k:Nat):∀(a0:Za) (r:Za) (hM:Ww k a0=some r),Ctr Tryz.prog 99 [.agg (Za.c a0)] true [.agg (Za.c r)]:=(Zh0 k)
instance:HC 99 (Ty @Zau):=⟨Zau⟩
theorem VE (k:Nat) (a0:Int) (a1:Za) (r:Za) (hM:Vb k a0 a1=some r):Ctr Tryz.prog 165 [.one (.int .i64 a0),.agg (Za.c a1)] true [.agg (Za.c r)]:=by
 unfold Vb at hM
 refine Zr Tryz.func165 Tryz.ntmps165 Tryz.results165 fun N w0 hbad F=> ?_
 refine S1 ?_;refine Zh fun K1 hK1=> ?_;refine mj (ι:=Bool) [0,3,4] [3,4] [] (fun i=>[(18,oB i)]) hM ?_ ?_
 ·intro e2 hM K4 hK4;exact au
 ·intro x1 hM;(try dsimp only at hM);refine Zp hM (fun h8 hM=> ?_) (fun h8 hM=> ?_)
  ·have F:=nf F h8;exact au
  ·have F:=nf F h8;refine Zl ?_;refine hK1 _ ?_;obtain ⟨x4,e10,hM⟩:=bind_some hM;refine Zw fun K h=> ?_;simp [go_sem,F];refine Qb false (Zau k a1 x4 e10) ?_;simp [go_sem,F];refine h _ ?_;refine mj (ι:=List Zq) [4,5] [4] [1344,1345] (fun i=>[]) hM ?_ ?_ (cb:=fun i=>[(5,[cI x4.kind,cI x4.n,cI x4.step,cS x4.text,.own 1344 x4.list.length,.own 1345 x4.columns.length,.own 1346 i.length])]) (ca:=fun i=>[(1346,aT Zq.c i)])
   ·intro e11 hM K13 hK13;refine S1 ?_;refine Zg ?_;refine lp (ι:=(List Zq)×Int) [0,4,5] [4] [1344,1345] (fun i=>[(6,oI i.2)]) (fun n i=>ZY a0 n i.1 i.2=some e11) k (x4.rows,0) hM (by simp [ZY]) ?_ (cb:=fun i=>[(5,[cI x4.kind,cI x4.n,cI x4.step,cS x4.text,.own 1344 x4.list.length,.own 1345 x4.columns.length,.own 1346 i.1.length])]) (ca:=fun i=>[(1346,aT Zq.c i.1)])
    intro KL14 nL14 ⟨x6,x7⟩ hL14 hM _;have hM:ZY a0 (nL14+1) x6 x7=some e11:=hM;rw [ZY] at hM;exact au
   ·intro x5 hM;(try dsimp only at hM);exact au
instance:HC 165 (Ty @VE):=⟨VE⟩
theorem JU (k:Nat) (a0:Zj) (r:ZB) (hM:Yr k a0=some r):Ctr Tryz.prog 101 [.agg (Zj.c a0)] false [.agg (ZB.c r)]:=by
 unfold Yr at hM
 refine Zr Tryz.func101 Tryz.ntmps101 Tryz.results101 fun N w0 hbad F=> ?_
 refine S1 ?_;refine Zh fun K1 hK1=> ?_;obtain ⟨x1,e2,hM⟩:=bind_some hM;refine Zw fun K h=> ?_;simp [go_sem,F];refine Qb false (Xe k a0 x1 e2) ?_;simp [go_sem,F];refine h _ ?_;refine Zp hM (fun h3 hM=> ?_) (fun h3 hM=> ?_)
 ·have F:=nf F h3;exact au
 ·have F:=nf F h3;refine Zl ?_;refine hK1 _ ?_;refine Zh fun K4 hK4=> ?_;refine S1 ?_;refine Zg ?_;refine S1 ?_;refine Zp hM (fun h5 hM=> ?_) (fun h5 hM=> ?_)
  ·have F:=nf F h5;obtain ⟨x2,e6,hM⟩:=bind_some hM;refine Zw fun K h=> ?_;simp [go_sem,F];refine Qb false (UJ k a0.code x2 e6) ?_;simp [go_sem,F];refine h _ ?_;refine Zh fun K7 hK7=> ?_;refine S1 ?_;refine Zp hM (fun h8 hM=> ?_) (fun h8 hM=> ?_)
   ·have F:=And.intro (nf F h8) (eT h8);refine Zh fun K9 hK9=> ?_;refine le1 [1,2,4] [1,2] [] ?_;obtain ⟨x3,e10,hM⟩:=bind_some hM;refine ZT [[],[0],[],[],[0,1,2,3],[0,1,2,3,4]] mixed (by kernel_rfl) ?_;simp [go_sem,F];refine Qb false (WS 8 x3 e10) ?_;simp [go_sem,F];refine ⟨Zu (by kernel_rfl), ?_⟩;refine hK9 _ ?_;obtain rfl:=si hM
    refine le1 [2] [] [] ?_ (cb:=[(2,[cI 4,cS a0.name,cI 0,cI 0,cS (⟨#[]⟩:ByteArray),.nil,cI x3.kind,cI x3.n,cI x3.step,cS x3.text,cL Za.c x3.list,cL sC x3.columns,cL Zq.c x3.rows,cI x2.2])]);exact au
   ·have F:=And.intro (nf F h8) (eF h8);exact au
  ·have F:=nf F h5;refine S1 ?_;refine Zp hM (fun h11 hM=> ?_) (fun h11 hM=> ?_)
   ·have F:=nf F h11;refine Zh fun K12 hK12=> ?_;refine le1 [1,2] [1,2] [] ?_;obtain ⟨x4,e13,hM⟩:=bind_some hM;refine ZT [[],[0],[],[2],[2,3],[0,1,2,3,4],[0,1,2,3,4,5]] mixed (by kernel_rfl) ?_;simp [go_sem,F];refine Qb false (VG a0.n x4 e13) ?_;simp [go_sem,F];refine ⟨Zu (by kernel_rfl), ?_⟩;refine hK12 _ ?_;obtain rfl:=si hM
    refine le1 [2] [] [] ?_ (cb:=[(2,[cI 3,cS a0.name,cI 0,cI 0,cS (⟨#[]⟩:ByteArray),.nil,cI x4.kind,cI x4.n,cI x4.step,cS x4.text,cL Za.c x4.list,cL sC x4.columns,cL Zq.c x4.rows,cI 0])]);exact au
   ·have F:=nf F h11;refine S1 ?_;refine Zp hM (fun h14 hM=> ?_) (fun h14 hM=> ?_)
    ·have F:=nf F h14;obtain ⟨x5,e15,hM⟩:=bind_some hM;refine Zw fun K h=> ?_;simp [go_sem,F];refine Qb false (UK k a0.code x5 e15) ?_;simp [go_sem,F];refine h _ ?_;refine Zh fun K16 hK16=> ?_;refine S1 ?_;refine Zp hM (fun h17 hM=> ?_) (fun h17 hM=> ?_)
     ·have F:=nf F h17;refine Zh fun K18 hK18=> ?_;refine le1 [1,2] [1,2] [] ?_;obtain ⟨x6,e19,hM⟩:=bind_some hM;obtain ⟨x7,e20,hM⟩:=bind_some hM;refine ZT [[],[0],[],[],[3],[2,3,4],[0,1,2,3,4,5],[0,1,2,3,4,5,6]] mixed (by kernel_rfl) ?_;simp [go_sem,F];refine Qb false (WS 8 x6 e19) ?_;simp [go_sem,F];refine Qb false (UP k a0.code x7 e20) ?_
      simp [go_sem,F];refine ⟨Zu (by kernel_rfl), ?_⟩;refine hK18 _ ?_;obtain rfl:=si hM;refine le1 [2] [] [] ?_ (cb:=[(2,[cI 4,cS a0.name,cI 0,cI 0,cS (⟨#[]⟩:ByteArray),.nil,cI x6.kind,cI x6.n,cI x6.step,cS x6.text,cL Za.c x6.list,cL sC x6.columns,cL Zq.c x6.rows,cI x7])]);exact au
     ·have F:=nf F h17;refine Zl ?_;refine hK16 _ ?_;refine Zh fun K21 hK21=> ?_;refine le1 [1,2,5] [1,2,5] [2880,2881,2882] ?_;obtain ⟨x8,e22,hM⟩:=bind_some hM;refine ZT [[],[0],[],[2],[],[2,3,4],[0,1,2,3,4,5],[0,1,2,3,4,5,6]] mixed (by kernel_rfl) ?_;simp [go_sem,F];refine Qb false (VE k a0.id x5.1 x8 e22) ?_;simp [go_sem,F]
      refine ⟨Zu (by kernel_rfl), ?_⟩;refine hK21 _ ?_;obtain rfl:=si hM;refine le1 [2] [] [] ?_ (cb:=[(2,[cI 3,cS a0.name,cI 0,cI 0,cS (⟨#[]⟩:ByteArray),.nil,cI x8.kind,cI x8.n,cI x8.step,cS x8.text,cL Za.c x8.list,cL sC x8.columns,cL Zq.c x8.rows,cI 0])]);exact au
    ·have F:=nf F h14;exact au
instance:HC 101 (Ty @JU):=⟨JU⟩
theorem Uc (k:Nat) (a0:Ze) (r:List ZB) (hM:V0 k a0=some r):Ctr Tryz.prog 39 [.agg (Ze.c a0)] false [.one (.sl (r.map ZB.c))]:=by
 unfold V0 at hM
 refine Zr Tryz.func39 Tryz.ntmps39 Tryz.results39 fun N w0 hbad F=> ?_
 refine S1 ?_;refine S1 ?_;refine Zh fun K1 hK1=> ?_;obtain ⟨x1,e2,hM⟩:=bind_some hM;refine Zw fun K h=> ?_;simp [go_sem,F];refine Qb false (Wb k a0 x1 e2) ?_;simp [go_sem,F];refine h _ ?_;refine Zp hM (fun h3 hM=> ?_) (fun h3 hM=> ?_)
 ·have F:=nf F h3;refine S1 ?_;obtain rfl:=si hM;refine le1 [] [] [] ?_ (ch:=[(2,oL ZB.c ([]:List ZB))]);exact au
 ·have F:=nf F h3;refine Zl ?_;refine hK1 _ ?_;refine mj (ι:=List ZB) [] [] [] (fun i=>[(3,oO 320 i.length)]) hM ?_ ?_ (ca:=fun i=>[(320,aF ZB.c i)])
  ·intro e4 hM K6 hK6;refine S1 ?_;refine Zg ?_;refine Zoo [320] (σ':=⟨27,[(1,.one (.box 1 0)),(3,.one (.own 320 (([]:List ZB).length))),(4,.one (.l (.int .i64 0)))],[(1,[.l (.sl (a0.cells.map Zj.c))])],[(320,some ⟨false,([]:List ZB).map ZB.c⟩)]⟩) ?_;refine lp (ι:=(List ZB)×Int) [1] [1] [] (fun i=>[(3,oO 320 i.1.length),(4,oI i.2)]) (fun n i=>Y2 k a0 n i.1 i.2=some e4) k (([]:List ZB),0) hM (by simp [Y2]) ?_ (ca:=fun i=>[(320,aF ZB.c i.1)])
   intro KL7 nL7 ⟨x3,x4⟩ hL7 hM _;have hM:Y2 k a0 (nL7+1) x3 x4=some e4:=hM;rw [Y2] at hM;exact au
  ·intro x2 hM;(try dsimp only at hM);refine S1 ?_;obtain rfl:=si hM;refine le1 [] [] [] ?_ (ch:=[(2,oL ZB.c x2)]);exact au
instance:HC 39 (Ty @Uc):=⟨Uc⟩
theorem Zbv (k:Nat) (a0:List ZB) (a1:ByteArray) (r:List Int) (hM:Uu k a0 a1=some r):Ctr Tryz.prog 159 [.one (.sl (a0.map ZB.c)),.one (.str a1)] true [.one (.sl (r.map iC))]:=by
 unfold Uu at hM
 refine Zr Tryz.func159 Tryz.ntmps159 Tryz.results159 fun N w0 hbad F=> ?_
 refine S1 ?_;refine S1 ?_;refine mj (ι:=List Int) [] [] [] (fun i=>[(5,oO 448 i.length)]) hM ?_ ?_ (ca:=fun i=>[(448,aT iC i)])
 ·intro e1 hM K3 hK3;refine S1 ?_;refine Zg ?_;refine lp (ι:=(List Int)×Int) [0,1] [] [] (fun i=>[(5,oO 448 i.1.length),(6,oI i.2)]) (fun n i=>Yg a0 a1 n i.1 i.2=some e1) k (([]:List Int),0) hM (by simp [Yg]) ?_ (ca:=fun i=>[(448,aT iC i.1)]);intro KL4 nL4 ⟨x2,x3⟩ hL4 hM _;have hM:Yg a0 a1 (nL4+1) x2 x3=some e1:=hM;rw [Yg] at hM
  refine Zh fun K5 hK5=> ?_;refine S1 ?_;refine Zp hM (fun h6 hM=> ?_) (fun h6 hM=> ?_)
  ·have F:=And.intro (nf F h6) (lT h6);refine Zl ?_;refine hK5 _ ?_;refine mj (ι:=List Int) [0,1,6] [] [] (fun i=>[(5,oO 448 i.length)]) hM ?_ ?_ (ca:=fun i=>[(448,aT iC i)])
   ·intro e7 hM K9 hK9;refine Zg ?_;refine mj (ι:=Bool) [0,1,5,6] [] [448] (fun i=>[(28,oB i)]) hM ?_ ?_
    ·intro e10 hM K12 hK12;exact au
    ·intro x5 hM;(try dsimp only at hM);exact au
   ·intro x4 hM;(try dsimp only at hM);exact au
  ·have F:=And.intro (nf F h6) (lF h6);exact au
 ·intro x1 hM;(try dsimp only at hM);exact au
instance:HC 159 (Ty @Zbv):=⟨Zbv⟩
theorem Ko (k:Nat) (a0:List ZB) (a1:ByteArray) (r:Int) (hM:Zaz k a0 a1=some r):Ctr Tryz.prog 97 [.one (.sl (a0.map ZB.c)),.one (.str a1)] true [.one (.int .i64 r)]:=by
 unfold Zaz at hM
 refine Zr Tryz.func97 Tryz.ntmps97 Tryz.results97 fun N w0 hbad F=> ?_
 exact au
instance:HC 97 (Ty @Ko):=⟨Ko⟩
theorem UL (k:Nat) (a0:List ZB) (a1:List Za) (a2:ByteArray) (r:Za) (hM:Wa k a0 a1 a2=some r):Ctr Tryz.prog 38 [.one (.sl (a0.map ZB.c)),.one (.sl (a1.map Za.c)),.one (.str a2)] true [.agg (Za.c r)]:=by
 unfold Wa at hM
 refine Zr Tryz.func38 Tryz.ntmps38 Tryz.results38 fun N w0 hbad F=> ?_
 refine S1 ?_;obtain ⟨x1,e1,hM⟩:=bind_some hM;refine Zw fun K h=> ?_;simp [go_sem,F];refine Qb false (Ko k a0 a2 x1 e1) ?_;simp [go_sem,F];refine h _ ?_;refine Zh fun K2 hK2=> ?_;refine Zg ?_;refine S1 ?_;refine Zp hM (fun h3 hM=> ?_) (fun h3 hM=> ?_)
 ·have F:=nf F h3;exact au
 ·have F:=nf F h3;refine mj (ι:=Bool) [1,6,7] [6] [] (fun i=>[(15,oB i)]) hM ?_ ?_
  ·intro e5 hM K7 hK7;exact au
  ·intro x3 hM;(try dsimp only at hM);exact au
instance:HC 38 (Ty @UL):=⟨UL⟩
theorem VC (k:Nat) (a0:Ze) (a1:Qf) (a2:ByteArray) (r:Za) (hM:Va k a0 a1 a2=some r):Ctr Tryz.prog 9 [.agg (Ze.c a0),.agg (Qf.c a1),.one (.str a2)] true [.agg (Za.c r)]:=by
 unfold Va at hM
 refine Zr Tryz.func9 Tryz.ntmps9 Tryz.results9 fun N w0 hbad F=> ?_
 refine S1 ?_;refine Zh fun K1 hK1=> ?_;obtain ⟨x1,e2,hM⟩:=bind_some hM;obtain ⟨x2,e3,hM⟩:=bind_some hM;refine ZD 5 mixed (by kernel_rfl) (by kernel_rfl) ?_;simp [go_sem,F];refine Qb false (Uc k a0 x1 e2) ?_;simp [go_sem,F];refine Qb false (UL k x1 a1.values a2 x2 e3) ?_;simp [go_sem,F];exact au
instance:HC 9 (Ty @VC):=⟨VC⟩
theorem ZdZ (a0:Int) (a1:Int) (a2:Int) (r:Bool) (hM:XV a0 a1 a2=some r):Ctr Tryz.prog 145 [.one (.int .i64 a0),.one (.int .i64 a1),.one (.int .i64 a2)] true [.one (.bool r)]:=by
 unfold XV at hM
 refine Zr Tryz.func145 Tryz.ntmps145 Tryz.results145 fun N w0 hbad F=> ?_
 refine S1 ?_;refine mj (ι:=Bool) [] [] [] (fun i=>[(6,oB i)]) hM ?_ ?_
 ·intro e1 hM K3 hK3;exact au
 ·intro x1 hM;(try dsimp only at hM);exact au
instance:HC 145 (Ty @ZdZ):=⟨ZdZ⟩
theorem J4 (k:Nat) (a0:ByteArray) (r:Bool) (hM:WH k a0=some r):Ctr Tryz.prog 231 [.one (.str a0)] true [.one (.bool r)]:=by
 unfold WH at hM
 refine Zr Tryz.func231 Tryz.ntmps231 Tryz.results231 fun N w0 hbad F=> ?_
 refine S1 ?_;refine mjE (ι:=Unit) [0] [] [] (fun i=>[]) hM ?_ ?_
 ·intro e1 hM hR1 K3 hK3;refine S1 ?_;refine Zg ?_;refine lp (ι:=Int) [0] [] [] (fun i=>[(3,oI i)]) (fun n i=>YP a0 n i=some e1) k 0 hM (by simp [YP]) ?_;intro KL4 nL4 x1 hL4 hM _;have hM:YP a0 (nL4+1) x1=some e1:=hM;rw [YP] at hM;refine Zh fun K5 hK5=> ?_;refine S1 ?_;refine Zp hM (fun h6 hM=> ?_) (fun h6 hM=> ?_)
  ·have F:=And.intro (nf F h6) (lT h6);refine Zl ?_;refine hK5 _ ?_;refine Zh fun K7 hK7=> ?_;refine Zg ?_;refine mj (ι:=Bool) [0,3] [] [] (fun i=>[(19,oB i)]) hM ?_ ?_
   ·intro e8 hM K10 hK10;exact au
   ·intro x2 hM;(try dsimp only at hM);exact au
  ·have F:=And.intro (nf F h6) (lF h6);exact au
 ·intro _ hM;dsimp only at hM;exact au
instance:HC 231 (Ty @J4):=⟨J4⟩
theorem Zd0 (k:Nat) (a0:ByteArray) (r:Bool) (hM:ZcS k a0=some r):Ctr Tryz.prog 266 [.one (.str a0)] true [.one (.bool r)]:=by
 unfold ZcS at hM
 refine Zr Tryz.func266 Tryz.ntmps266 Tryz.results266 fun N w0 hbad F=> ?_
 refine S1 ?_;refine mjE (ι:=Unit) [0] [] [] (fun i=>[]) hM ?_ ?_
 ·intro e1 hM hR1 K3 hK3;refine S1 ?_;refine Zg ?_;refine lp (ι:=Int) [0] [] [] (fun i=>[(3,oI i)]) (fun n i=>Wg a0 n i=some e1) k 0 hM (by simp [Wg]) ?_;intro KL4 nL4 x1 hL4 hM _;have hM:Wg a0 (nL4+1) x1=some e1:=hM;rw [Wg] at hM;refine Zh fun K5 hK5=> ?_;refine S1 ?_;refine Zp hM (fun h6 hM=> ?_) (fun h6 hM=> ?_)
  ·have F:=And.intro (nf F h6) (lT h6);refine Zl ?_;refine hK5 _ ?_;refine Zh fun K7 hK7=> ?_;refine Zg ?_;refine mj (ι:=Bool) [0,3] [] [] (fun i=>[(4,oB i)]) hM ?_ ?_
   ·intro e8 hM K10 hK10;exact au
   ·intro x2 hM;(try dsimp only at hM);refine mj (ι:=Bool) [0,3] [] [] (fun i=>[(38,oB i)]) hM ?_ ?_
    ·intro e13 hM K15 hK15;exact au
    ·intro x4 hM;(try dsimp only at hM);exact au
  ·have F:=And.intro (nf F h6) (lF h6);exact au
 ·intro _ hM;dsimp only at hM;exact au
instance:HC 266 (Ty @Zd0):=⟨Zd0⟩
end Go.Proofs.YtfapaeabfcogkaaGreatDoor
