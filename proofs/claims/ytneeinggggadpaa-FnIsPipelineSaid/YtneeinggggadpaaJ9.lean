import Derived.Test.YtneeinggggadpaaJ3
import Derived.Test.YtneeinggggadpaaJ4
import Derived.Test.YtneeinggggadpaaJ7
import Derived.Test.YtneeinggggadpaaCt2
set_option linter.unusedSimpArgs false
set_option linter.unusedVariables false
namespace Go.Proofs.Ytneeinggggadpaa
open Go.RowKit Am
set_option maxHeartbeats 4000000
set_option maxRecDepth 100000
theorem Q6 (k:Nat) (a0:Za) (r:Bool) (hM:ZJ k a0=some r):Ctr Try.prog 11 [.agg (Za.c a0)] true [.one (.bool r)]:=by
 unfold ZJ at hM
 refine Yp Try.func11 Try.ntmps11 Try.results11 fun N w0 hbad F=> ?_
 refine S1 ?_;refine mj (ι:=Bool) [] [] [] (fun i=>[(2,oB i)]) hM ?_ ?_
 ·intro e1 hM K3 hK3;exact au
 ·intro x1 hM;(try dsimp only at hM);exact au
instance:HC 11 (Ty @Q6):=⟨Q6⟩
theorem W4 (k:Nat) (a0:ByteArray) (r:Za×Int) (hM:Ql k a0=some r):Ctr Try.prog 14 [.one (.str a0)] false [.agg (Za.c r.1),.one (.int .i64 r.2)]:=by
 unfold Ql at hM
 refine Yp Try.func14 Try.ntmps14 Try.results14 fun N w0 hbad F=> ?_
 refine S1 ?_;obtain ⟨x1,e1,hM⟩:=bind_some hM;refine ZH fun K h=> ?_;simp [go_sem,F];refine Uu false (X9 k a0 x1 e1) ?_;simp [go_sem,F];refine h _ ?_;refine Zk fun K2 hK2=> ?_;refine S1 ?_;refine Zs hM (fun h3 hM=> ?_) (fun h3 hM=> ?_)
 ·have F:=And.intro (nf F h3) (eT h3);exact au
 ·have F:=And.intro (nf F h3) (eF h3);refine ZC ?_;refine hK2 _ ?_;refine S1 ?_;refine le1 [2,6] [2] [] ?_ (ch:=[(4,oL Ze.c x1.1)]) (cb:=[(21,[cL Ze.c x1.1,cI 0,cI (a0.size:Int),cI (-1)])]);obtain ⟨x2,e4,hM⟩:=bind_some hM;refine ZH fun K h=> ?_;simp [go_sem,F];refine Zq 0 (Wv k (Zb.mk x1.1 0 (a0.size:Int) (-1)) x2 e4) ?_;simp [go_sem,F]
  refine h _ ?_;refine mj (ι:=(List Ze)×Int×Int×Int) [2,6,7] [2,7] [] (fun i=>[]) hM ?_ ?_ (cb:=fun i=>[(21,[cL Ze.c i.1,cI i.2.1,cI i.2.2.1,cI i.2.2.2])])
  ·intro e5 hM K7 hK7;refine mj (ι:=Bool) [2,6,7] [2,7,21] [] (fun i=>[(37,oB i)]) hM ?_ ?_
   ·intro e8 hM K10 hK10;exact au
   ·intro x7 hM;(try dsimp only at hM);exact au
  ·rintro ⟨x3,x4,x5,x6⟩ hM;dsimp only at hM;refine Zk fun K14 hK14=> ?_;refine S1 ?_;refine Zs hM (fun h15 hM=> ?_) (fun h15 hM=> ?_)
   ·have F:=And.intro (nf F h15) (eT h15);refine Zk fun K16 hK16=> ?_;refine le1 [2,6] [2,21] [] ?_;refine Qs [[],[1000002],[1,1000002],[1,2,1000002],[1,2,3,1000002],[0],[0,1,2,3,4,5]] mixed (by kernel_rfl) ?_;simp [go_sem,F];refine ⟨ZU (by kernel_rfl), ?_⟩;exact au
   ·have F:=And.intro (nf F h15) (eF h15);exact au
instance:HC 14 (Ty @W4):=⟨W4⟩
theorem X0 (a0:Zf) (a1:Int) (r:Bool×Zf) (hM:Wu a0 a1=some r):WR Try.prog 16 [] (Zf.c a0) [.one (.int .i64 a1)] true [.one (.bool r.1)] (Zf.c r.2):=by
 unfold Wu at hM
 refine Wd Try.func16 Try.ntmps16 Try.results16 fun N w0 hbad F=> ?_
 exact au
instance:HC 16 (Ty @X0):=⟨X0⟩
theorem Qv (a0:Zf) (a1:List ByteArray) (r:Za×Zf) (hM:Xi a0 a1=some r):WR Try.prog 34 [] (Zf.c a0) [.one (.sl (a1.map sC))] true [.agg (Za.c r.1)] (Zf.c r.2):=by
 unfold Xi at hM
 refine Wd Try.func34 Try.ntmps34 Try.results34 fun N w0 hbad F=> ?_
 refine S1 ?_;refine Zk fun K1 hK1=> ?_;obtain ⟨x1,e2,hM⟩:=bind_some hM;refine ZH fun K h=> ?_;simp [go_sem,F];refine Zq 0 (Zx a0 5 x1 e2) ?_;simp [go_sem,F];refine h _ ?_;refine Zh ?_;refine S1 ?_;refine Zs hM (fun h3 hM=> ?_) (fun h3 hM=> ?_)
 ·have F:=nf F h3;exact au
 ·have F:=nf F h3;refine mj (ι:=Bool) [0,1,4] [4,23] [] (fun i=>[(13,oB i)]) hM ?_ ?_
  ·intro e5 hM K7 hK7;exact au
  ·intro x3 hM;(try dsimp only at hM);exact au
instance:HC 34 (Ty @Qv):=⟨Qv⟩
theorem Qu (k:Nat) (a0:Zf) (a1:List ByteArray) (r:Za×Zf) (hM:Xh k a0 a1=some r):WR Try.prog 64 [] (Zf.c a0) [.one (.sl (a1.map sC))] true [.agg (Za.c r.1)] (Zf.c r.2):=by
 unfold Xh at hM
 refine Wd Try.func64 Try.ntmps64 Try.results64 fun N w0 hbad F=> ?_
 refine S1 ?_;refine S1 ?_;obtain ⟨x1,e1,hM⟩:=bind_some hM;refine ZH fun K h=> ?_;simp [go_sem,F];refine Zq 0 (Zx a0 4 x1 e1) ?_;simp [go_sem,F];refine h _ ?_;refine mj (ι:=(List Za)×(List Int)×Int×Int) [4,5] [4] [] (fun i=>[]) hM ?_ ?_ (cb:=fun i=>[(5,[cI 4,cI 0,cS (⟨#[]⟩:ByteArray),.own 1408 i.1.length]),(34,[cL uC i.2.1,cI i.2.2.1,cI i.2.2.2])]) (ca:=fun i=>[(1408,aT Za.c i.1)])
 ·intro e2 hM K4 hK4;refine S1 ?_;refine Zh ?_;refine lp (ι:=(List Int)×Int×Int×(List Za)×Int) [0,1,4,5,6] [4] [] (fun i=>[(7,oI i.2.2.2.2)]) (fun n i=>Y2 a1 x1 n i.1 i.2.1 i.2.2.1 i.2.2.2.1 i.2.2.2.2=some e2) k (x1.2.b,x1.2.i,x1.2.h,[],0) hM (by simp [Y2]) ?_ (cb:=fun i=>[(5,[cI 4,cI 0,cS (⟨#[]⟩:ByteArray),.own 1408 i.2.2.2.1.length]),(34,[cL uC i.1,cI i.2.1,cI i.2.2.1])]) (ca:=fun i=>[(1408,aT Za.c i.2.2.2.1)])
  intro KL5 nL5 ⟨x6,x7,x8,x9,x10⟩ hL5 hM _;have hM:Y2 a1 x1 (nL5+1) x6 x7 x8 x9 x10=some e2:=hM;rw [Y2] at hM;refine Zk fun K6 hK6=> ?_;refine S1 ?_;refine Zs hM (fun h7 hM=> ?_) (fun h7 hM=> ?_)
  ·have F:=And.intro (nf F h7) (lT h7);refine ZC ?_;refine hK6 _ ?_;refine mj (ι:=(List Int)×Int×Int×(List Za)) [0,1,4,5,6,7] [4] [] (fun i=>[]) hM ?_ ?_ (cb:=fun i=>[(5,[cI 4,cI 0,cS (⟨#[]⟩:ByteArray),.own 1408 i.2.2.2.length]),(34,[cL uC i.1,cI i.2.1,cI i.2.2.1])]) (ca:=fun i=>[(1408,aT Za.c i.2.2.2)])
   ·intro e8 hM K10 hK10;refine Zh ?_;refine Zk fun K11 hK11=> ?_;refine le1 [0,1,4,5,6,7] [4,5,34] [1408] ?_;obtain ⟨x15,e12,hM⟩:=bind_some hM;obtain ⟨x16,e13,hM⟩:=bind_some hM;obtain ⟨x17,e14,hM⟩:=bind_some hM;obtain ⟨c15,s16⟩:=QX e14;replace c15:=c15.symm;subst c15;(try simp at s16);have F:=And.intro F s16;refine Qs [[1000034,10001280],[0,1000034],[],[2],[2,3],[2,3,4],[0,1,2,3,4,5],[0,1,2,3,4,5,6],[0,1,2,3,4,5,6,7]] mixed (by kernel_rfl) ?_
    simp [go_sem,F];refine Zq 0 (Zx (Zf.mk x6 x7 x8) 5 x15 e12) ?_;simp [go_sem,F];refine Uu false (Z0 x15.1 x16 e13) ?_;simp [go_sem,F];refine ⟨ZU (by kernel_rfl), ?_⟩;refine hK11 _ ?_;obtain ⟨x18,e18,hM⟩:=bind_some hM;refine ZH fun K h=> ?_;simp [go_sem,F];refine Zq 0 (X0 x15.2 4 x18 e18) ?_;simp [go_sem,F];refine h _ ?_
    refine Zs hM (fun h19 hM=> ?_) (fun h19 hM=> ?_)
    ·have F:=nf F h19;refine le1 [0,1,4,5,6,7] [4,5,34] [] ?_ (ca:=[(1408,aT Za.c (x9++[x16]))]);obtain ⟨x19,e20,hM⟩:=bind_some hM;obtain ⟨x20,e21,hM⟩:=bind_some hM;have F:=And.intro F (Jf e21);have F:=And.intro F (Zi5 e21);have F:=nf F (Zko e21);have F:=nm F (Zk9 Za.c e21);refine Qs [[1000034],[0,1000034],[1000034],[],[],[3,4],[0,1,2,3,4,5],[0,1,2,3,4,5,6]] mixed (by kernel_rfl) ?_
     simp [go_sem,F];refine Zq 0 (Qv x18.2 a1 x19 e20) ?_;simp [go_sem,F];refine ⟨ZU (by kernel_rfl), ?_⟩;exact au
    ·have F:=nf F h19;exact au
   ·rintro ⟨x11,x12,x13,x14⟩ hM;dsimp only at hM;exact au
  ·have F:=And.intro (nf F h7) (lF h7);exact au
 ·rintro ⟨x2,x3,x4,x5⟩ hM;dsimp only at hM;exact au
instance:HC 64 (Ty @Qu):=⟨Qu⟩
theorem ZZ (a0:Zf) (a1:Za) (a2:Za) (r:Za×Zf) (hM:Yw a0 a1 a2=some r):TQ Try.prog 66 11 [] (Zf.c a0) [] [.agg (Za.c a1),.agg (Za.c a2)] [.agg (Za.c r.1)] (Zf.c r.2):=by
 unfold Yw at hM
 refine ZhB Try.func66 Try.ntmps66 Try.results66 fun N w0 hbad F=> ?_
 refine S1 ?_;refine Zk fun K1 hK1=> ?_;obtain ⟨x1,e2,hM⟩:=bind_some hM;refine ZH fun K h=> ?_;simp [go_sem,F];refine Zq 0 (X0 a0 2 x1 e2) ?_;simp [go_sem,F];refine h _ ?_;refine Zs hM (fun h3 hM=> ?_) (fun h3 hM=> ?_)
 ·have F:=nf F h3;refine S1 ?_;obtain rfl:=si hM;refine rr [] [(31000,30000)] [6] [6,11] [31000] ?_;exact au
 ·have F:=nf F h3;refine ZC ?_;refine hK1 _ ?_;refine S1 ?_;obtain rfl:=si hM;refine rr [] [(31001,30000)] [6] [6,11] [31001] ?_;exact au
instance:HC 66 (Ty @ZZ):=⟨ZZ⟩
theorem ZP (a0:ByteArray) (a1:List Za) (r:Za) (hM:YN a0 a1=some r):TM Try.prog 65 8 [.one (.str a0)] [.one (.sl (a1.map Za.c))] [.agg (Za.c r)]:=by
 unfold YN at hM
 refine ZhC Try.func65 Try.ntmps65 Try.results65 fun N w0 hbad F=> ?_
 refine S1 ?_;refine S1 ?_;obtain rfl:=si hM;refine rr [] [(31000,30000)] [4] [4] [31000] ?_;exact au
instance:HC 65 (Ty @ZP):=⟨ZP⟩
theorem Qj (a0:Zf) (r:Za×Zf) (hM:QL a0=some r):WR Try.prog 67 [] (Zf.c a0) [] true [.agg (Za.c r.1)] (Zf.c r.2):=by
 unfold QL at hM
 refine Wd Try.func67 Try.ntmps67 Try.results67 fun N w0 hbad F=> ?_
 exact au
instance:HC 67 (Ty @Qj):=⟨Qj⟩
theorem QF (k:Nat) (a0:Zf) (r:Za×Zf) (hM:Q2 k a0=some r):TP Try.prog 68 31 [] (Zf.c a0) [] [.agg (Za.c r.1)] (Zf.c r.2):=by
 unfold Q2 at hM
 refine ZdN Try.func68 Try.ntmps68 Try.results68 fun N w0 hbad F=> ?_
 refine S1 ?_;refine S1 ?_;obtain ⟨x1,e1,hM⟩:=bind_some hM;refine ZH fun K h=> ?_;simp [go_sem,F];refine Zq 0 (Zx a0 4 x1 e1) ?_;simp [go_sem,F];refine h _ ?_;refine mj (ι:=(List Za)×(List Int)×Int×Int) [2,3] [2] [] (fun i=>[]) hM ?_ ?_ (cb:=fun i=>[(3,[cI 4,cI 0,cS (⟨#[]⟩:ByteArray),.own 1600 i.1.length]),(31,[cL uC i.2.1,cI i.2.2.1,cI i.2.2.2])]) (ca:=fun i=>[(1600,aT Za.c i.1)])
 ·intro e2 hM K4 hK4;refine S1 ?_;refine Zh ?_;refine lp (ι:=(List Int)×Int×Int×(List Za)×Int) [0,2,3,4] [2] [] (fun i=>[(5,oI i.2.2.2.2)]) (fun n i=>YL x1 n i.1 i.2.1 i.2.2.1 i.2.2.2.1 i.2.2.2.2=some e2) k (x1.2.b,x1.2.i,x1.2.h,[],0) hM (by simp [YL]) ?_ (cb:=fun i=>[(3,[cI 4,cI 0,cS (⟨#[]⟩:ByteArray),.own 1600 i.2.2.2.1.length]),(31,[cL uC i.1,cI i.2.1,cI i.2.2.1])]) (ca:=fun i=>[(1600,aT Za.c i.2.2.2.1)])
  intro KL5 nL5 ⟨x6,x7,x8,x9,x10⟩ hL5 hM _;have hM:YL x1 (nL5+1) x6 x7 x8 x9 x10=some e2:=hM;rw [YL] at hM;refine Zk fun K6 hK6=> ?_;refine S1 ?_;refine Zs hM (fun h7 hM=> ?_) (fun h7 hM=> ?_)
  ·have F:=And.intro (nf F h7) (lT h7);refine ZC ?_;refine hK6 _ ?_;refine Zk fun K8 hK8=> ?_;refine Zh ?_;refine le1 [0,2,3,4,5] [2,3,31] [1600] ?_;obtain ⟨x11,e9,hM⟩:=bind_some hM;obtain ⟨x12,e10,hM⟩:=bind_some hM;obtain ⟨x13,e11,hM⟩:=bind_some hM;obtain ⟨x14,e12,hM⟩:=bind_some hM;obtain ⟨x15,e13,hM⟩:=bind_some hM;obtain ⟨c14,s15⟩:=QX e13
   replace c14:=c14.symm;subst c14;(try simp at s15);have F:=And.intro F s15;refine Qs [[1000031,1000031,10001152,10001344,10001408],[0,1000031,1000031],[],[2],[2,3],[1000031],[2,3,4,5],[2,3,4,5,6],[2,3,4,5,6,7],[2,3,4,5,6,7,8],[2,3,4,5,6,7,8,9],[0,1,2,3,4,5,6,7,8,9,10],[0,1,2,3,4,5,6,7,8,9,10,11],[0,1,2,3,4,5,6,7,8,9,10,11,12]] mixed (by kernel_rfl) ?_
   simp (maxSteps:=9999999) [go_sem,F];refine Zq 0 (Zx (Zf.mk x6 x7 x8) 3 x11 e9) ?_;simp (maxSteps:=9999999) [go_sem,F];refine Uu false (Z0 x11.1 x12 e10) ?_;simp (maxSteps:=9999999) [go_sem,F];refine Zq 0 (Zx x11.2 4 x13 e11) ?_;simp (maxSteps:=9999999) [go_sem,F];refine Uu false (Z0 x13.1 x14 e12) ?_;simp (maxSteps:=9999999) [go_sem,F]
   refine ⟨ZU (by kernel_rfl), ?_⟩;exact au
  ·have F:=And.intro (nf F h7) (lF h7);exact au
 ·rintro ⟨x2,x3,x4,x5⟩ hM;dsimp only at hM;obtain ⟨x16,e17,hM⟩:=bind_some hM;refine ZH fun K h=> ?_;simp [go_sem,F];refine VC (ZP (⟨#[116,97,98,108,101]⟩:ByteArray) [(Za.mk 2 0 (⟨#[97,32,98]⟩:ByteArray) []),(Za.mk 4 0 (⟨#[]⟩:ByteArray) x2)] x16 e17) ?_;simp [go_sem,F];refine h _ ?_;obtain rfl:=si hM;refine rr [] [(1920,30000)] [2] [2,31] [1920] ?_
  exact au
instance:HC 68 (Ty @QF):=⟨QF⟩
theorem Zaa:∀(k:Nat),(∀(a0:Zf) (a1:List ByteArray) (a2:Int) (r:Za×Zf) (hM:ZN k a0 a1 a2=some r),TP Try.prog 51 209 [] (Zf.c a0) [.one (.sl (a1.map sC)),.one (.int .i64 a2)] [.agg (Za.c r.1)] (Zf.c r.2)):=by
 intro k
 induction k with
 | zero=>intro a0 a1 a2 r hM;simp [ZN] at hM
 | succ k ih_s_l10Make=>
  ·intro a0 a1 a2 r hM
   haveI:HC 51 _:=⟨ih_s_l10Make⟩;rw [ZN] at hM
   refine ZdN Try.func51 Try.ntmps51 Try.results51 fun N w0 hbad F=> ?_
   refine S1 ?_;refine Zk fun K1 hK1=> ?_;refine S1 ?_;refine Zs hM (fun h2 hM=> ?_) (fun h2 hM=> ?_)
   ·have F:=And.intro (nf F h2) (lT h2);obtain ⟨x1,e3,hM⟩:=bind_some hM;refine ZH fun K h=> ?_;simp [go_sem,F];refine Zq 0 (Qv a0 a1 x1 e3) ?_;simp [go_sem,F];refine h _ ?_;obtain rfl:=si hM;refine rr [832] [(832,30000)] [6] [6,209] [832] ?_;exact au
   ·have F:=And.intro (nf F h2) (lF h2);refine ZC ?_;refine hK1 _ ?_;refine Zk fun K4 hK4=> ?_;obtain ⟨x2,e5,hM⟩:=bind_some hM;refine ZH fun K h=> ?_;simp [go_sem,F];refine Zq 0 (Zx a0 13 x2 e5) ?_;simp [go_sem,F];refine h _ ?_;refine Zh ?_;refine mj (ι:=Bool) [0,1,2,6,15] [6,209] [] (fun i=>[(16,oB i)]) hM ?_ ?_
    ·intro e6 hM K8 hK8;exact au
    ·intro x3 hM;(try dsimp only at hM);refine Zs hM (fun h10 hM=> ?_) (fun h10 hM=> ?_)
     ·have F:=nf F h10;obtain ⟨x4,e11,hM⟩:=bind_some hM;obtain ⟨x5,e12,hM⟩:=bind_some hM;obtain ⟨x6,e13,hM⟩:=bind_some hM;obtain ⟨x7,e14,hM⟩:=bind_some hM;refine ZH fun K h=> ?_;simp [go_sem,F];refine Zq 0 (Zx x2.2 5 x4 e11) ?_;simp [go_sem,F];refine WQ (ih_s_l10Make x4.2 a1 (IntKind.i64.wrap (a2-1)) x5 e12) ?_;simp [go_sem,F];refine WQ (ih_s_l10Make x5.2 a1 (IntKind.i64.wrap (a2-1)) x6 e13) ?_
      simp [go_sem,F];refine KO (Qh (IntKind.i64.wrap (1+x4.1)) x5.1 x6.1 x7 e14) ?_;simp [go_sem,F];refine h _ ?_;obtain rfl:=si hM;refine rr [] [(2048,30000)] [6] [6,209] [2048] ?_;exact au
     ·have F:=nf F h10;refine S1 ?_;refine Zs hM (fun h15 hM=> ?_) (fun h15 hM=> ?_)
      ·have F:=nf F h15;obtain ⟨x8,e16,hM⟩:=bind_some hM;have F:=And.intro F (Jf e16);have F:=And.intro F (ZkK 0 e16);obtain ⟨x9,e17,hM⟩:=bind_some hM;refine ZH fun K h=> ?_;simp [go_sem,F];refine Zq 0 (Qf x2.2 [(⟨#[117]⟩:ByteArray),(⟨#[118]⟩:ByteArray),x8] x9 e17) ?_;simp [go_sem,F];refine h _ ?_;obtain ⟨x10,e18,hM⟩:=bind_some hM;obtain ⟨x11,e19,hM⟩:=bind_some hM
       obtain ⟨c20,s21⟩:=QX e19;replace c20:=c20.symm;subst c20;(try simp at s21);have F:=And.intro F s21;obtain ⟨x12,e23,hM⟩:=bind_some hM;refine ZH fun K h=> ?_;simp [go_sem,F];refine WQ (ih_s_l10Make x9.2 a1 (IntKind.i64.wrap (a2-1)) x10 e18) ?_;simp [go_sem,F];refine WQ (ih_s_l10Make x10.2 ([x9.1]++a1) (IntKind.i64.wrap (a2-1)) x12 e23) ?_;simp [go_sem,F]
       first | refine h _ ?_| refine ⟨by omega,h _ ?_⟩;obtain rfl:=si hM;refine rr [] [(3520,30000)] [6] [6,209] [3520] ?_;exact au
      ·have F:=nf F h15;refine S1 ?_;refine Zs hM (fun h24 hM=> ?_) (fun h24 hM=> ?_)
       ·have F:=nf F h24;obtain ⟨x13,e25,hM⟩:=bind_some hM;obtain ⟨x14,e26,hM⟩:=bind_some hM;obtain ⟨x15,e27,hM⟩:=bind_some hM;refine ZH fun K h=> ?_;simp [go_sem,F];refine WQ (ih_s_l10Make x2.2 a1 (IntKind.i64.wrap (a2-1)) x13 e25) ?_;simp [go_sem,F];refine WQ (ih_s_l10Make x13.2 a1 (IntKind.i64.wrap (a2-1)) x14 e26) ?_;simp [go_sem,F];refine WQ (ih_s_l10Make x14.2 a1 (IntKind.i64.wrap (a2-1)) x15 e27) ?_
        simp [go_sem,F];refine h _ ?_;obtain rfl:=si hM;refine rr [] [(4736,30000)] [6] [6,209] [4736] ?_;exact au
       ·have F:=nf F h24;refine S1 ?_;refine Zs hM (fun h28 hM=> ?_) (fun h28 hM=> ?_)
        ·have F:=nf F h28;obtain ⟨x16,e29,hM⟩:=bind_some hM;have F:=And.intro F (Jf e29);have F:=And.intro F (ZkK 0 e29);obtain ⟨x17,e30,hM⟩:=bind_some hM;refine ZH fun K h=> ?_;simp [go_sem,F];refine Zq 0 (Qf x2.2 [(⟨#[117]⟩:ByteArray),(⟨#[118]⟩:ByteArray),x16] x17 e30) ?_;simp [go_sem,F];refine h _ ?_;obtain ⟨x18,e31,hM⟩:=bind_some hM
         obtain ⟨x19,e32,hM⟩:=bind_some hM;obtain ⟨c33,s34⟩:=QX e32;replace c33:=c33.symm;subst c33;(try simp at s34);have F:=And.intro F s34;obtain ⟨x20,e36,hM⟩:=bind_some hM;refine ZH fun K h=> ?_;simp [go_sem,F];refine Zq 0 (Qu k x17.2 a1 x18 e31) ?_;simp [go_sem,F];refine WQ (ih_s_l10Make x18.2 ([x17.1,x17.1]++a1) (IntKind.i64.wrap (a2-1)) x20 e36) ?_
         simp [go_sem,F];first | refine h _ ?_| refine ⟨by omega,h _ ?_⟩;obtain rfl:=si hM;refine rr [] [(6208,30000)] [6] [6,209] [6208] ?_;exact au
        ·have F:=nf F h28;refine S1 ?_;refine Zs hM (fun h37 hM=> ?_) (fun h37 hM=> ?_)
         ·have F:=nf F h37;obtain ⟨x21,e38,hM⟩:=bind_some hM;refine ZH fun K h=> ?_;simp [go_sem,F];refine Zq 0 (Qu k x2.2 a1 x21 e38) ?_;simp [go_sem,F];refine h _ ?_;obtain rfl:=si hM;refine rr [6592] [(6592,30000)] [6] [6,209] [6592] ?_;exact au
         ·have F:=nf F h37;refine S1 ?_;refine Zs hM (fun h39 hM=> ?_) (fun h39 hM=> ?_)
          ·have F:=nf F h39;obtain ⟨x22,e40,hM⟩:=bind_some hM;obtain ⟨x23,e41,hM⟩:=bind_some hM;obtain ⟨x24,e42,hM⟩:=bind_some hM;obtain ⟨x25,e43,hM⟩:=bind_some hM;obtain ⟨x26,e44,hM⟩:=bind_some hM;refine ZH fun K h=> ?_;simp [go_sem,F];refine Zq 0 (Qf x2.2 [(⟨#[108,101,110]⟩:ByteArray),(⟨#[115,117,109]⟩:ByteArray)] x22 e40) ?_;simp [go_sem,F]
           refine Zq 0 (Qu k x22.2 a1 x23 e41) ?_;simp [go_sem,F];refine WQ (ih_s_l10Make x23.2 a1 (IntKind.i64.wrap (a2-1)) x24 e42) ?_;simp [go_sem,F];refine Zb3 (ZZ x24.2 x23.1 x24.1 x25 e43) ?_;simp [go_sem,F];refine VC (ZP x22.1 [x25.1] x26 e44) ?_;simp [go_sem,F];refine h _ ?_;obtain rfl:=si hM;refine rr [] [(7680,30000)] [6] [6,209] [7680] ?_
           exact au
          ·have F:=nf F h39;refine S1 ?_;refine Zs hM (fun h45 hM=> ?_) (fun h45 hM=> ?_)
           ·have F:=nf F h45;obtain ⟨x27,e46,hM⟩:=bind_some hM;obtain ⟨x28,e47,hM⟩:=bind_some hM;obtain ⟨x29,e48,hM⟩:=bind_some hM;obtain ⟨x30,e49,hM⟩:=bind_some hM;obtain ⟨x31,e50,hM⟩:=bind_some hM;obtain ⟨x32,e51,hM⟩:=bind_some hM;obtain ⟨x33,e52,hM⟩:=bind_some hM;obtain ⟨x34,e53,hM⟩:=bind_some hM;obtain ⟨x35,e54,hM⟩:=bind_some hM;obtain ⟨x36,e55,hM⟩:=bind_some hM
            obtain ⟨x37,e56,hM⟩:=bind_some hM;refine ZH fun K h=> ?_;simp [go_sem,F];refine Zq 0 (Qf x2.2 [(⟨#[116,97,107,101]⟩:ByteArray),(⟨#[115,107,105,112]⟩:ByteArray),(⟨#[110,116,104]⟩:ByteArray),(⟨#[116,97,107,101]⟩:ByteArray)] x27 e46) ?_;simp [go_sem,F];refine Zq 0 (Zx x27.2 4 x28 e47) ?_;simp [go_sem,F];refine Uu false (Z0 x28.1 x29 e48) ?_
            simp [go_sem,F];refine Zq 0 (Qu k x28.2 a1 x30 e49) ?_;simp [go_sem,F];refine Zq 0 (Zx x30.2 9 x31 e50) ?_;simp [go_sem,F];refine Uu false (Z0 x31.1 x32 e51) ?_;simp [go_sem,F];refine Zq 0 (Zx x31.2 4 x33 e52) ?_;simp [go_sem,F];refine Uu false (Z0 x33.1 x34 e53) ?_;simp [go_sem,F];refine VC (ZP (⟨#[114,97,110,103,101]⟩:ByteArray) [x32,x34] x35 e54) ?_
            simp [go_sem,F];refine Zb3 (ZZ x33.2 x30.1 x35 x36 e55) ?_;simp [go_sem,F];refine VC (ZP x27.1 [x29,x36.1] x37 e56) ?_;simp [go_sem,F];refine h _ ?_;obtain rfl:=si hM;refine rr [] [(9152,30000)] [6] [6,209] [9152] ?_;exact au
           ·have F:=nf F h45;refine S1 ?_;refine Zs hM (fun h57 hM=> ?_) (fun h57 hM=> ?_)
            ·have F:=nf F h57;obtain ⟨x38,e58,hM⟩:=bind_some hM;obtain ⟨x39,e59,hM⟩:=bind_some hM;obtain ⟨x40,e60,hM⟩:=bind_some hM;obtain ⟨x41,e61,hM⟩:=bind_some hM;obtain ⟨x42,e62,hM⟩:=bind_some hM;obtain ⟨x43,e63,hM⟩:=bind_some hM;obtain ⟨x44,e64,hM⟩:=bind_some hM;refine ZH fun K h=> ?_;simp [go_sem,F];refine Zq 0 (Qj x2.2 x38 e58) ?_
             simp [go_sem,F];refine Zq 0 (Zx x38.2 3 x39 e59) ?_;simp [go_sem,F];refine Uu false (Z0 x39.1 x40 e60) ?_;simp [go_sem,F];refine WQ (QF k x39.2 x41 e61) ?_;simp [go_sem,F];refine WQ (ih_s_l10Make x41.2 a1 (IntKind.i64.wrap (a2-1)) x42 e62) ?_;simp [go_sem,F];refine Zb3 (ZZ x42.2 x41.1 x42.1 x43 e63) ?_
             simp [go_sem,F];refine VC (ZP (⟨#[119,104,101,114,101]⟩:ByteArray) [x38.1,x40,x43.1] x44 e64) ?_;simp [go_sem,F];refine h _ ?_;obtain rfl:=si hM;refine rr [] [(10304,30000)] [6] [6,209] [10304] ?_;exact au
            ·have F:=nf F h57;refine S1 ?_;refine Zs hM (fun h65 hM=> ?_) (fun h65 hM=> ?_)
             ·have F:=nf F h65;obtain ⟨x45,e66,hM⟩:=bind_some hM;obtain ⟨x46,e67,hM⟩:=bind_some hM;obtain ⟨x47,e68,hM⟩:=bind_some hM;obtain ⟨x48,e69,hM⟩:=bind_some hM;obtain ⟨x49,e70,hM⟩:=bind_some hM;obtain ⟨x50,e71,hM⟩:=bind_some hM;refine ZH fun K h=> ?_;simp [go_sem,F];refine Zq 0 (Qj x2.2 x45 e66) ?_;simp [go_sem,F];refine Zq 0 (Qj x45.2 x46 e67) ?_
              simp [go_sem,F];refine WQ (QF k x46.2 x47 e68) ?_;simp [go_sem,F];refine WQ (ih_s_l10Make x47.2 a1 (IntKind.i64.wrap (a2-1)) x48 e69) ?_;simp [go_sem,F];refine Zb3 (ZZ x48.2 x47.1 x48.1 x49 e70) ?_;simp [go_sem,F];refine VC (ZP (⟨#[103,114,111,117,112]⟩:ByteArray) [x45.1,x46.1,x49.1] x50 e71) ?_;simp [go_sem,F]
              refine h _ ?_;obtain rfl:=si hM;refine rr [] [(11392,30000)] [6] [6,209] [11392] ?_;exact au
             ·have F:=nf F h65;refine S1 ?_;refine Zs hM (fun h72 hM=> ?_) (fun h72 hM=> ?_)
              ·have F:=nf F h72;obtain ⟨x51,e73,hM⟩:=bind_some hM;obtain ⟨x52,e74,hM⟩:=bind_some hM;obtain ⟨x53,e75,hM⟩:=bind_some hM;obtain ⟨x54,e76,hM⟩:=bind_some hM;refine ZH fun K h=> ?_;simp [go_sem,F];refine WQ (QF k x2.2 x51 e73) ?_;simp [go_sem,F];refine WQ (ih_s_l10Make x51.2 a1 (IntKind.i64.wrap (a2-1)) x52 e74) ?_;simp [go_sem,F]
               refine Zb3 (ZZ x52.2 x51.1 x52.1 x53 e75) ?_;simp [go_sem,F];refine VC (ZP (⟨#[114,111,119,115]⟩:ByteArray) [x53.1] x54 e76) ?_;simp [go_sem,F];refine h _ ?_;obtain rfl:=si hM;refine rr [] [(12224,30000)] [6] [6,209] [12224] ?_;exact au
              ·have F:=nf F h72;refine S1 ?_;refine Zs hM (fun h77 hM=> ?_) (fun h77 hM=> ?_)
               ·have F:=nf F h77;obtain ⟨x55,e78,hM⟩:=bind_some hM;obtain ⟨x56,e79,hM⟩:=bind_some hM;obtain ⟨x57,e80,hM⟩:=bind_some hM;refine ZH fun K h=> ?_;simp [go_sem,F];refine Zq 0 (Zx x2.2 6 x55 e78) ?_;simp [go_sem,F];refine Uu false (Z0 (IntKind.i64.wrap (1+x55.1)) x56 e79) ?_;simp [go_sem,F];refine VC (ZP (⟨#[99,104,97,110,99,101]⟩:ByteArray) [x56] x57 e80) ?_
                simp [go_sem,F];refine h _ ?_;obtain rfl:=si hM;refine rr [] [(12736,30000)] [6] [6,209] [12736] ?_;exact au
               ·have F:=nf F h77;refine ZC ?_;refine hK4 _ ?_;obtain ⟨x58,e81,hM⟩:=bind_some hM;obtain ⟨x59,e82,hM⟩:=bind_some hM;obtain ⟨x60,e83,hM⟩:=bind_some hM;obtain ⟨x61,e84,hM⟩:=bind_some hM;refine ZH fun K h=> ?_;simp [go_sem,F];refine VC (ZP (⟨#[99,108,111,99,107]⟩:ByteArray) [] x58 e81) ?_;simp [go_sem,F];refine Zq 0 (Qf x2.2 [(⟨#[102]⟩:ByteArray),(⟨#[103]⟩:ByteArray),(⟨#[104]⟩:ByteArray)] x59 e82) ?_
                simp [go_sem,F];refine VC (ZP (⟨#[102,105,108,101]⟩:ByteArray) [(Za.mk 2 0 x59.1 [])] x60 e83) ?_;simp [go_sem,F];refine Zb3 (ZZ x59.2 x58 x60 x61 e84) ?_;simp [go_sem,F];refine h _ ?_;obtain rfl:=si hM;refine rr [] [(13312,30000)] [6] [6,209] [13312] ?_;exact au
theorem Wx (k:Nat):∀(a0:Zf) (a1:List ByteArray) (a2:Int) (r:Za×Zf) (hM:ZN k a0 a1 a2=some r),TP Try.prog 51 209 [] (Zf.c a0) [.one (.sl (a1.map sC)),.one (.int .i64 a2)] [.agg (Za.c r.1)] (Zf.c r.2):=(Zaa k)
instance:HC 51 (Ty @Wx):=⟨Wx⟩
theorem Wy (k:Nat) (a0:Zf) (r:Za×Zf) (hM:W0 k a0=some r):TP Try.prog 33 17 [] (Zf.c a0) [] [.agg (Za.c r.1)] (Zf.c r.2):=by
 unfold W0 at hM
 refine ZdN Try.func33 Try.ntmps33 Try.results33 fun N w0 hbad F=> ?_
 refine S1 ?_;obtain ⟨x1,e1,hM⟩:=bind_some hM;obtain ⟨x2,e2,hM⟩:=bind_some hM;refine ZH fun K h=> ?_;simp [go_sem,F];refine Zq 0 (Zx a0 4 x1 e1) ?_;simp [go_sem,F];refine WQ (Wx k x1.2 [(⟨#[97]⟩:ByteArray),(⟨#[98]⟩:ByteArray),(⟨#[99]⟩:ByteArray)] (IntKind.i64.wrap (1+x1.1)) x2 e2) ?_;simp [go_sem,F];refine h _ ?_;refine Zk fun K3 hK3=> ?_
 obtain ⟨x3,e4,hM⟩:=bind_some hM;refine ZH fun K h=> ?_;simp [go_sem,F];refine Uu false (Q6 k x2.1 x3 e4) ?_;simp [go_sem,F];refine h _ ?_;refine Zs hM (fun h5 hM=> ?_) (fun h5 hM=> ?_)
 ·have F:=nf F h5;obtain ⟨x4,e6,hM⟩:=bind_some hM;refine ZH fun K h=> ?_;simp [go_sem,F];refine Zq 0 (Qv x2.2 [(⟨#[97]⟩:ByteArray),(⟨#[98]⟩:ByteArray),(⟨#[99]⟩:ByteArray)] x4 e6) ?_;simp [go_sem,F];refine h _ ?_;obtain rfl:=si hM;refine rr [960] [(960,30000)] [2] [2,17] [960] ?_;exact au
 ·have F:=nf F h5;refine ZC ?_;refine hK3 _ ?_;refine S1 ?_;obtain rfl:=si hM;refine rr [] [(576,30000)] [2] [2,17] [576] ?_;exact au
instance:HC 33 (Ty @Wy):=⟨Wy⟩
theorem WZ (a0:Zf) (a1:List Int) (r:Int×Zf) (hM:XF a0 a1=some r):WR Try.prog 35 [] (Zf.c a0) [.one (.sl (a1.map iC))] true [.one (.int .i64 r.1)] (Zf.c r.2):=by
 unfold XF at hM
 refine Wd Try.func35 Try.ntmps35 Try.results35 fun N w0 hbad F=> ?_
 exact au
instance:HC 35 (Ty @WZ):=⟨WZ⟩
theorem V3 (k:Nat) (a0:Zf) (r:Za×Zf) (hM:W1 k a0=some r):WR Try.prog 17 [] (Zf.c a0) [] false [.agg (Za.c r.1)] (Zf.c r.2):=by
 unfold W1 at hM
 refine Wd Try.func17 Try.ntmps17 Try.results17 fun N w0 hbad F=> ?_
 refine S1 ?_;obtain ⟨x1,e1,hM⟩:=bind_some hM;refine ZH fun K h=> ?_;simp [go_sem,F];refine WQ (Wy k a0 x1 e1) ?_;simp [go_sem,F];refine h _ ?_;refine mj (ι:=Int×Int×ByteArray×(List Za)×(List Int)×Int×Int) [2,3] [2] [] (fun i=>[]) hM ?_ ?_ (cb:=fun i=>[(3,[cI i.1,cI i.2.1,cS i.2.2.1,cL Za.c i.2.2.2.1]),(47,[cL uC i.2.2.2.2.1,cI i.2.2.2.2.2.1,cI i.2.2.2.2.2.2])])
 ·intro e2 hM K4 hK4;obtain ⟨x9,e5,hM⟩:=bind_some hM;refine ZH fun K h=> ?_;simp [go_sem,F];refine Zq 0 (Zx x1.2 12 x9 e5) ?_;simp [go_sem,F];refine h _ ?_;refine Zh ?_;refine S1 ?_;refine Zs hM (fun h6 hM=> ?_) (fun h6 hM=> ?_)
  ·have F:=nf F h6;exact au
  ·have F:=nf F h6;refine S1 ?_;refine Zs hM (fun h8 hM=> ?_) (fun h8 hM=> ?_)
   ·have F:=nf F h8;refine le1 [0,2,3] [2,3,47] [384] ?_;obtain ⟨x11,e9,hM⟩:=bind_some hM;obtain ⟨x12,e10,hM⟩:=bind_some hM;obtain ⟨c11,s12⟩:=QX e10;replace c11:=c11.symm;subst c11;(try simp at s12);have F:=And.intro F s12;refine Qs [[1000047,10001216,10001280],[0,1000047],[],[],[2,3],[2,3,4],[0,1,2,3,4,5],[0,1,2,3,4,5,6],[0,1,2,3,4,5,6,7]] mixed (by kernel_rfl) ?_
    simp [go_sem,F];refine Zq 0 (Qv x9.2 [(⟨#[97]⟩:ByteArray)] x11 e9) ?_;simp [go_sem,F];refine ⟨ZU (by kernel_rfl), ?_⟩;exact au
   ·have F:=nf F h8;refine S1 ?_;refine Zs hM (fun h14 hM=> ?_) (fun h14 hM=> ?_)
    ·have F:=nf F h14;exact au
    ·have F:=nf F h14;refine S1 ?_;refine Zs hM (fun h16 hM=> ?_) (fun h16 hM=> ?_)
     ·have F:=nf F h16;exact au
     ·have F:=nf F h16;refine S1 ?_;refine Zs hM (fun h18 hM=> ?_) (fun h18 hM=> ?_)
      ·have F:=nf F h18;refine S1 ?_;refine Zh ?_;refine lp (ι:=Int×Int×ByteArray×(List Za)×Int) [2,3] [2,47] [] (fun i=>[(4,oI i.2.2.2.2)]) (fun n i=>Y3 x9 n i.1 i.2.1 i.2.2.1 i.2.2.2.1 i.2.2.2.2=some e2) k (x1.1.kind,x1.1.n,x1.1.text,x1.1.args,0) hM (by simp [Y3]) ?_ (cb:=fun i=>[(3,[cI i.1,cI i.2.1,cS i.2.2.1,cL Za.c i.2.2.2.1])])
       intro KL19 nL19 ⟨x15,x16,x17,x18,x19⟩ hL19 hM _;have hM:Y3 x9 (nL19+1) x15 x16 x17 x18 x19=some e2:=hM;rw [Y3] at hM;refine Zk fun K20 hK20=> ?_;refine S1 ?_;refine Zs hM (fun h21 hM=> ?_) (fun h21 hM=> ?_)
       ·have F:=And.intro (nf F h21) (lT h21);refine ZC ?_;refine hK20 _ ?_;refine Zk fun K22 hK22=> ?_;refine Zh ?_;refine le1 [2,3,4] [2,3,47] [] ?_;obtain ⟨x20,e23,hM⟩:=bind_some hM;obtain ⟨x21,e24,hM⟩:=bind_some hM;refine Qs [[],[],[1],[0,1,2],[0,1,2,3]] mixed (by kernel_rfl) ?_;simp [go_sem,F];refine Uu false (Z0 x19 x20 e23) ?_
        simp [go_sem,F];refine KO (Qh 1 (Za.mk x15 x16 x17 x18) x20 x21 e24) ?_;simp [go_sem,F];refine ⟨ZU (by kernel_rfl), ?_⟩;exact au
       ·have F:=And.intro (nf F h21) (lF h21);exact au
      ·have F:=nf F h18;exact au
 ·rintro ⟨x2,x3,x4,x5,x6,x7,x8⟩ hM;dsimp only at hM;exact au
instance:HC 17 (Ty @V3):=⟨V3⟩
theorem QC (k:Nat) (a0:List Int) (r:Za) (hM:Qc k a0=some r):Ctr Try.prog 5 [.one (.sl (a0.map uC))] false [.agg (Za.c r)]:=by
 unfold Qc at hM
 refine Yp Try.func5 Try.ntmps5 Try.results5 fun N w0 hbad F=> ?_
 exact au
instance:HC 5 (Ty @QC):=⟨QC⟩
end Go.Proofs.Ytneeinggggadpaa
namespace Go.Proofs.Ytneeinggggadpaa
open Go.RowKit Am
set_option maxHeartbeats 4000000
set_option maxRecDepth 100000
theorem JV:∀(k:Nat),(∀(a0:Za) (r:Int) (hM:YD k a0=some r),Ctr Try.prog 38 [.agg (Za.c a0)] true [.one (.int .i64 r)]):=by
 intro k
 induction k with
 | zero=>intro a0 r hM;simp [YD] at hM
 | succ k ih_i_NodeCount=>
  ·intro a0 r hM
   haveI:HC 38 _:=⟨ih_i_NodeCount⟩;rw [YD] at hM
   refine Yp Try.func38 Try.ntmps38 Try.results38 fun N w0 hbad F=> ?_
   refine S1 ?_;refine S1 ?_;refine mj (ι:=Int) [] [] [] (fun i=>[(3,oI i)]) hM ?_ ?_
   ·intro e1 hM K3 hK3;refine S1 ?_;refine Zh ?_;refine lp (ι:=Int×Int) [7,8] [] [] (fun i=>[(3,oI i.1),(9,oI i.2)]) (fun n i=>Yj (YD k) a0 n i.1 i.2=some e1) k (1,0) hM (by simp [Yj]) ?_;intro KL4 nL4 ⟨x2,x3⟩ hL4 hM _;have hM:Yj (YD k) a0 (nL4+1) x2 x3=some e1:=hM;rw [Yj] at hM;exact au
   ·intro x1 hM;(try dsimp only at hM);exact au
theorem Vb (k:Nat):∀(a0:Za) (r:Int) (hM:YD k a0=some r),Ctr Try.prog 38 [.agg (Za.c a0)] true [.one (.int .i64 r)]:=(JV k)
instance:HC 38 (Ty @Vb):=⟨Vb⟩
theorem JW:∀(k:Nat),(∀(a0:Za) (r:Int) (hM:Yt k a0=some r),Ctr Try.prog 39 [.agg (Za.c a0)] true [.one (.int .i64 r)]):=by
 intro k
 induction k with
 | zero=>intro a0 r hM;simp [Yt] at hM
 | succ k ih_i_NestingOf=>
  ·intro a0 r hM
   haveI:HC 39 _:=⟨ih_i_NestingOf⟩;rw [Yt] at hM
   refine Yp Try.func39 Try.ntmps39 Try.results39 fun N w0 hbad F=> ?_
   refine S1 ?_;refine S1 ?_;refine mj (ι:=Int) [] [] [] (fun i=>[(3,oI i)]) hM ?_ ?_
   ·intro e1 hM K3 hK3;refine S1 ?_;refine Zh ?_;refine lp (ι:=Int×Int) [7,8] [] [] (fun i=>[(3,oI i.1),(9,oI i.2)]) (fun n i=>Yk (Yt k) a0 n i.1 i.2=some e1) k (0,0) hM (by simp [Yk]) ?_;intro KL4 nL4 ⟨x2,x3⟩ hL4 hM _;have hM:Yk (Yt k) a0 (nL4+1) x2 x3=some e1:=hM;rw [Yk] at hM;exact au
   ·intro x1 hM;(try dsimp only at hM);exact au
theorem Vc (k:Nat):∀(a0:Za) (r:Int) (hM:Yt k a0=some r),Ctr Try.prog 39 [.agg (Za.c a0)] true [.one (.int .i64 r)]:=(JW k)
instance:HC 39 (Ty @Vc):=⟨Vc⟩
theorem U1 (a0:Int) (a1:Int) (a2:Int) (r:Bool) (hM:XA a0 a1 a2=some r):Ctr Try.prog 69 [.one (.int .i64 a0),.one (.int .i64 a1),.one (.int .i64 a2)] true [.one (.bool r)]:=by
 unfold XA at hM
 refine Yp Try.func69 Try.ntmps69 Try.results69 fun N w0 hbad F=> ?_
 refine S1 ?_;refine mj (ι:=Bool) [] [] [] (fun i=>[(6,oB i)]) hM ?_ ?_
 ·intro e1 hM K3 hK3;exact au
 ·intro x1 hM;(try dsimp only at hM);exact au
instance:HC 69 (Ty @U1):=⟨U1⟩
theorem Wl (k:Nat) (a0:ByteArray) (r:Bool) (hM:Y8 k a0=some r):Ctr Try.prog 70 [.one (.str a0)] true [.one (.bool r)]:=by
 unfold Y8 at hM
 refine Yp Try.func70 Try.ntmps70 Try.results70 fun N w0 hbad F=> ?_
 refine S1 ?_;refine mjE (ι:=Unit) [0] [] [] (fun i=>[]) hM ?_ ?_
 ·intro e1 hM hR1 K3 hK3;refine S1 ?_;refine Zh ?_;refine lp (ι:=Int) [0] [] [] (fun i=>[(3,oI i)]) (fun n i=>Z3 a0 n i=some e1) k 0 hM (by simp [Z3]) ?_;intro KL4 nL4 x1 hL4 hM _;have hM:Z3 a0 (nL4+1) x1=some e1:=hM;rw [Z3] at hM;refine Zk fun K5 hK5=> ?_;refine S1 ?_;refine Zs hM (fun h6 hM=> ?_) (fun h6 hM=> ?_)
  ·have F:=And.intro (nf F h6) (lT h6);refine ZC ?_;refine hK5 _ ?_;refine Zk fun K7 hK7=> ?_;refine Zh ?_;refine mj (ι:=Bool) [0,3] [] [] (fun i=>[(25,oB i)]) hM ?_ ?_
   ·intro e8 hM K10 hK10;exact au
   ·intro x2 hM;(try dsimp only at hM);exact au
  ·have F:=And.intro (nf F h6) (lF h6);exact au
 ·intro _ hM;dsimp only at hM;exact au
instance:HC 70 (Ty @Wl):=⟨Wl⟩
theorem U2 (k:Nat) (a0:ByteArray) (r:Bool) (hM:Uh k a0=some r):Ctr Try.prog 77 [.one (.str a0)] true [.one (.bool r)]:=by
 unfold Uh at hM
 refine Yp Try.func77 Try.ntmps77 Try.results77 fun N w0 hbad F=> ?_
 refine S1 ?_;refine mjE (ι:=Unit) [0] [] [] (fun i=>[]) hM ?_ ?_
 ·intro e1 hM hR1 K3 hK3;refine S1 ?_;refine Zh ?_;refine lp (ι:=Int) [0] [] [] (fun i=>[(3,oI i)]) (fun n i=>Qp a0 n i=some e1) k 0 hM (by simp [Qp]) ?_;intro KL4 nL4 x1 hL4 hM _;have hM:Qp a0 (nL4+1) x1=some e1:=hM;rw [Qp] at hM;refine Zk fun K5 hK5=> ?_;refine S1 ?_;refine Zs hM (fun h6 hM=> ?_) (fun h6 hM=> ?_)
  ·have F:=And.intro (nf F h6) (lT h6);refine ZC ?_;refine hK5 _ ?_;refine Zk fun K7 hK7=> ?_;refine Zh ?_;refine mj (ι:=Bool) [0,3] [] [] (fun i=>[(4,oB i)]) hM ?_ ?_
   ·intro e8 hM K10 hK10;exact au
   ·intro x2 hM;(try dsimp only at hM);refine mj (ι:=Bool) [0,3] [] [] (fun i=>[(38,oB i)]) hM ?_ ?_
    ·intro e13 hM K15 hK15;exact au
    ·intro x4 hM;(try dsimp only at hM);exact au
  ·have F:=And.intro (nf F h6) (lF h6);exact au
 ·intro _ hM;dsimp only at hM;exact au
instance:HC 77 (Ty @U2):=⟨U2⟩
theorem XO (a0:ByteArray) (r:Int) (hM:Zm a0=some r):Ctr Try.prog 72 [.one (.str a0)] true [.one (.int .i64 r)]:=by
 unfold Zm at hM
 refine Yp Try.func72 Try.ntmps72 Try.results72 fun N w0 hbad F=> ?_
 refine S1 ?_;refine Zk fun K1 hK1=> ?_;refine S1 ?_;refine Zh ?_;refine S1 ?_;refine Zs hM (fun h2 hM=> ?_) (fun h2 hM=> ?_)
 ·have F:=nf F h2;exact au
 ·have F:=nf F h2;refine mj (ι:=Bool) [3] [] [] (fun i=>[(6,oB i)]) hM ?_ ?_
  ·intro e3 hM K5 hK5;exact au
  ·intro x1 hM;(try dsimp only at hM);refine Zs hM (fun h10 hM=> ?_) (fun h10 hM=> ?_)
   ·have F:=nf F h10;exact au
   ·have F:=nf F h10;refine mj (ι:=Bool) [3] [] [] (fun i=>[(12,oB i)]) hM ?_ ?_
    ·intro e11 hM K13 hK13;exact au
    ·intro x2 hM;(try dsimp only at hM);refine Zs hM (fun h20 hM=> ?_) (fun h20 hM=> ?_)
     ·have F:=nf F h20;exact au
     ·have F:=nf F h20;refine mj (ι:=Bool) [3] [] [] (fun i=>[(20,oB i)]) hM ?_ ?_
      ·intro e21 hM K23 hK23;exact au
      ·intro x3 hM;(try dsimp only at hM);exact au
instance:HC 72 (Ty @XO):=⟨XO⟩
theorem WN (a0:ByteArray) (r:Bool) (hM:Xl a0=some r):Ctr Try.prog 78 [.one (.str a0)] true [.one (.bool r)]:=by
 unfold Xl at hM
 refine Yp Try.func78 Try.ntmps78 Try.results78 fun N w0 hbad F=> ?_
 refine S1 ?_;refine Zk fun K1 hK1=> ?_;refine S1 ?_;refine Zh ?_;refine mj (ι:=Bool) [0] [] [] (fun i=>[(4,oB i)]) hM ?_ ?_
 ·intro e2 hM K4 hK4;exact au
 ·intro x1 hM;(try dsimp only at hM);exact au
instance:HC 78 (Ty @WN):=⟨WN⟩
theorem Wm (k:Nat) (a0:ByteArray) (r:Bool) (hM:ZY k a0=some r):Ctr Try.prog 71 [.one (.str a0)] true [.one (.bool r)]:=by
 unfold ZY at hM
 refine Yp Try.func71 Try.ntmps71 Try.results71 fun N w0 hbad F=> ?_
 refine S1 ?_;refine mj (ι:=Bool) [] [] [] (fun i=>[(2,oB i)]) hM ?_ ?_
 ·intro e1 hM K3 hK3;exact au
 ·intro x1 hM;(try dsimp only at hM);exact au
instance:HC 71 (Ty @Wm):=⟨Wm⟩
theorem U4 (k:Nat) (a0:Za) (r:Bool) (hM:Qz k a0=some r):Ctr Try.prog 53 [.agg (Za.c a0)] true [.one (.bool r)]:=by
 unfold Qz at hM
 refine Yp Try.func53 Try.ntmps53 Try.results53 fun N w0 hbad F=> ?_
 refine S1 ?_;refine S1 ?_;refine Zk fun K1 hK1=> ?_;refine S1 ?_;refine Zh ?_;refine S1 ?_;refine Zs hM (fun h2 hM=> ?_) (fun h2 hM=> ?_)
 ·have F:=nf F h2;refine mj (ι:=Bool) [] [] [] (fun i=>[(2,oB i)]) hM ?_ ?_
  ·intro e3 hM K5 hK5;exact au
  ·intro x1 hM;(try dsimp only at hM);exact au
 ·have F:=nf F h2;refine S1 ?_;refine Zs hM (fun h9 hM=> ?_) (fun h9 hM=> ?_)
  ·have F:=nf F h9;refine mj (ι:=Bool) [] [] [] (fun i=>[(2,oB i)]) hM ?_ ?_
   ·intro e10 hM K12 hK12;exact au
   ·intro x3 hM;(try dsimp only at hM);exact au
  ·have F:=nf F h9;refine S1 ?_;refine Zs hM (fun h16 hM=> ?_) (fun h16 hM=> ?_)
   ·have F:=nf F h16;refine mj (ι:=Bool) [] [] [] (fun i=>[(2,oB i)]) hM ?_ ?_
    ·intro e17 hM K19 hK19;exact au
    ·intro x5 hM;(try dsimp only at hM);exact au
   ·have F:=nf F h16;refine S1 ?_;refine Zs hM (fun h23 hM=> ?_) (fun h23 hM=> ?_)
    ·have F:=nf F h23;refine mj (ι:=Bool) [] [] [] (fun i=>[(2,oB i)]) hM ?_ ?_
     ·intro e24 hM K26 hK26;exact au
     ·intro x7 hM;(try dsimp only at hM);exact au
    ·have F:=nf F h23;refine S1 ?_;refine Zs hM (fun h29 hM=> ?_) (fun h29 hM=> ?_)
     ·have F:=nf F h29;refine mj (ι:=Bool) [] [] [] (fun i=>[(2,oB i)]) hM ?_ ?_
      ·intro e30 hM K32 hK32;exact au
      ·intro x8 hM;(try dsimp only at hM);exact au
     ·have F:=nf F h29;refine S1 ?_;refine Zs hM (fun h35 hM=> ?_) (fun h35 hM=> ?_)
      ·have F:=nf F h35;refine mj (ι:=Bool) [] [] [] (fun i=>[(2,oB i)]) hM ?_ ?_
       ·intro e36 hM K38 hK38;exact au
       ·intro x10 hM;(try dsimp only at hM);exact au
      ·have F:=nf F h35;refine mj (ι:=Bool) [1,3,8] [1] [] (fun i=>[(91,oB i)]) hM ?_ ?_
       ·intro e42 hM K44 hK44;exact au
       ·intro x12 hM;(try dsimp only at hM);refine Zs hM (fun h46 hM=> ?_) (fun h46 hM=> ?_)
        ·have F:=nf F h46;refine mj (ι:=Bool) [] [] [] (fun i=>[(2,oB i)]) hM ?_ ?_
         ·intro e47 hM K49 hK49;exact au
         ·intro x13 hM;(try dsimp only at hM);exact au
        ·have F:=nf F h46;refine S1 ?_;refine Zs hM (fun h53 hM=> ?_) (fun h53 hM=> ?_)
         ·have F:=nf F h53;refine mj (ι:=Bool) [] [] [] (fun i=>[(2,oB i)]) hM ?_ ?_
          ·intro e54 hM K56 hK56;exact au
          ·intro x15 hM;(try dsimp only at hM);exact au
         ·have F:=nf F h53;exact au
instance:HC 53 (Ty @U4):=⟨U4⟩
theorem Ki:∀(k:Nat),(∀(a0:Za) (r:Bool) (hM:ZE k a0=some r),Ctr Try.prog 40 [.agg (Za.c a0)] true [.one (.bool r)]):=by
 intro k
 induction k with
 | zero=>intro a0 r hM;simp [ZE] at hM
 | succ k ih_i_areNodes=>
  ·intro a0 r hM
   haveI:HC 40 _:=⟨ih_i_areNodes⟩;rw [ZE] at hM
   refine Yp Try.func40 Try.ntmps40 Try.results40 fun N w0 hbad F=> ?_
   refine S1 ?_;refine mjE (ι:=Unit) [1] [1] [] (fun i=>[]) hM ?_ ?_
   ·intro e1 hM hR1 K3 hK3;refine S1 ?_;refine Zh ?_;refine lp (ι:=Int) [1,6,7] [1] [] (fun i=>[(8,oI i)]) (fun n i=>Yi (ZE k) a0 n i=some e1) k 0 hM (by simp [Yi]) ?_;intro KL4 nL4 x1 hL4 hM _;have hM:Yi (ZE k) a0 (nL4+1) x1=some e1:=hM;rw [Yi] at hM;exact au
   ·intro _ hM;dsimp only at hM;exact au
theorem VA (k:Nat):∀(a0:Za) (r:Bool) (hM:ZE k a0=some r),Ctr Try.prog 40 [.agg (Za.c a0)] true [.one (.bool r)]:=(Ki k)
instance:HC 40 (Ty @VA):=⟨VA⟩
theorem Wn (k:Nat) (a0:Za) (r:Bool) (hM:ZR k a0=some r):Ctr Try.prog 18 [.agg (Za.c a0)] true [.one (.bool r)]:=by
 unfold ZR at hM
 refine Yp Try.func18 Try.ntmps18 Try.results18 fun N w0 hbad F=> ?_
 refine S1 ?_;refine mj (ι:=Bool) [] [] [] (fun i=>[(2,oB i)]) hM ?_ ?_
 ·intro e1 hM K3 hK3;exact au
 ·intro x1 hM;(try dsimp only at hM);exact au
instance:HC 18 (Ty @Wn):=⟨Wn⟩
theorem Za8:∀(k:Nat),(∀(a0:Za) (r:Bool) (hM:Zn k a0=some r),Ctr Try.prog 19 [.agg (Za.c a0)] true [.one (.bool r)]):=by
 intro k
 induction k with
 | zero=>intro a0 r hM;simp [Zn] at hM
 | succ k ih_i_isPipe=>
  ·intro a0 r hM
   haveI:HC 19 _:=⟨ih_i_isPipe⟩;rw [Zn] at hM
   refine Yp Try.func19 Try.ntmps19 Try.results19 fun N w0 hbad F=> ?_
   refine S1 ?_;refine Zk fun K1 hK1=> ?_;refine S1 ?_;refine Zs hM (fun h2 hM=> ?_) (fun h2 hM=> ?_)
   ·have F:=nf F h2;exact au
   ·have F:=nf F h2;refine ZC ?_;refine hK1 _ ?_;refine S1 ?_;refine mjE (ι:=Int) [1] [1] [] (fun i=>[(3,oI i)]) hM ?_ ?_
    ·intro e3 hM hR1 K5 hK5;refine S1 ?_;refine Zh ?_;refine mj (ι:=Bool) [1,3,10] [1] [] (fun i=>[(11,oB i)]) hM ?_ ?_
     ·intro e6 hM K8 hK8;exact au
     ·intro x2 hM;(try dsimp only at hM);exact au
    ·intro x1 hM;dsimp only at hM;refine Zk fun K14 hK14=> ?_;refine S1 ?_;refine Zs hM (fun h15 hM=> ?_) (fun h15 hM=> ?_)
     ·have F:=nf F h15;exact au
     ·have F:=nf F h15;refine ZC ?_;refine hK14 _ ?_;refine mjE (ι:=Unit) [] [] [] (fun i=>[]) hM ?_ ?_
      ·intro e16 hM hR1 K18 hK18;refine S1 ?_;refine Zh ?_;refine lp (ι:=Int) [1,3,22,23] [1] [] (fun i=>[(24,oI i)]) (fun n i=>Z9 (Zn k) a0 x1 n i=some e16) k 0 hM (by simp [Z9]) ?_;intro KL19 nL19 x3 hL19 hM _;have hM:Z9 (Zn k) a0 x1 (nL19+1) x3=some e16:=hM;rw [Z9] at hM;refine S1 ?_;refine Zk fun K20 hK20=> ?_
       refine Zs hM (fun h21 hM=> ?_) (fun h21 hM=> ?_)
       ·have F:=And.intro (nf F h21) (lT h21);refine ZC ?_;refine hK20 _ ?_;refine mjE (ι:=Unit) [1,3,22,23,24] [1] [] (fun i=>[]) hM ?_ ?_
        ·intro e22 hM hR2 K24 hK24;refine Zh ?_;obtain ⟨x4,e25,hM⟩:=bind_some hM;have F:=And.intro F (Jf e25);refine S1 ?_;refine S1 ?_;refine Zs hM (fun h26 hM=> ?_) (fun h26 hM=> ?_)
         ·have F:=And.intro (nf F h26) (eT h26);exact au
         ·have F:=And.intro (nf F h26) (eF h26);refine mj (ι:=Bool) [1,3,22,23,24] [1] [] (fun i=>[(46,oB i)]) hM ?_ ?_
          ·intro e29 hM K31 hK31;exact au
          ·intro x6 hM;(try dsimp only at hM);exact au
        ·intro _ hM;dsimp only at hM;exact au
       ·have F:=And.intro (nf F h21) (lF h21);exact au
      ·intro _ hM;dsimp only at hM;exact au
theorem U3 (k:Nat):∀(a0:Za) (r:Bool) (hM:Zn k a0=some r),Ctr Try.prog 19 [.agg (Za.c a0)] true [.one (.bool r)]:=(Za8 k)
instance:HC 19 (Ty @U3):=⟨U3⟩
theorem Xr (k:Nat) (a0:Za) (r:Bool) (hM:Yn k a0=some r):Ctr Try.prog 6 [.agg (Za.c a0)] true [.one (.bool r)]:=by
 unfold Yn at hM
 refine Yp Try.func6 Try.ntmps6 Try.results6 fun N w0 hbad F=> ?_
 refine S1 ?_;refine mj (ι:=Bool) [] [] [] (fun i=>[(2,oB i)]) hM ?_ ?_
 ·intro e1 hM K3 hK3;exact au
 ·intro x1 hM;(try dsimp only at hM);exact au
instance:HC 6 (Ty @Xr):=⟨Xr⟩
theorem XE (a0:ByteArray) (r:Int) (hM:YU a0=some r):Ctr Try.prog 41 [.one (.str a0)] true [.one (.int .i64 r)]:=by
 unfold YU at hM
 refine Yp Try.func41 Try.ntmps41 Try.results41 fun N w0 hbad F=> ?_
 refine S1 ?_;refine Zk fun K1 hK1=> ?_;refine S1 ?_;refine Zh ?_;refine mj (ι:=Bool) [3] [] [] (fun i=>[(4,oB i)]) hM ?_ ?_
 ·intro e2 hM K4 hK4;exact au
 ·intro x1 hM;(try dsimp only at hM);exact au
instance:HC 41 (Ty @XE):=⟨XE⟩
end Go.Proofs.Ytneeinggggadpaa
