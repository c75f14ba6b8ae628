import Derived.Test.YtneeinggggadpaaJ3
import Derived.Test.YtneeinggggadpaaJ4
set_option linter.unusedSimpArgs false
set_option linter.unusedVariables false
namespace Go.Proofs.Ytneeinggggadpaa
open Go.RowKit Am
set_option maxHeartbeats 4000000
set_option maxRecDepth 100000
theorem Jt (a0:List Int) (r:Bool) (hM:Zbw a0=some r):Ctr Try.prog 4 [.one (.sl (a0.map uC))] true [.one (.bool r)]:=by
 unfold Zbw at hM
 refine Yp Try.func4 Try.ntmps4 Try.results4 fun N w0 hbad F=> ?_
 exact au
instance:HC 4 (Ty @Jt):=⟨Jt⟩
theorem JC (k:Nat) (a0:List Int) (r:Zf) (hM:JD k a0=some r):ZfO Try.prog 13 [.one (.sl (a0.map uC))] (Zf.c r):=by
 unfold JD at hM
 refine Zi8 Try.func13 Try.ntmps13 Try.results13 fun N w0 hbad F=> ?_
 refine S1 ?_;refine S1 ?_;refine mj (ι:=Int) [0] [] [] (fun i=>[(3,oI i)]) hM ?_ ?_
 ·intro e1 hM K3 hK3;refine S1 ?_;refine Zh ?_;refine lp (ι:=Int×Int) [0] [] [] (fun i=>[(3,oI i.1),(4,oI i.2)]) (fun n i=>QO a0 n i.1 i.2=some e1) k ((IntKind.i64.wrap (26583+(a0.length:Int))),0) hM (by simp [QO]) ?_;intro KL4 nL4 ⟨x2,x3⟩ hL4 hM _;have hM:QO a0 (nL4+1) x2 x3=some e1:=hM;rw [QO] at hM;refine Zk fun K5 hK5=> ?_
  refine mj (ι:=Bool) [0,3,4] [] [] (fun i=>[(15,oB i)]) hM ?_ ?_
  ·intro e6 hM K8 hK8;exact au
  ·intro x4 hM;(try dsimp only at hM);exact au
 ·intro x1 hM;(try dsimp only at hM);exact au
instance:HC 13 (Ty @JC):=⟨JC⟩
theorem UW (a0:Zf) (r:Int×Zf) (hM:Xt a0=some r):WR Try.prog 50 [] (Zf.c a0) [] true [.one (.int .i64 r.1)] (Zf.c r.2):=by
 unfold Xt at hM
 refine Wd Try.func50 Try.ntmps50 Try.results50 fun N w0 hbad F=> ?_
 refine S1 ?_;refine S1 ?_;refine Zk fun K1 hK1=> ?_;refine ZV 10 mixed (by kernel_rfl) (by kernel_rfl) ?_;simp [go_sem,F];refine hK1 _ ?_;refine mj (ι:=Int×Int) [] [] [] (fun i=>[(3,oI i.1)]) hM ?_ ?_ (cb:=fun i=>[(58,[cL uC a0.b,cI i.2,cI (IntKind.i64.wrap ((IntKind.i64.wrap (a0.h*6364136223846793005))+1442695040888963407))])])
 ·intro e2 hM K4 hK4;refine Zk fun K5 hK5=> ?_;refine ZV 9 mixed (by kernel_rfl) (by kernel_rfl) ?_;simp [go_sem,F];refine hK5 _ ?_;refine Zs hM (fun h6 hM=> ?_) (fun h6 hM=> ?_)
  ·have F:=And.intro (nf F h6) (lT h6);refine Zk fun K7 hK7=> ?_;obtain ⟨x3,e8,hM⟩:=bind_some hM;have F:=And.intro F (Jf e8);refine ZV 12 mixed (by kernel_rfl) (by kernel_rfl) ?_;simp [go_sem,F];refine hK7 _ ?_;refine le1 [0,3] [58] [] ?_;exact au
  ·have F:=And.intro (nf F h6) (lF h6);exact au
 ·rintro ⟨x1,x2⟩ hM;dsimp only at hM;exact au
instance:HC 50 (Ty @UW):=⟨UW⟩
theorem Zx (a0:Zf) (a1:Int) (r:Int×Zf) (hM:ZD a0 a1=some r):WR Try.prog 30 [] (Zf.c a0) [.one (.int .i64 a1)] true [.one (.int .i64 r.1)] (Zf.c r.2):=by
 unfold ZD at hM
 refine Wd Try.func30 Try.ntmps30 Try.results30 fun N w0 hbad F=> ?_
 exact au
instance:HC 30 (Ty @Zx):=⟨Zx⟩
theorem Qf (a0:Zf) (a1:List ByteArray) (r:ByteArray×Zf) (hM:YJ a0 a1=some r):WR Try.prog 31 [] (Zf.c a0) [.one (.sl (a1.map sC))] true [.one (.str r.1)] (Zf.c r.2):=by
 unfold YJ at hM
 refine Wd Try.func31 Try.ntmps31 Try.results31 fun N w0 hbad F=> ?_
 exact au
instance:HC 31 (Ty @Qf):=⟨Qf⟩
theorem W8 (k:Nat) (a0:Int) (r:ByteArray) (hM:QN k a0=some r):Ctr Try.prog 32 [.one (.int .i64 a0)] true [.one (.str r)]:=by
 unfold QN at hM
 refine Yp Try.func32 Try.ntmps32 Try.results32 fun N w0 hbad F=> ?_
 refine S1 ?_;refine Zk fun K1 hK1=> ?_;refine S1 ?_;refine Zs hM (fun h2 hM=> ?_) (fun h2 hM=> ?_)
 ·have F:=nf F h2;exact au
 ·have F:=nf F h2;refine ZC ?_;refine hK1 _ ?_;refine S1 ?_;refine S1 ?_;refine mj (ι:=ByteArray) [3] [] [] (fun i=>[(4,oS i)]) hM ?_ ?_
  ·intro e3 hM K5 hK5;refine Zh ?_;refine lp (ι:=Int×ByteArray) [3] [] [] (fun i=>[(0,oI i.1),(4,oS i.2)]) (fun n i=>Zz n i.1 i.2=some e3) k (a0,(⟨#[]⟩:ByteArray)) hM (by simp [Zz]) ?_;intro KL6 nL6 ⟨x2,x3⟩ hL6 hM _;have hM:Zz (nL6+1) x2 x3=some e3:=hM;rw [Zz] at hM;refine Zk fun K7 hK7=> ?_;refine S1 ?_;refine Zs hM (fun h8 hM=> ?_) (fun h8 hM=> ?_)
   ·have F:=nf F h8;refine ZC ?_;refine hK7 _ ?_;refine Zh ?_;refine S1 ?_;refine mj (ι:=Int) [0,3,4] [] [] (fun i=>[(5,oI i)]) hM ?_ ?_
    ·intro e9 hM K11 hK11;exact au
    ·intro x4 hM;(try dsimp only at hM);exact au
   ·have F:=nf F h8;exact au
  ·intro x1 hM;(try dsimp only at hM);exact au
instance:HC 32 (Ty @W8):=⟨W8⟩
theorem VU (k:Nat) (a0:Zf) (a1:ByteArray) (r:ByteArray×Zf) (hM:Wf k a0 a1=some r):WR Try.prog 15 [] (Zf.c a0) [.one (.str a1)] true [.one (.str r.1)] (Zf.c r.2):=by
 unfold Wf at hM
 refine Wd Try.func15 Try.ntmps15 Try.results15 fun N w0 hbad F=> ?_
 refine S1 ?_;refine Zk fun K1 hK1=> ?_;obtain ⟨x1,e2,hM⟩:=bind_some hM;refine ZH fun K h=> ?_;simp [go_sem,F];refine Zq 0 (Zx a0 6 x1 e2) ?_;simp [go_sem,F];refine h _ ?_;refine Zh ?_;refine mj (ι:=Bool) [0,1,6] [46] [] (fun i=>[(7,oB i)]) hM ?_ ?_
 ·intro e3 hM K5 hK5;exact au
 ·intro x2 hM;(try dsimp only at hM);exact au
instance:HC 15 (Ty @VU):=⟨VU⟩
theorem X8 (a0:Int) (r:Bool) (hM:Q1 a0=some r):Ctr Try.prog 57 [.one (.int .u8 a0)] true [.one (.bool r)]:=by
 unfold Q1 at hM
 refine Yp Try.func57 Try.ntmps57 Try.results57 fun N w0 hbad F=> ?_
 refine S1 ?_;refine mj (ι:=Bool) [] [] [] (fun i=>[(2,oB i)]) hM ?_ ?_
 ·intro e1 hM K3 hK3;exact au
 ·intro x1 hM;(try dsimp only at hM);exact au
instance:HC 57 (Ty @X8):=⟨X8⟩
theorem Ws (a0:Int) (r:Bool) (hM:Xg a0=some r):Ctr Try.prog 58 [.one (.int .u8 a0)] true [.one (.bool r)]:=by
 unfold Xg at hM
 refine Yp Try.func58 Try.ntmps58 Try.results58 fun N w0 hbad F=> ?_
 refine S1 ?_;refine mj (ι:=Bool) [] [] [] (fun i=>[(2,oB i)]) hM ?_ ?_
 ·intro e1 hM K3 hK3;exact au
 ·intro x1 hM;(try dsimp only at hM);exact au
instance:HC 58 (Ty @Ws):=⟨Ws⟩
theorem UU (k:Nat) (a0:ByteArray) (a1:Int) (r:Int×Bool) (hM:VX k a0 a1=some r):Ctr Try.prog 75 [.one (.str a0),.one (.int .i64 a1)] true [.one (.int .i64 r.1),.one (.bool r.2)]:=by
 unfold VX at hM
 refine Yp Try.func75 Try.ntmps75 Try.results75 fun N w0 hbad F=> ?_
 refine S1 ?_;refine mj (ι:=Bool) [0,1] [] [] (fun i=>[(6,oB i)]) hM ?_ ?_
 ·intro e1 hM K3 hK3;exact au
 ·intro x1 hM;(try dsimp only at hM);refine S1 ?_;refine mj (ι:=ByteArray) [0,1,6] [] [] (fun i=>[(7,oS i)]) hM ?_ ?_
  ·intro e6 hM K8 hK8;exact au
  ·intro x3 hM;(try dsimp only at hM);refine Zk fun K15 hK15=> ?_;refine mj (ι:=Bool) [0,6,7] [] [] (fun i=>[(30,oB i)]) hM ?_ ?_
   ·intro e16 hM K18 hK18;exact au
   ·intro x5 hM;(try dsimp only at hM);refine Zs hM (fun h20 hM=> ?_) (fun h20 hM=> ?_)
    ·have F:=nf F h20;exact au
    ·have F:=nf F h20;refine ZC ?_;refine hK15 _ ?_;refine S1 ?_;refine mjE (ι:=Int) [0,6] [] [] (fun i=>[(8,oI i)]) hM ?_ ?_
     ·intro e21 hM hR1 K23 hK23;refine S1 ?_;refine Zh ?_;refine lp (ι:=Int×Int) [0,6,7] [] [] (fun i=>[(8,oI i.1),(9,oI i.2)]) (fun n i=>Y5 x3 n i.1 i.2=some e21) k (0,0) hM (by simp [Y5]) ?_;intro KL24 nL24 ⟨x7,x8⟩ hL24 hM _;have hM:Y5 x3 (nL24+1) x7 x8=some e21:=hM;rw [Y5] at hM;refine Zk fun K25 hK25=> ?_;refine S1 ?_
      refine Zs hM (fun h26 hM=> ?_) (fun h26 hM=> ?_)
      ·have F:=And.intro (nf F h26) (lT h26);refine ZC ?_;refine hK25 _ ?_;refine Zk fun K27 hK27=> ?_;refine Zh ?_;refine Zk fun K28 hK28=> ?_;refine mj (ι:=Bool) [0,6,7,8,9] [] [] (fun i=>[(46,oB i)]) hM ?_ ?_
       ·intro e29 hM K31 hK31;exact au
       ·intro x9 hM;(try dsimp only at hM);exact au
      ·have F:=And.intro (nf F h26) (lF h26);exact au
     ·intro x6 hM;dsimp only at hM;refine mj (ι:=Int) [0] [] [] (fun i=>[(8,oI i)]) hM ?_ ?_
      ·intro e36 hM K38 hK38;exact au
      ·intro x12 hM;(try dsimp only at hM);exact au
instance:HC 75 (Ty @UU):=⟨UU⟩
theorem Wa (k:Nat) (a0:ByteArray) (r:Int×Bool) (hM:XC k a0=some r):Ctr Try.prog 59 [.one (.str a0)] true [.one (.int .i64 r.1),.one (.bool r.2)]:=by
 unfold XC at hM
 refine Yp Try.func59 Try.ntmps59 Try.results59 fun N w0 hbad F=> ?_
 exact au
instance:HC 59 (Ty @Wa):=⟨Wa⟩
theorem Wg (k:Nat) (a0:ByteArray) (r:Bool) (hM:Qw k a0=some r):Ctr Try.prog 55 [.one (.str a0)] true [.one (.bool r)]:=by
 unfold Qw at hM
 refine Yp Try.func55 Try.ntmps55 Try.results55 fun N w0 hbad F=> ?_
 refine S1 ?_;refine mjE (ι:=Unit) [0] [] [] (fun i=>[]) hM ?_ ?_
 ·intro e1 hM hR1 K3 hK3;refine S1 ?_;refine Zh ?_;refine lp (ι:=Int) [0] [] [] (fun i=>[(3,oI i)]) (fun n i=>Z1 a0 n i=some e1) k 0 hM (by simp [Z1]) ?_;intro KL4 nL4 x1 hL4 hM _;have hM:Z1 a0 (nL4+1) x1=some e1:=hM;rw [Z1] at hM;refine Zk fun K5 hK5=> ?_;refine S1 ?_;refine Zs hM (fun h6 hM=> ?_) (fun h6 hM=> ?_)
  ·have F:=And.intro (nf F h6) (lT h6);refine ZC ?_;refine hK5 _ ?_;refine Zk fun K7 hK7=> ?_;refine Zh ?_;refine mj (ι:=Bool) [0,3] [] [] (fun i=>[(25,oB i)]) hM ?_ ?_
   ·intro e8 hM K10 hK10;exact au
   ·intro x2 hM;(try dsimp only at hM);exact au
  ·have F:=And.intro (nf F h6) (lF h6);exact au
 ·intro _ hM;dsimp only at hM;exact au
instance:HC 55 (Ty @Wg):=⟨Wg⟩
theorem Vv (a0:ByteArray) (a1:Int) (r:Int) (hM:XB a0 a1=some r):Ctr Try.prog 60 [.one (.str a0),.one (.int .i64 a1)] true [.one (.int .i64 r)]:=by
 unfold XB at hM
 refine Yp Try.func60 Try.ntmps60 Try.results60 fun N w0 hbad F=> ?_
 refine S1 ?_;refine Zk fun K1 hK1=> ?_;obtain ⟨x1,e2,hM⟩:=bind_some hM;have F:=And.intro F (Jf e2);refine S1 ?_;refine Zh ?_;refine mj (ι:=Bool) [0,1,7] [] [] (fun i=>[(8,oB i)]) hM ?_ ?_
 ·intro e3 hM K5 hK5;exact au
 ·intro x2 hM;(try dsimp only at hM);refine Zs hM (fun h14 hM=> ?_) (fun h14 hM=> ?_)
  ·have F:=nf F h14;exact au
  ·have F:=nf F h14;refine S1 ?_;refine Zs hM (fun h15 hM=> ?_) (fun h15 hM=> ?_)
   ·have F:=nf F h15;refine Zk fun K16 hK16=> ?_;refine mj (ι:=Bool) [] [] [] (fun i=>[(31,oB i)]) hM ?_ ?_
    ·intro e17 hM K19 hK19;exact au
    ·intro x3 hM;(try dsimp only at hM);exact au
   ·have F:=nf F h15;exact au
instance:HC 60 (Ty @Vv):=⟨Vv⟩
theorem WX (k:Nat) (a0:ByteArray) (a1:Int) (r:Ze×Int) (hM:YW k a0 a1=some r):Ctr Try.prog 45 [.one (.str a0),.one (.int .i64 a1)] true [.agg (Ze.c r.1),.one (.int .i64 r.2)]:=by
 unfold YW at hM
 refine Yp Try.func45 Try.ntmps45 Try.results45 fun N w0 hbad F=> ?_
 refine S1 ?_;refine S1 ?_;refine S1 ?_;refine mjE (ι:=Int×Int×ByteArray×Int) [1,4,6] [4] [] (fun i=>[(7,oI i.2.2.2)]) hM ?_ ?_ (cb:=fun i=>[(6,[cI i.1,cI i.2.1,cI a1,cS i.2.2.1])])
 ·intro e1 hM hR1 K3 hK3;refine Zh ?_;obtain ⟨x5,e4,hM⟩:=bind_some hM;have F:=And.intro F (Jf e4);obtain ⟨x6,e5,hM⟩:=bind_some hM;refine ZH fun K h=> ?_;simp [go_sem,F];refine Uu false (X8 (x5.toNat:Int) x6 e5) ?_;simp [go_sem,F];refine h _ ?_;refine Zs hM (fun h6 hM=> ?_) (fun h6 hM=> ?_)
  ·have F:=nf F h6;refine mj (ι:=Int) [0,1,4,6] [4,6] [] (fun i=>[(7,oI i)]) hM ?_ ?_
   ·intro e7 hM K9 hK9;refine Zh ?_;refine lp (ι:=Int) [0,1,4,6] [4,6] [] (fun i=>[(7,oI i)]) (fun n i=>YT a0 n i=some e7) k a1 hM (by simp [YT]) ?_;intro KL10 nL10 x8 hL10 hM _;have hM:YT a0 (nL10+1) x8=some e7:=hM;rw [YT] at hM;refine Zk fun K11 hK11=> ?_;refine mj (ι:=Bool) [0,1,4,6,7] [4,6] [] (fun i=>[(44,oB i)]) hM ?_ ?_
    ·intro e12 hM K14 hK14;exact au
    ·intro x9 hM;(try dsimp only at hM);exact au
   ·intro x7 hM;(try dsimp only at hM);exact au
  ·have F:=nf F h6;obtain ⟨x14,e27,hM⟩:=bind_some hM;refine ZH fun K h=> ?_;simp [go_sem,F];refine Uu false (Ws (x5.toNat:Int) x14 e27) ?_;simp [go_sem,F];refine h _ ?_;refine Zs hM (fun h28 hM=> ?_) (fun h28 hM=> ?_)
   ·have F:=nf F h28;refine mj (ι:=Int) [0,1,4,6] [4,6] [] (fun i=>[(7,oI i)]) hM ?_ ?_
    ·intro e29 hM K31 hK31;refine Zh ?_;refine lp (ι:=Int) [0,1,4,6] [4,6] [] (fun i=>[(7,oI i)]) (fun n i=>YS a0 n i=some e29) k a1 hM (by simp [YS]) ?_;intro KL32 nL32 x16 hL32 hM _;have hM:YS a0 (nL32+1) x16=some e29:=hM;rw [YS] at hM;refine Zk fun K33 hK33=> ?_;refine mj (ι:=Bool) [0,1,4,6,7] [4,6] [] (fun i=>[(72,oB i)]) hM ?_ ?_
     ·intro e34 hM K36 hK36;exact au
     ·intro x17 hM;(try dsimp only at hM);exact au
    ·intro x15 hM;(try dsimp only at hM);obtain ⟨x20,e41,hM⟩:=bind_some hM;obtain ⟨c42,s43⟩:=JA e41;replace c42:=c42.symm;subst c42;(try simp at s43);have F:=And.intro F s43;obtain ⟨x21,e46,hM⟩:=bind_some hM;refine ZH fun K h=> ?_;simp [go_sem,F];refine Uu false (Wa k (a0.extract a1.toNat x15.toNat) x21 e46) ?_;simp [go_sem,F];refine h _ ?_
     refine S1 ?_;refine S1 ?_;refine mj (ι:=Bool) [1,4,6,7] [4,6] [] (fun i=>[(91,oB i)]) hM ?_ ?_
     ·intro e47 hM K49 hK49;exact au
     ·intro x22 hM;(try dsimp only at hM);exact au
   ·have F:=nf F h28;refine S1 ?_;refine Zs hM (fun h52 hM=> ?_) (fun h52 hM=> ?_)
    ·have F:=nf F h52;refine S1 ?_;refine mj (ι:=Int) [0,1,4,6] [4,6] [] (fun i=>[(7,oI i)]) hM ?_ ?_
     ·intro e53 hM K55 hK55;refine Zh ?_;refine lp (ι:=Int) [0,1,4,6] [4,6] [] (fun i=>[(7,oI i)]) (fun n i=>YR a0 n i=some e53) k (IntKind.i64.wrap (a1+1)) hM (by simp [YR]) ?_;intro KL56 nL56 x24 hL56 hM _;have hM:YR a0 (nL56+1) x24=some e53:=hM;rw [YR] at hM;refine Zk fun K57 hK57=> ?_;refine mj (ι:=Bool) [0,1,4,6,7] [4,6] [] (fun i=>[(109,oB i)]) hM ?_ ?_
      ·intro e58 hM K60 hK60;exact au
      ·intro x25 hM;(try dsimp only at hM);exact au
     ·intro x23 hM;(try dsimp only at hM);refine S1 ?_;obtain ⟨x27,e64,hM⟩:=bind_some hM;obtain ⟨c65,s66⟩:=JA e64;replace c65:=c65.symm;subst c65;(try simp at s66);have F:=And.intro F s66;refine S1 ?_;refine Zk fun K69 hK69=> ?_;refine mj (ι:=Bool) [1,4,6,7] [4,6] [] (fun i=>[(128,oB i)]) hM ?_ ?_
      ·intro e70 hM K72 hK72;exact au
      ·intro x28 hM;(try dsimp only at hM);exact au
    ·have F:=nf F h52;exact au
 ·rintro ⟨x1,x2,x3,x4⟩ hM;dsimp only at hM;exact au
instance:HC 45 (Ty @WX):=⟨WX⟩
end Go.Proofs.Ytneeinggggadpaa
namespace Go.Proofs.Ytneeinggggadpaa
open Go.RowKit Am
set_option maxHeartbeats 4000000
set_option maxRecDepth 100000
theorem X9 (k:Nat) (a0:ByteArray) (r:(List Ze)×Int) (hM:Q4 k a0=some r):Ctr Try.prog 27 [.one (.str a0)] true [.one (.sl (r.1.map Ze.c)),.one (.int .i64 r.2)]:=by
 unfold Q4 at hM
 refine Yp Try.func27 Try.ntmps27 Try.results27 fun N w0 hbad F=> ?_
 refine S1 ?_;refine Zk fun K1 hK1=> ?_;refine S1 ?_;refine Zs hM (fun h2 hM=> ?_) (fun h2 hM=> ?_)
 ·have F:=And.intro (nf F h2) (lT h2);exact au
 ·have F:=And.intro (nf F h2) (lF h2);refine ZC ?_;refine hK1 _ ?_;refine S1 ?_;refine S1 ?_;refine mjE (ι:=List Ze) [] [] [] (fun i=>[(4,oO 768 i.length)]) hM ?_ ?_ (ca:=fun i=>[(768,aT Ze.c i)])
  ·intro e3 hM hR1 K5 hK5;refine Zh ?_;refine lp (ι:=(List Ze)×Int) [0] [] [] (fun i=>[(4,oO 768 i.1.length),(5,oI i.2)]) (fun n i=>ZA k a0 n i.1 i.2=some e3) k (([]:List Ze),0) hM (by simp [ZA]) ?_ (ca:=fun i=>[(768,aT Ze.c i.1)]);intro KL6 nL6 ⟨x2,x3⟩ hL6 hM _;have hM:ZA k a0 (nL6+1) x2 x3=some e3:=hM;rw [ZA] at hM
   refine Zk fun K7 hK7=> ?_;refine S1 ?_;refine Zs hM (fun h8 hM=> ?_) (fun h8 hM=> ?_)
   ·have F:=And.intro (nf F h8) (lT h8);refine ZC ?_;refine hK7 _ ?_;refine Zh ?_;refine Zk fun K9 hK9=> ?_;obtain ⟨x4,e10,hM⟩:=bind_some hM;have F:=And.intro F (Jf e10);refine S1 ?_;refine Zs hM (fun h11 hM=> ?_) (fun h11 hM=> ?_)
    ·have F:=nf F h11;exact au
    ·have F:=nf F h11;refine ZC ?_;refine hK9 _ ?_;obtain ⟨x5,e12,hM⟩:=bind_some hM;refine ZH fun K h=> ?_;simp (maxSteps:=9999999) [go_sem,F];refine Uu false (WX k a0 x3 x5 e12) ?_;simp (maxSteps:=9999999) [go_sem,F];refine h _ ?_;refine Zk fun K13 hK13=> ?_;refine mj (ι:=Bool) [0,4,5,6,7] [6] [768] (fun i=>[(35,oB i)]) hM ?_ ?_
     ·intro e14 hM K16 hK16;exact au
     ·intro x6 hM;(try dsimp only at hM);exact au
   ·have F:=And.intro (nf F h8) (lF h8);exact au
  ·intro x1 hM;dsimp only at hM;exact au
instance:HC 27 (Ty @X9):=⟨X9⟩
theorem Qd (a0:Ze) (a1:ByteArray) (r:Bool) (hM:Qx a0 a1=some r):Ctr Try.prog 61 [.agg (Ze.c a0),.one (.str a1)] true [.one (.bool r)]:=by
 unfold Qx at hM
 refine Yp Try.func61 Try.ntmps61 Try.results61 fun N w0 hbad F=> ?_
 refine S1 ?_;refine mj (ι:=Bool) [] [] [] (fun i=>[(4,oB i)]) hM ?_ ?_
 ·intro e1 hM K3 hK3;exact au
 ·intro x1 hM;(try dsimp only at hM);exact au
instance:HC 61 (Ty @Qd):=⟨Qd⟩
theorem XI (a0:Ze) (a1:ByteArray) (r:Bool) (hM:XJ a0 a1=some r):Ctr Try.prog 62 [.agg (Ze.c a0),.one (.str a1)] true [.one (.bool r)]:=by
 unfold XJ at hM
 refine Yp Try.func62 Try.ntmps62 Try.results62 fun N w0 hbad F=> ?_
 refine S1 ?_;refine mj (ι:=Bool) [] [] [] (fun i=>[(4,oB i)]) hM ?_ ?_
 ·intro e1 hM K3 hK3;exact au
 ·intro x1 hM;(try dsimp only at hM);exact au
instance:HC 62 (Ty @XI):=⟨XI⟩
theorem Yv (a0:Zb) (a1:ByteArray) (r:Bool×Zb) (hM:Zi a0 a1=some r):WR Try.prog 46 [] (Zb.c a0) [.one (.str a1)] true [.one (.bool r.1)] (Zb.c r.2):=by
 unfold Zi at hM
 refine Wd Try.func46 Try.ntmps46 Try.results46 fun N w0 hbad F=> ?_
 refine S1 ?_;refine mj (ι:=Bool) [] [50] [] (fun i=>[(4,oB i)]) hM ?_ ?_
 ·intro e1 hM K3 hK3;rcases ifM hM with ⟨h4,hM⟩| ⟨h4,hM⟩
  ·have F:=And.intro (nf F h4) (lT h4);rcases ifM hM with ⟨h5,hM⟩| ⟨h5,hM⟩
   ·have F:=And.intro (nf F h5) (lT h5);obtain ⟨x2,e6,hM⟩:=bind_some hM;have F:=And.intro F (Jf e6);obtain ⟨x3,e7,hM⟩:=bind_some hM;rcases ifM hM with ⟨h8,hM⟩| ⟨h8,hM⟩
    ·have F:=nf F h8;refine ZV 42 mixed (by kernel_rfl) (by kernel_rfl) ?_;simp [go_sem,F];refine Uu false (Qd x2 a1 x3 e7) ?_;simp [go_sem,F];exact au
    ·have F:=nf F h8;obtain ⟨x4,e9,hM⟩:=bind_some hM;refine ZV 42 mixed (by kernel_rfl) (by kernel_rfl) ?_;simp [go_sem,F];refine Uu false (Qd x2 a1 x3 e7) ?_;simp [go_sem,F];refine Uu false (XI x2 a1 x4 e9) ?_;simp [go_sem,F];exact au
   ·have F:=And.intro (nf F h5) (lF h5);refine ZV 42 mixed (by kernel_rfl) (by kernel_rfl) ?_;simp [go_sem,F];exact au
  ·have F:=And.intro (nf F h4) (lF h4);refine ZV 42 mixed (by kernel_rfl) (by kernel_rfl) ?_;simp [go_sem,F];exact au
 ·intro x1 hM;(try dsimp only at hM);exact au
instance:HC 46 (Ty @Yv):=⟨Yv⟩
theorem VW (k:Nat) (a0:ByteArray) (r:Bool) (hM:WY k a0=some r):Ctr Try.prog 73 [.one (.str a0)] true [.one (.bool r)]:=by
 unfold WY at hM
 refine Yp Try.func73 Try.ntmps73 Try.results73 fun N w0 hbad F=> ?_
 refine S1 ?_;refine mjE (ι:=Unit) [0] [] [] (fun i=>[]) hM ?_ ?_
 ·intro e1 hM hR1 K3 hK3;refine S1 ?_;refine Zh ?_;refine lp (ι:=Int) [0] [] [] (fun i=>[(3,oI i)]) (fun n i=>Y1 a0 n i=some e1) k 0 hM (by simp [Y1]) ?_;intro KL4 nL4 x1 hL4 hM _;have hM:Y1 a0 (nL4+1) x1=some e1:=hM;rw [Y1] at hM;refine Zk fun K5 hK5=> ?_;refine S1 ?_;refine Zs hM (fun h6 hM=> ?_) (fun h6 hM=> ?_)
  ·have F:=And.intro (nf F h6) (lT h6);refine ZC ?_;refine hK5 _ ?_;refine Zk fun K7 hK7=> ?_;refine Zh ?_;refine mj (ι:=Bool) [0,3] [] [] (fun i=>[(4,oB i)]) hM ?_ ?_
   ·intro e8 hM K10 hK10;exact au
   ·intro x2 hM;(try dsimp only at hM);refine mj (ι:=Bool) [0,3,4] [] [] (fun i=>[(5,oB i)]) hM ?_ ?_
    ·intro e13 hM K15 hK15;exact au
    ·intro x4 hM;(try dsimp only at hM);refine mj (ι:=Bool) [0,3] [] [] (fun i=>[(41,oB i)]) hM ?_ ?_
     ·intro e18 hM K20 hK20;exact au
     ·intro x6 hM;(try dsimp only at hM);exact au
  ·have F:=And.intro (nf F h6) (lF h6);exact au
 ·intro _ hM;dsimp only at hM;exact au
instance:HC 73 (Ty @VW):=⟨VW⟩
theorem WH (r:List ByteArray) (hM:YI=some r):Ctr Try.prog 79 [] true [.one (.sl (r.map sC))]:=by
 unfold YI at hM
 refine Yp Try.func79 Try.ntmps79 Try.results79 fun N w0 hbad F=> ?_
 exact au
instance:HC 79 (Ty @WH):=⟨WH⟩
theorem JG (k:Nat) (a0:List ByteArray) (a1:ByteArray) (r:Bool) (hM:Uz k a0 a1=some r):Ctr Try.prog 42 [.one (.sl (a0.map sC)),.one (.str a1)] true [.one (.bool r)]:=by
 unfold Uz at hM
 refine Yp Try.func42 Try.ntmps42 Try.results42 fun N w0 hbad F=> ?_
 refine S1 ?_;refine mjE (ι:=Unit) [] [] [] (fun i=>[]) hM ?_ ?_
 ·intro e1 hM hR1 K3 hK3;refine S1 ?_;refine Zh ?_;refine lp (ι:=Int) [0,1] [] [] (fun i=>[(5,oI i)]) (fun n i=>QP a0 a1 n i=some e1) k 0 hM (by simp [QP]) ?_;intro KL4 nL4 x1 hL4 hM _;have hM:QP a0 a1 (nL4+1) x1=some e1:=hM;rw [QP] at hM;exact au
 ·intro _ hM;dsimp only at hM;exact au
instance:HC 42 (Ty @JG):=⟨JG⟩
theorem WK (k:Nat) (a0:ByteArray) (r:Bool) (hM:Xj k a0=some r):Ctr Try.prog 74 [.one (.str a0)] true [.one (.bool r)]:=by
 unfold Xj at hM
 refine Yp Try.func74 Try.ntmps74 Try.results74 fun N w0 hbad F=> ?_
 exact au
instance:HC 74 (Ty @WK):=⟨WK⟩
theorem Q5 (k:Nat) (a0:ByteArray) (r:Bool) (hM:Ye k a0=some r):Ctr Try.prog 56 [.one (.str a0)] true [.one (.bool r)]:=by
 unfold Ye at hM
 refine Yp Try.func56 Try.ntmps56 Try.results56 fun N w0 hbad F=> ?_
 refine S1 ?_;refine mj (ι:=Bool) [] [] [] (fun i=>[(2,oB i)]) hM ?_ ?_
 ·intro e1 hM K3 hK3;exact au
 ·intro x1 hM;(try dsimp only at hM);exact au
instance:HC 56 (Ty @Q5):=⟨Q5⟩
theorem Xv (a0:Zb) (r:Za×Zb) (hM:Z6 a0=some r):WR Try.prog 29 [] (Zb.c a0) [] true [.agg (Za.c r.1)] (Zb.c r.2):=by
 unfold Z6 at hM
 refine Wd Try.func29 Try.ntmps29 Try.results29 fun N w0 hbad F=> ?_
 refine S1 ?_;refine mj (ι:=Int) [2] [2] [] (fun i=>[]) hM ?_ ?_ (cb:=fun i=>[(40,[cL Ze.c a0.toks,cI a0.i,cI a0.end_,cI i])])
 ·intro e1 hM K3 hK3;refine S1 ?_;refine Zs hM (fun h4 hM=> ?_) (fun h4 hM=> ?_)
  ·have F:=And.intro (nf F h4) (lT h4);refine S1 ?_;refine Zk fun K5 hK5=> ?_;refine ZV 9 mixed (by kernel_rfl) (by kernel_rfl) ?_;simp [go_sem,F];refine hK5 _ ?_;refine Zs hM (fun h6 hM=> ?_) (fun h6 hM=> ?_)
   ·have F:=And.intro (nf F h6) (lT h6);obtain ⟨x2,e7,hM⟩:=bind_some hM;have F:=And.intro F (Jf e7);refine ZV 12 mixed (by kernel_rfl) (by kernel_rfl) ?_;simp [go_sem,F];exact au
   ·have F:=And.intro (nf F h6) (lF h6);exact au
  ·have F:=And.intro (nf F h4) (lF h4);exact au
 ·intro x1 hM;(try dsimp only at hM);exact au
instance:HC 29 (Ty @Xv):=⟨Xv⟩
theorem Xu (k:Nat) (a0:Zb) (r:ByteArray×Zb) (hM:Qb k a0=some r):WR Try.prog 47 [] (Zb.c a0) [] true [.one (.str r.1)] (Zb.c r.2):=by
 unfold Qb at hM
 refine Wd Try.func47 Try.ntmps47 Try.results47 fun N w0 hbad F=> ?_
 refine S1 ?_;refine Zk fun K1 hK1=> ?_;refine mj (ι:=Bool) [0] [71] [] (fun i=>[(48,oB i)]) hM ?_ ?_
 ·intro e2 hM K4 hK4;rcases ifM hM with ⟨h5,hM⟩| ⟨h5,hM⟩
  ·have F:=And.intro (nf F h5) (eT h5);refine ZV 40 mixed (by kernel_rfl) (by kernel_rfl) ?_;simp [go_sem,F];exact au
  ·have F:=And.intro (nf F h5) (eF h5);rcases ifM hM with ⟨h6,hM⟩| ⟨h6,hM⟩
   ·have F:=And.intro (nf F h6) (eT h6);refine ZV 40 mixed (by kernel_rfl) (by kernel_rfl) ?_;simp [go_sem,F];exact au
   ·have F:=And.intro (nf F h6) (eF h6);obtain ⟨x2,e7,hM⟩:=bind_some hM;have F:=And.intro F (Jf e7);rcases ifM hM with ⟨h8,hM⟩| ⟨h8,hM⟩
    ·have F:=nf F h8;refine ZV 40 mixed (by kernel_rfl) (by kernel_rfl) ?_;simp [go_sem,F];exact au
    ·have F:=nf F h8;obtain ⟨x3,e9,hM⟩:=bind_some hM;refine ZV 40 mixed (by kernel_rfl) (by kernel_rfl) ?_;simp [go_sem,F];refine Uu false (Q5 k x2.text x3 e9) ?_;simp [go_sem,F];exact au
 ·intro x1 hM;(try dsimp only at hM);refine Zs hM (fun h10 hM=> ?_) (fun h10 hM=> ?_)
  ·have F:=nf F h10;exact au
  ·have F:=nf F h10;refine ZC ?_;refine hK1 _ ?_;refine S1 ?_;refine Zk fun K12 hK12=> ?_;obtain ⟨x5,e13,hM⟩:=bind_some hM;have F:=And.intro F (Jf e13);refine ZV 9 mixed (by kernel_rfl) (by kernel_rfl) ?_;simp [go_sem,F];exact au
instance:HC 47 (Ty @Xu):=⟨Xu⟩
theorem Yc (a0:Zb) (a1:ByteArray) (r:Zb) (hM:Zo a0 a1=some r):WR Try.prog 48 [] (Zb.c a0) [.one (.str a1)] true [] (Zb.c r):=by
 unfold Zo at hM
 refine Wd Try.func48 Try.ntmps48 Try.results48 fun N w0 hbad F=> ?_
 exact au
instance:HC 48 (Ty @Yc):=⟨Yc⟩
theorem Z0 (a0:Int) (r:Za) (hM:Yr a0=some r):Ctr Try.prog 37 [.one (.int .i64 a0)] true [.agg (Za.c r)]:=by
 unfold Yr at hM
 refine Yp Try.func37 Try.ntmps37 Try.results37 fun N w0 hbad F=> ?_
 exact au
instance:HC 37 (Ty @Z0):=⟨Z0⟩
theorem Ww (a0:ByteArray) (r:Za) (hM:XH a0=some r):Ctr Try.prog 52 [.one (.str a0)] true [.agg (Za.c r)]:=by
 unfold XH at hM
 refine Yp Try.func52 Try.ntmps52 Try.results52 fun N w0 hbad F=> ?_
 exact au
instance:HC 52 (Ty @Ww):=⟨Ww⟩
end Go.Proofs.Ytneeinggggadpaa
