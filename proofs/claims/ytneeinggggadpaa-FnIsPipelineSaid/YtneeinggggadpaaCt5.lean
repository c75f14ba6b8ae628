import Derived.Test.YtneeinggggadpaaJ3
import Derived.Test.YtneeinggggadpaaJ4
import Derived.Test.YtneeinggggadpaaJ7
import Derived.Test.YtneeinggggadpaaJ9
set_option linter.unusedSimpArgs false
set_option linter.unusedVariables false
namespace Go.Proofs.Ytneeinggggadpaa
open Go.RowKit Am
set_option maxHeartbeats 4000000
set_option maxRecDepth 100000
theorem KZ:∀(k:Nat),(∀(a0:Za) (r:Bool) (hM:ZW k a0=some r),Ctr Try.prog 20 [.agg (Za.c a0)] true [.one (.bool r)]):=by
 intro k
 induction k with
 | zero=>intro a0 r hM;simp [ZW] at hM
 | succ k ih_s_l36Pipe=>
  ·intro a0 r hM
   haveI:HC 20 _:=⟨ih_s_l36Pipe⟩;rw [ZW] at hM
   refine Yp Try.func20 Try.ntmps20 Try.results20 fun N w0 hbad F=> ?_
   refine S1 ?_;refine Zk fun K1 hK1=> ?_;refine S1 ?_;refine Zs hM (fun h2 hM=> ?_) (fun h2 hM=> ?_)
   ·have F:=nf F h2;exact au
   ·have F:=nf F h2;refine ZC ?_;refine hK1 _ ?_;obtain ⟨x1,e3,hM⟩:=bind_some hM;refine ZH fun K h=> ?_;simp [go_sem,F];refine Uu false (XE a0.text x1 e3) ?_;simp [go_sem,F];refine h _ ?_;refine Zk fun K4 hK4=> ?_;refine mj (ι:=Bool) [1,3] [1] [] (fun i=>[(18,oB i)]) hM ?_ ?_
    ·intro e5 hM K7 hK7;exact au
    ·intro x2 hM;(try dsimp only at hM);refine Zs hM (fun h9 hM=> ?_) (fun h9 hM=> ?_)
     ·have F:=nf F h9;exact au
     ·have F:=nf F h9;refine ZC ?_;refine hK4 _ ?_;refine mjE (ι:=Unit) [] [] [] (fun i=>[]) hM ?_ ?_
      ·intro e10 hM hR1 K12 hK12;refine S1 ?_;refine Zh ?_;refine lp (ι:=Int) [1,3] [1] [] (fun i=>[(4,oI i)]) (fun n i=>Y0 (ZW k) a0 x1 n i=some e10) k 0 hM (by simp [Y0]) ?_;intro KL13 nL13 x3 hL13 hM _;have hM:Y0 (ZW k) a0 x1 (nL13+1) x3=some e10:=hM;rw [Y0] at hM;refine Zk fun K14 hK14=> ?_;refine S1 ?_
       refine Zs hM (fun h15 hM=> ?_) (fun h15 hM=> ?_)
       ·have F:=And.intro (nf F h15) (lT h15);refine ZC ?_;refine hK14 _ ?_;refine Zk fun K16 hK16=> ?_;refine Zh ?_;obtain ⟨x4,e17,hM⟩:=bind_some hM;have F:=And.intro F (Jf e17);refine S1 ?_;refine mj (ι:=Bool) [1,3,4] [1] [] (fun i=>[(61,oB i)]) hM ?_ ?_
        ·intro e18 hM K20 hK20;exact au
        ·intro x5 hM;(try dsimp only at hM);exact au
       ·have F:=And.intro (nf F h15) (lF h15);exact au
      ·intro _ hM;dsimp only at hM;exact au
theorem VV (k:Nat):∀(a0:Za) (r:Bool) (hM:ZW k a0=some r),Ctr Try.prog 20 [.agg (Za.c a0)] true [.one (.bool r)]:=(KZ k)
instance:HC 20 (Ty @VV):=⟨VV⟩
theorem Xp (k:Nat) (a0:Za) (r:Bool) (hM:Qm k a0=some r):Ctr Try.prog 7 [.agg (Za.c a0)] true [.one (.bool r)]:=by
 unfold Qm at hM
 refine Yp Try.func7 Try.ntmps7 Try.results7 fun N w0 hbad F=> ?_
 refine S1 ?_;refine mj (ι:=Bool) [] [] [] (fun i=>[(2,oB i)]) hM ?_ ?_
 ·intro e1 hM K3 hK3;exact au
 ·intro x1 hM;(try dsimp only at hM);exact au
instance:HC 7 (Ty @Xp):=⟨Xp⟩
theorem JI:∀(k:Nat),(∀(a0:Za) (r:Bool) (hM:ZS k a0=some r),Ctr Try.prog 8 [.agg (Za.c a0)] true [.one (.bool r)]):=by
 intro k
 induction k with
 | zero=>intro a0 r hM;simp [ZS] at hM
 | succ k ih_s_HasEffect=>
  ·intro a0 r hM
   haveI:HC 8 _:=⟨ih_s_HasEffect⟩;rw [ZS] at hM
   refine Yp Try.func8 Try.ntmps8 Try.results8 fun N w0 hbad F=> ?_
   refine S1 ?_;refine Zk fun K1 hK1=> ?_;refine mj (ι:=Bool) [1] [1] [] (fun i=>[(21,oB i)]) hM ?_ ?_
   ·intro e2 hM K4 hK4;exact au
   ·intro x1 hM;(try dsimp only at hM);refine Zs hM (fun h8 hM=> ?_) (fun h8 hM=> ?_)
    ·have F:=nf F h8;exact au
    ·have F:=nf F h8;refine ZC ?_;refine hK1 _ ?_;refine mjE (ι:=Unit) [] [] [] (fun i=>[]) hM ?_ ?_
     ·intro e9 hM hR1 K11 hK11;refine S1 ?_;refine Zh ?_;refine lp (ι:=Int) [1] [1] [] (fun i=>[(3,oI i)]) (fun n i=>Yf (ZS k) a0 n i=some e9) k 0 hM (by simp [Yf]) ?_;intro KL12 nL12 x2 hL12 hM _;have hM:Yf (ZS k) a0 (nL12+1) x2=some e9:=hM;rw [Yf] at hM;exact au
     ·intro _ hM;dsimp only at hM;exact au
theorem W6 (k:Nat):∀(a0:Za) (r:Bool) (hM:ZS k a0=some r),Ctr Try.prog 8 [.agg (Za.c a0)] true [.one (.bool r)]:=(JI k)
instance:HC 8 (Ty @W6):=⟨W6⟩
theorem Kg:∀(k:Nat),(∀(a0:Za) (r:List ByteArray) (hM:Yq k a0=some r),Ctr Try.prog 22 [.agg (Za.c a0)] true [.one (.sl (r.map sC))]):=by
 intro k
 induction k with
 | zero=>intro a0 r hM;simp [Yq] at hM
 | succ k ih_s_l13Bound=>
  ·intro a0 r hM
   haveI:HC 22 _:=⟨ih_s_l13Bound⟩;rw [Yq] at hM
   refine Yp Try.func22 Try.ntmps22 Try.results22 fun N w0 hbad F=> ?_
   refine S1 ?_;refine S1 ?_;refine mj (ι:=List ByteArray) [1] [1] [] (fun i=>[(3,oO 320 i.length)]) hM ?_ ?_ (ca:=fun i=>[(320,aT sC i)])
   ·intro e1 hM K3 hK3;refine mj (ι:=Bool) [1,3] [1] [320] (fun i=>[(13,oB i)]) hM ?_ ?_
    ·intro e4 hM K6 hK6;exact au
    ·intro x2 hM;(try dsimp only at hM);exact au
   ·intro x1 hM;(try dsimp only at hM);refine mj (ι:=List ByteArray) [] [] [] (fun i=>[(3,oO 320 i.length)]) hM ?_ ?_ (ca:=fun i=>[(320,aT sC i)])
    ·intro e13 hM K15 hK15;refine S1 ?_;refine Zh ?_;refine lp (ι:=(List ByteArray)×Int) [1] [1] [] (fun i=>[(3,oO 320 i.1.length),(4,oI i.2)]) (fun n i=>Yb (Yq k) a0 n i.1 i.2=some e13) k (x1,0) hM (by simp [Yb]) ?_ (ca:=fun i=>[(320,aT sC i.1)]);intro KL16 nL16 ⟨x5,x6⟩ hL16 hM _;have hM:Yb (Yq k) a0 (nL16+1) x5 x6=some e13:=hM
     rw [Yb] at hM;exact au
    ·intro x4 hM;(try dsimp only at hM);exact au
theorem Vw (k:Nat):∀(a0:Za) (r:List ByteArray) (hM:Yq k a0=some r),Ctr Try.prog 22 [.agg (Za.c a0)] true [.one (.sl (r.map sC))]:=(Kg k)
instance:HC 22 (Ty @Vw):=⟨Vw⟩
theorem W3 (k:Nat) (a0:List ByteArray) (r:List ByteArray) (hM:QM k a0=some r):Ctr Try.prog 21 [.one (.sl (a0.map sC))] true [.one (.sl (r.map sC))]:=by
 unfold QM at hM
 refine Yp Try.func21 Try.ntmps21 Try.results21 fun N w0 hbad F=> ?_
 refine S1 ?_;refine S1 ?_;refine mj (ι:=List ByteArray) [] [] [] (fun i=>[(3,oO 448 i.length)]) hM ?_ ?_ (ca:=fun i=>[(448,aT sC i)])
 ·intro e1 hM K3 hK3;refine S1 ?_;refine Zh ?_;refine lp (ι:=(List ByteArray)×Int) [0] [] [] (fun i=>[(3,oO 448 i.1.length),(4,oI i.2)]) (fun n i=>YA k a0 n i.1 i.2=some e1) k (([]:List ByteArray),0) hM (by simp [YA]) ?_ (ca:=fun i=>[(448,aT sC i.1)]);intro KL4 nL4 ⟨x2,x3⟩ hL4 hM _;have hM:YA k a0 (nL4+1) x2 x3=some e1:=hM
  rw [YA] at hM;refine Zk fun K5 hK5=> ?_;refine S1 ?_;refine Zs hM (fun h6 hM=> ?_) (fun h6 hM=> ?_)
  ·have F:=And.intro (nf F h6) (lT h6);refine ZC ?_;refine hK5 _ ?_;refine mj (ι:=List ByteArray) [0,4] [] [] (fun i=>[(3,oO 448 i.length)]) hM ?_ ?_ (ca:=fun i=>[(448,aT sC i)])
   ·intro e7 hM K9 hK9;refine Zh ?_;refine S1 ?_;refine mj (ι:=Int) [0,3,4] [] [448] (fun i=>[(5,oI i)]) hM ?_ ?_
    ·intro e10 hM K12 hK12;refine Zh ?_;refine lp (ι:=Int) [0,3,4] [] [448] (fun i=>[(5,oI i)]) (fun n i=>Yz a0 x2 x3 n i=some e10) k 0 hM (by simp [Yz]) ?_;intro KL13 nL13 x6 hL13 hM _;have hM:Yz a0 x2 x3 (nL13+1) x6=some e10:=hM;rw [Yz] at hM;refine Zk fun K14 hK14=> ?_;refine mj (ι:=Bool) [0,3,4,5] [] [448] (fun i=>[(28,oB i)]) hM ?_ ?_
     ·intro e15 hM K17 hK17;rcases ifM hM with ⟨h18,hM⟩| ⟨h18,hM⟩
      ·have F:=And.intro (nf F h18) (lT h18);obtain ⟨x8,e19,hM⟩:=bind_some hM;have F:=And.intro F (Jf e19);have F:=And.intro F (Zi5 e19);obtain ⟨x9,e20,hM⟩:=bind_some hM;have F:=And.intro F (Jf e20);refine ZV 13 mixed (by kernel_rfl) (by kernel_rfl) ?_;simp [go_sem,F];exact au
      ·have F:=And.intro (nf F h18) (lF h18);refine ZV 13 mixed (by kernel_rfl) (by kernel_rfl) ?_;simp [go_sem,F];exact au
     ·intro x7 hM;(try dsimp only at hM);exact au
    ·intro x5 hM;(try dsimp only at hM);refine Zk fun K22 hK22=> ?_;refine mj (ι:=Bool) [0,3,4,5] [] [448] (fun i=>[(45,oB i)]) hM ?_ ?_
     ·intro e23 hM K25 hK25;rcases ifM hM with ⟨h26,hM⟩| ⟨h26,hM⟩
      ·have F:=And.intro (nf F h26) (lT h26);obtain ⟨x11,e27,hM⟩:=bind_some hM;have F:=And.intro F (Jf e27);have F:=And.intro F (Zi5 e27);obtain ⟨x12,e28,hM⟩:=bind_some hM;have F:=And.intro F (Jf e28);refine ZV 13 mixed (by kernel_rfl) (by kernel_rfl) ?_;simp [go_sem,F];exact au
      ·have F:=And.intro (nf F h26) (lF h26);refine ZV 13 mixed (by kernel_rfl) (by kernel_rfl) ?_;simp [go_sem,F];exact au
     ·intro x10 hM;(try dsimp only at hM);refine Zs hM (fun h29 hM=> ?_) (fun h29 hM=> ?_)
      ·have F:=nf F h29;exact au
      ·have F:=nf F h29;refine ZC ?_;refine hK22 _ ?_;obtain ⟨x13,e30,hM⟩:=bind_some hM;obtain ⟨c31,s32⟩:=ZdO e30;replace c31:=c31.symm;subst c31;(try simp at s32);have F:=And.intro F s32;obtain ⟨x14,e37,hM⟩:=bind_some hM;obtain ⟨c38,s39⟩:=QX e37;replace c38:=c38.symm;subst c38;(try simp [F] at s39);have F:=And.intro F s39;refine S1 ?_;refine le1 [0,3,4,5,6] [] [448] ?_ (ca:=[(2944,aT sC (([]:List ByteArray)++((x2.take (x2.length:Int).toNat).drop x5.toNat)))])
       obtain ⟨x15,e41,hM⟩:=bind_some hM;obtain ⟨c42,s43⟩:=ZdO e41;replace c42:=c42.symm;subst c42;(try simp at s43);have F:=And.intro F s43;obtain ⟨x16,e48,hM⟩:=bind_some hM;have F:=And.intro F (Jf e48);obtain ⟨x17,e49,hM⟩:=bind_some hM;obtain ⟨c50,s51⟩:=QX e49;replace c50:=c50.symm;subst c50;(try simp [F] at s51);have F:=And.intro F s51
       obtain ⟨x18,e53,hM⟩:=bind_some hM;obtain ⟨c54,s55⟩:=QX e53;replace c54:=c54.symm;subst c54;(try simp [F] at s55);have F:=And.intro F s55;refine Qs [[],[],[0,1],[],[],[3,4],[3,4,5],[3,4,5,6],[0,1,2,3,4,5,6,7],[10000448],[0,1,2,3,4,5,6,7,8,9],[0,1,2,3,4,5,6,7,8,9,10]] mixed (by kernel_rfl) ?_;simp [go_sem,F];refine ⟨ZU (by kernel_rfl), ?_⟩
       obtain rfl:=si hM;exact fr hK9 [(3776,448)] [0,3,4] [] [3776] ((((x2.take x5.toNat).drop (0:Int).toNat)++[x16])++(([]:List ByteArray)++((x2.take (x2.length:Int).toNat).drop x5.toNat))) rfl (h:=by constructor<;>simp [go_sem,St.ZgE,F]<;>omega)
   ·intro x4 hM;(try dsimp only at hM);exact au
  ·have F:=And.intro (nf F h6) (lF h6);exact au
 ·intro x1 hM;(try dsimp only at hM);exact au
instance:HC 21 (Ty @W3):=⟨W3⟩
theorem WL (k:Nat) (a0:Za) (r:List ByteArray) (hM:Xk k a0=some r):Ctr Try.prog 9 [.agg (Za.c a0)] true [.one (.sl (r.map sC))]:=by
 unfold Xk at hM
 refine Yp Try.func9 Try.ntmps9 Try.results9 fun N w0 hbad F=> ?_
 exact au
instance:HC 9 (Ty @WL):=⟨WL⟩
theorem K0:∀(k:Nat),(∀(a0:Za) (a1:List ByteArray) (r:List ByteArray) (hM:Ym k a0 a1=some r),Ctr Try.prog 23 [.agg (Za.c a0),.one (.sl (a1.map sC))] true [.one (.sl (r.map sC))]):=by
 intro k
 induction k with
 | zero=>intro a0 a1 r hM;simp [Ym] at hM
 | succ k ih_s_l13Free=>
  ·intro a0 a1 r hM
   haveI:HC 23 _:=⟨ih_s_l13Free⟩;rw [Ym] at hM
   refine Yp Try.func23 Try.ntmps23 Try.results23 fun N w0 hbad F=> ?_
   refine S1 ?_;refine S1 ?_;refine Zk fun K1 hK1=> ?_;refine mj (ι:=Bool) [1,2,5] [2] [512] (fun i=>[(18,oB i)]) hM ?_ ?_
   ·intro e2 hM K4 hK4;exact au
   ·intro x1 hM;(try dsimp only at hM);refine Zs hM (fun h7 hM=> ?_) (fun h7 hM=> ?_)
    ·have F:=nf F h7;exact au
    ·have F:=nf F h7;refine ZC ?_;refine hK1 _ ?_;refine mj (ι:=List ByteArray) [] [] [] (fun i=>[(5,oO 512 i.length)]) hM ?_ ?_ (ca:=fun i=>[(512,aT sC i)])
     ·intro e12 hM K14 hK14;refine S1 ?_;refine Zh ?_;refine lp (ι:=(List ByteArray)×Int) [1,2] [2] [] (fun i=>[(5,oO 512 i.1.length),(6,oI i.2)]) (fun n i=>Yx (Ym k) a0 a1 n i.1 i.2=some e12) k (([]:List ByteArray),0) hM (by simp [Yx]) ?_ (ca:=fun i=>[(512,aT sC i.1)]);intro KL15 nL15 ⟨x5,x6⟩ hL15 hM _;have hM:Yx (Ym k) a0 a1 (nL15+1) x5 x6=some e12:=hM
      rw [Yx] at hM;refine Zk fun K16 hK16=> ?_;refine S1 ?_;refine Zs hM (fun h17 hM=> ?_) (fun h17 hM=> ?_)
      ·have F:=And.intro (nf F h17) (lT h17);refine ZC ?_;refine hK16 _ ?_;refine Zk fun K18 hK18=> ?_;refine Zh ?_;refine S1 ?_;refine mj (ι:=List ByteArray) [1,2,5,6] [2] [512] (fun i=>[(7,oL sC i)]) hM ?_ ?_
       ·intro e19 hM K21 hK21;refine mj (ι:=Bool) [1,2,5,6,7] [2] [512] (fun i=>[(43,oB i)]) hM ?_ ?_
        ·intro e22 hM K24 hK24;exact au
        ·intro x8 hM;(try dsimp only at hM);refine Zs hM (fun h27 hM=> ?_) (fun h27 hM=> ?_)
         ·have F:=nf F h27;refine le1 [1,2,5,6] [2] [512] ?_;obtain ⟨x9,e28,hM⟩:=bind_some hM;obtain ⟨c29,s30⟩:=QX e28;replace c29:=c29.symm;subst c29;(try simp at s30);have F:=And.intro F s30;obtain ⟨x10,e32,hM⟩:=bind_some hM;obtain ⟨c33,s34⟩:=QX e32;replace c33:=c33.symm;subst c33;(try simp at s34);have F:=And.intro F s34;refine Qs [[],[],[0,1],[10002816],[3],[3,4],[0,1,2,3,4,5],[0,1,2,3,4,5,6]] mixed (by kernel_rfl) ?_
          simp [go_sem,F];refine ⟨ZU (by kernel_rfl), ?_⟩;exact au
         ·have F:=nf F h27;exact au
       ·intro x7 hM;(try dsimp only at hM);exact au
      ·have F:=And.intro (nf F h17) (lF h17);exact au
     ·intro x4 hM;(try dsimp only at hM);exact au
theorem VY (k:Nat):∀(a0:Za) (a1:List ByteArray) (r:List ByteArray) (hM:Ym k a0 a1=some r),Ctr Try.prog 23 [.agg (Za.c a0),.one (.sl (a1.map sC))] true [.one (.sl (r.map sC))]:=(K0 k)
instance:HC 23 (Ty @VY):=⟨VY⟩
theorem W7 (k:Nat) (a0:Za) (r:List ByteArray) (hM:XK k a0=some r):Ctr Try.prog 10 [.agg (Za.c a0)] true [.one (.sl (r.map sC))]:=by
 unfold XK at hM
 refine Yp Try.func10 Try.ntmps10 Try.results10 fun N w0 hbad F=> ?_
 exact au
instance:HC 10 (Ty @W7):=⟨W7⟩
end Go.Proofs.Ytneeinggggadpaa
