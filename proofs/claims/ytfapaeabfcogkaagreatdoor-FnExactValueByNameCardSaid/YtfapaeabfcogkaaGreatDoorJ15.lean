import Derived.Test.YtfapaeabfcogkaaGreatDoorJ6
import Derived.Test.YtfapaeabfcogkaaGreatDoorJ7
import Derived.Test.YtfapaeabfcogkaaGreatDoorJ13
import Derived.Test.YtfapaeabfcogkaaGreatDoorJ14
set_option linter.unusedSimpArgs false
set_option linter.unusedVariables false
namespace Go.Proofs.YtfapaeabfcogkaaGreatDoor
open Go.RowKit Am
set_option maxHeartbeats 4000000
set_option maxRecDepth 100000
theorem U0 (k:Nat) (a0:ByteArray) (r:Zb×Int) (hM:Wi k a0=some r):Ctr Tryz.prog 174 [.one (.str a0)] false [.agg (Zb.c r.1),.one (.int .i64 r.2)]:=by
 unfold Wi at hM
 refine Zr Tryz.func174 Tryz.ntmps174 Tryz.results174 fun N w0 hbad F=> ?_
 refine S1 ?_;obtain ⟨x1,e1,hM⟩:=bind_some hM;refine Zw fun K h=> ?_;simp [go_sem,F];refine Qb false (JG k a0 x1 e1) ?_;simp [go_sem,F];refine h _ ?_;refine Zh fun K2 hK2=> ?_;refine S1 ?_;refine Zp hM (fun h3 hM=> ?_) (fun h3 hM=> ?_)
 ·have F:=And.intro (nf F h3) (eT h3);exact au
 ·have F:=And.intro (nf F h3) (eF h3);refine Zl ?_;refine hK2 _ ?_;refine S1 ?_;refine le1 [0,2,6] [2] [] ?_ (ch:=[(4,oL Zi.c x1.1)]) (cb:=[(19,[cL Zi.c x1.1,cI 0,cI (-1)])]);obtain ⟨x2,e4,hM⟩:=bind_some hM;refine Zw fun K h=> ?_;simp [go_sem,F];refine ZH 0 (VK k (Zf.mk x1.1 0 (-1)) x2 e4) ?_;simp [go_sem,F];refine h _ ?_;refine mj (ι:=Int) [0,2,4,6,7] [2,7] [] (fun i=>[]) hM ?_ ?_ (cb:=fun i=>[(19,[cL Zi.c x2.2.list,cI x2.2.at_,cI i])])
  ·intro e5 hM K7 hK7;refine mj (ι:=Bool) [0,2,4,6,7] [2,7,19] [] (fun i=>[(35,oB i)]) hM ?_ ?_
   ·intro e8 hM K10 hK10;exact au
   ·intro x4 hM;(try dsimp only at hM);exact au
  ·intro x3 hM;(try dsimp only at hM);refine Zh fun K13 hK13=> ?_;refine S1 ?_;refine Zp hM (fun h14 hM=> ?_) (fun h14 hM=> ?_)
   ·have F:=And.intro (nf F h14) (eT h14);exact au
   ·have F:=And.intro (nf F h14) (eF h14);refine Zl ?_;refine hK13 _ ?_;refine Zh fun K15 hK15=> ?_;refine S1 ?_;refine Zp hM (fun h16 hM=> ?_) (fun h16 hM=> ?_)
    ·have F:=And.intro (nf F h16) (eT h16);refine Zh fun K17 hK17=> ?_;refine le1 [2,4,6] [2,19] [] ?_;obtain ⟨x5,e18,hM⟩:=bind_some hM;have F:=And.intro F (Vs e18);refine ZT [[],[1000002],[1000002],[2,1000002],[2,3,1000002],[2,3,4,1000002],[1,2,3,4,5,1000002],[1,2,3,4,5,6,1000002],[1,2,3,4,5,6,7,1000002],[0],[0,1,2,3,4,5,6,7,8,9]] mixed (by kernel_rfl) ?_
     simp [go_sem,F];refine ⟨Zu (by kernel_rfl), ?_⟩;exact au
    ·have F:=And.intro (nf F h16) (eF h16);exact au
instance:HC 174 (Ty @U0):=⟨U0⟩
theorem WT (a0:Int) (r:Za) (hM:Wn a0=some r):Ctr Tryz.prog 105 [.one (.int .i64 a0)] true [.agg (Za.c r)]:=by
 unfold Wn at hM
 refine Zr Tryz.func105 Tryz.ntmps105 Tryz.results105 fun N w0 hbad F=> ?_
 exact au
instance:HC 105 (Ty @WT):=⟨WT⟩
theorem Wh (a0:ByteArray) (a1:Int) (r:List ByteArray) (hM:WW a0 a1=some r):Ctr Tryz.prog 236 [.one (.str a0),.one (.int .u8 a1)] true [.one (.sl (r.map sC))]:=by
 unfold WW at hM
 refine Zr Tryz.func236 Tryz.ntmps236 Tryz.results236 fun N w0 hbad F=> ?_
 exact au
instance:HC 236 (Ty @Wh):=⟨Wh⟩
theorem Kw (k:Nat) (a0:ByteArray) (a1:Int) (r:(List Int)×Bool) (hM:V3 k a0 a1=some r):Ctr Tryz.prog 237 [.one (.str a0),.one (.int .i64 a1)] true [.one (.sl (r.1.map iC)),.one (.bool r.2)]:=by
 unfold V3 at hM
 refine Zr Tryz.func237 Tryz.ntmps237 Tryz.results237 fun N w0 hbad F=> ?_
 refine S1 ?_;obtain ⟨x1,e1,hM⟩:=bind_some hM;refine Zw fun K h=> ?_;simp [go_sem,F];refine Qb false (Wh a0 32 x1 e1) ?_;simp [go_sem,F];refine h _ ?_;refine S1 ?_;refine mjE (ι:=List Int) [1] [] [] (fun i=>[(7,oO 896 i.length)]) hM ?_ ?_ (ca:=fun i=>[(896,aT iC i)])
 ·intro e2 hM hR1 K4 hK4;refine S1 ?_;refine Zg ?_;refine lp (ι:=(List Int)×Int) [1,15,16] [] [832] (fun i=>[(7,oO 896 i.1.length),(17,oI i.2)]) (fun n i=>Yo x1 n i.1 i.2=some e2) k (([]:List Int),0) hM (by simp [Yo]) ?_ (ca:=fun i=>[(896,aT iC i.1)]);intro KL5 nL5 ⟨x3,x4⟩ hL5 hM _;have hM:Yo x1 (nL5+1) x3 x4=some e2:=hM;rw [Yo] at hM
  exact au
 ·intro x2 hM;dsimp only at hM;exact au
instance:HC 237 (Ty @Kw):=⟨Kw⟩
theorem Zby (a0:Int) (r:Bool) (hM:XO a0=some r):Ctr Tryz.prog 278 [.one (.int .i64 a0)] true [.one (.bool r)]:=by
 unfold XO at hM
 refine Zr Tryz.func278 Tryz.ntmps278 Tryz.results278 fun N w0 hbad F=> ?_
 exact au
instance:HC 278 (Ty @Zby):=⟨Zby⟩
theorem ZcW (k:Nat) (a0:List ByteArray) (a1:ByteArray) (r:Int) (hM:ZaK k a0 a1=some r):Ctr Tryz.prog 85 [.one (.sl (a0.map sC)),.one (.str a1)] true [.one (.int .i64 r)]:=by
 unfold ZaK at hM
 refine Zr Tryz.func85 Tryz.ntmps85 Tryz.results85 fun N w0 hbad F=> ?_
 refine S1 ?_;refine mjE (ι:=Unit) [] [] [] (fun i=>[]) hM ?_ ?_
 ·intro e1 hM hR1 K3 hK3;refine S1 ?_;refine Zg ?_;refine lp (ι:=Int) [1,7,8] [] [] (fun i=>[(9,oI i)]) (fun n i=>Qu a0 a1 n i=some e1) k 0 hM (by simp [Qu]) ?_;intro KL4 nL4 x1 hL4 hM _;have hM:Qu a0 a1 (nL4+1) x1=some e1:=hM;rw [Qu] at hM;exact au
 ·intro _ hM;dsimp only at hM;exact au
instance:HC 85 (Ty @ZcW):=⟨ZcW⟩
theorem J7 (k:Nat) (a0:List ByteArray) (r:Bool) (hM:Vn k a0=some r):Ctr Tryz.prog 282 [.one (.sl (a0.map sC))] true [.one (.bool r)]:=by
 unfold Vn at hM
 refine Zr Tryz.func282 Tryz.ntmps282 Tryz.results282 fun N w0 hbad F=> ?_
 refine S1 ?_;refine mjE (ι:=Unit) [] [] [] (fun i=>[]) hM ?_ ?_
 ·intro e1 hM hR1 K3 hK3;refine S1 ?_;refine Zg ?_;refine lp (ι:=Int) [0,5,6] [] [] (fun i=>[(7,oI i)]) (fun n i=>Ye k a0 n i=some e1) k 0 hM (by simp [Ye]) ?_;intro KL4 nL4 x1 hL4 hM _;have hM:Ye k a0 (nL4+1) x1=some e1:=hM;rw [Ye] at hM;exact au
 ·intro _ hM;dsimp only at hM;exact au
instance:HC 282 (Ty @J7):=⟨J7⟩
theorem Ud (k:Nat) (a0:List ByteArray) (r:Bool) (hM:W4 k a0=some r):Ctr Tryz.prog 239 [.one (.sl (a0.map sC))] true [.one (.bool r)]:=by
 unfold W4 at hM
 refine Zr Tryz.func239 Tryz.ntmps239 Tryz.results239 fun N w0 hbad F=> ?_
 refine S1 ?_;refine mjE (ι:=Unit) [0] [] [] (fun i=>[]) hM ?_ ?_
 ·intro e1 hM hR1 K3 hK3;refine S1 ?_;refine Zg ?_;refine lp (ι:=Int) [0,5,6] [] [] (fun i=>[(7,oI i)]) (fun n i=>Y5 k a0 n i=some e1) k 0 hM (by simp [Y5]) ?_;intro KL4 nL4 x1 hL4 hM _;have hM:Y5 k a0 (nL4+1) x1=some e1:=hM;rw [Y5] at hM;exact au
 ·intro _ hM;dsimp only at hM;refine mj (ι:=Bool) [] [] [] (fun i=>[(2,oB i)]) hM ?_ ?_
  ·intro e11 hM K13 hK13;exact au
  ·intro x4 hM;(try dsimp only at hM);exact au
instance:HC 239 (Ty @Ud):=⟨Ud⟩
theorem Vk (a0:Zc) (a1:Zc) (r:Bool) (hM:Q8 a0 a1=some r):Ctr Tryz.prog 325 [.agg (Zc.c a0),.agg (Zc.c a1)] true [.one (.bool r)]:=by
 unfold Q8 at hM
 refine Zr Tryz.func325 Tryz.ntmps325 Tryz.results325 fun N w0 hbad F=> ?_
 refine S1 ?_;refine mj (ι:=Bool) [] [] [] (fun i=>[(4,oB i)]) hM ?_ ?_
 ·intro e1 hM K3 hK3;exact au
 ·intro x1 hM;(try dsimp only at hM);exact au
instance:HC 325 (Ty @Vk):=⟨Vk⟩
theorem ZcT (k:Nat) (a0:Za) (r:Bool) (hM:ZaG k a0=some r):Ctr Tryz.prog 280 [.agg (Za.c a0)] true [.one (.bool r)]:=by
 unfold ZaG at hM
 refine Zr Tryz.func280 Tryz.ntmps280 Tryz.results280 fun N w0 hbad F=> ?_
 refine S1 ?_;refine Zh fun K1 hK1=> ?_;refine mj (ι:=Bool) [1] [1] [] (fun i=>[(18,oB i)]) hM ?_ ?_
 ·intro e2 hM K4 hK4;exact au
 ·intro x1 hM;(try dsimp only at hM);refine Zp hM (fun h7 hM=> ?_) (fun h7 hM=> ?_)
  ·have F:=nf F h7;exact au
  ·have F:=nf F h7;refine Zl ?_;refine hK1 _ ?_;refine mjE (ι:=Unit) [] [] [] (fun i=>[]) hM ?_ ?_
   ·intro e8 hM hR1 K10 hK10;refine S1 ?_;refine Zg ?_;refine lp (ι:=Int) [1,20,21] [1] [] (fun i=>[(22,oI i)]) (fun n i=>Y3 k a0 n i=some e8) k 0 hM (by simp [Y3]) ?_;intro KL11 nL11 x3 hL11 hM _;have hM:Y3 k a0 (nL11+1) x3=some e8:=hM;rw [Y3] at hM;refine S1 ?_;refine Zh fun K12 hK12=> ?_;refine Zp hM (fun h13 hM=> ?_) (fun h13 hM=> ?_)
    ·have F:=And.intro (nf F h13) (lT h13);refine Zl ?_;refine hK12 _ ?_;refine mjE (ι:=Unit) [1,20,21,22] [1] [] (fun i=>[]) hM ?_ ?_
     ·intro e14 hM hR2 K16 hK16;refine Zg ?_;obtain ⟨x4,e17,hM⟩:=bind_some hM;have F:=And.intro F (Vs e17);refine S1 ?_;refine Zh fun K18 hK18=> ?_;refine S1 ?_;refine Zp hM (fun h19 hM=> ?_) (fun h19 hM=> ?_)
      ·have F:=nf F h19;exact au
      ·have F:=nf F h19;refine Zl ?_;refine hK18 _ ?_;refine mjE (ι:=Unit) [1,4,20,21,22] [1,4] [] (fun i=>[]) hM ?_ ?_
       ·intro e20 hM hR3 K22 hK22;refine S1 ?_;refine Zg ?_;refine lp (ι:=Int) [1,4,20,21,22,34,35] [1,4] [] (fun i=>[(36,oI i)]) (fun n i=>QU x4 n i=some e20) k 0 hM (by simp [QU]) ?_;intro KL23 nL23 x5 hL23 hM _;have hM:QU x4 (nL23+1) x5=some e20:=hM;rw [QU] at hM;exact au
       ·intro _ hM;dsimp only at hM;refine S1 ?_;refine Zg ?_;refine lp (ι:=Int) [1,4,20,21,22,45,46] [1,4] [] (fun i=>[(47,oI i)]) (fun n i=>QT x4 n i=some e14) k 0 hM (by simp [QT]) ?_;intro KL30 nL30 x8 hL30 hM _;have hM:QT x4 (nL30+1) x8=some e14:=hM;rw [QT] at hM;refine S1 ?_;refine Zh fun K31 hK31=> ?_
        refine Zp hM (fun h32 hM=> ?_) (fun h32 hM=> ?_)
        ·have F:=And.intro (nf F h32) (lT h32);refine Zl ?_;refine hK31 _ ?_;refine Zh fun K33 hK33=> ?_;refine Zg ?_;obtain ⟨x9,e34,hM⟩:=bind_some hM;have F:=And.intro F (Vs e34);refine S1 ?_;refine mj (ι:=Bool) [1,4,20,21,22,45,46,47] [1,4] [] (fun i=>[(74,oB i)]) hM ?_ ?_
         ·intro e35 hM K37 hK37;rcases ifM hM with ⟨h38,hM⟩| ⟨h38,hM⟩
          ·have F:=And.intro (nf F h38) (lT h38);refine ZD 19 mixed (by kernel_rfl) (by kernel_rfl) ?_;simp [go_sem,F];exact au
          ·have F:=And.intro (nf F h38) (lF h38);rcases ifM hM with ⟨h39,hM⟩| ⟨h39,hM⟩
           ·have F:=And.intro (nf F h39) (lT h39);refine ZD 19 mixed (by kernel_rfl) (by kernel_rfl) ?_;simp [go_sem,F];exact au
           ·have F:=And.intro (nf F h39) (lF h39);rcases ifM hM with ⟨h40,hM⟩| ⟨h40,hM⟩
            ·have F:=And.intro (nf F h40) (lT h40);obtain ⟨x11,e41,hM⟩:=bind_some hM;have F:=And.intro F (Vs e41);obtain ⟨x12,e42,hM⟩:=bind_some hM;refine ZD 19 mixed (by kernel_rfl) (by kernel_rfl) ?_;simp [go_sem,F];refine Qb false (Vk x11 x9 x12 e42) ?_;simp [go_sem,F];exact au
            ·have F:=And.intro (nf F h40) (lF h40);refine ZD 19 mixed (by kernel_rfl) (by kernel_rfl) ?_;simp [go_sem,F];exact au
         ·intro x10 hM;(try dsimp only at hM);exact au
        ·have F:=And.intro (nf F h32) (lF h32);exact au
     ·intro _ hM;dsimp only at hM;exact au
    ·have F:=And.intro (nf F h13) (lF h13);exact au
   ·intro _ hM;dsimp only at hM;exact au
instance:HC 280 (Ty @ZcT):=⟨ZcT⟩
theorem Zhb:∀(k:Nat),(∀(a0:Za) (r:Int) (hM:QW k a0=some r),Ctr Tryz.prog 281 [.agg (Za.c a0)] true [.one (.int .i64 r)]):=by
 intro k
 induction k with
 | zero=>intro a0 r hM;simp [QW] at hM
 | succ k ih_i_DepthOf=>
  ·intro a0 r hM
   haveI:HC 281 _:=⟨ih_i_DepthOf⟩;rw [QW] at hM
   refine Zr Tryz.func281 Tryz.ntmps281 Tryz.results281 fun N w0 hbad F=> ?_
   refine S1 ?_;refine S1 ?_;refine mj (ι:=Int) [] [] [] (fun i=>[(3,oI i)]) hM ?_ ?_
   ·intro e1 hM K3 hK3;refine S1 ?_;refine Zg ?_;refine lp (ι:=Int×Int) [7,8] [] [] (fun i=>[(3,oI i.1),(9,oI i.2)]) (fun n i=>Xw (QW k) a0 n i.1 i.2=some e1) k (0,0) hM (by simp [Xw]) ?_;intro KL4 nL4 ⟨x2,x3⟩ hL4 hM _;have hM:Xw (QW k) a0 (nL4+1) x2 x3=some e1:=hM;rw [Xw] at hM;exact au
   ·intro x1 hM;(try dsimp only at hM);exact au
theorem ZcX (k:Nat):∀(a0:Za) (r:Int) (hM:QW k a0=some r),Ctr Tryz.prog 281 [.agg (Za.c a0)] true [.one (.int .i64 r)]:=(Zhb k)
instance:HC 281 (Ty @ZcX):=⟨ZcX⟩
theorem ZcV:∀(k:Nat),(∀(a0:Za) (r:Bool) (hM:ZF k a0=some r),Ctr Tryz.prog 238 [.agg (Za.c a0)] true [.one (.bool r)]):=by
 intro k
 induction k with
 | zero=>intro a0 r hM;simp [ZF] at hM
 | succ k ih_i_IsValidValue=>
  ·intro a0 r hM
   haveI:HC 238 _:=⟨ih_i_IsValidValue⟩;rw [ZF] at hM
   refine Zr Tryz.func238 Tryz.ntmps238 Tryz.results238 fun N w0 hbad F=> ?_
   refine S1 ?_;refine mj (ι:=Bool) [1] [1] [] (fun i=>[(3,oB i)]) hM ?_ ?_
   ·intro e1 hM K3 hK3;exact au
   ·intro x1 hM;(try dsimp only at hM);refine Zh fun K6 hK6=> ?_;refine S1 ?_;refine Zg ?_;refine S1 ?_;refine Zp hM (fun h7 hM=> ?_) (fun h7 hM=> ?_)
    ·have F:=nf F h7;refine mj (ι:=Bool) [] [] [] (fun i=>[(2,oB i)]) hM ?_ ?_
     ·intro e8 hM K10 hK10;exact au
     ·intro x2 hM;(try dsimp only at hM);exact au
    ·have F:=nf F h7;refine S1 ?_;refine Zp hM (fun h15 hM=> ?_) (fun h15 hM=> ?_)
     ·have F:=nf F h15;refine mj (ι:=Bool) [] [] [] (fun i=>[(2,oB i)]) hM ?_ ?_
      ·intro e16 hM K18 hK18;exact au
      ·intro x4 hM;(try dsimp only at hM);exact au
     ·have F:=nf F h15;refine S1 ?_;refine Zp hM (fun h23 hM=> ?_) (fun h23 hM=> ?_)
      ·have F:=nf F h23;refine mj (ι:=Bool) [] [] [] (fun i=>[(2,oB i)]) hM ?_ ?_
       ·intro e24 hM K26 hK26;exact au
       ·intro x6 hM;(try dsimp only at hM);exact au
      ·have F:=nf F h23;refine S1 ?_;refine Zp hM (fun h32 hM=> ?_) (fun h32 hM=> ?_)
       ·have F:=nf F h32;refine mj (ι:=Bool) [] [] [] (fun i=>[(2,oB i)]) hM ?_ ?_
        ·intro e33 hM K35 hK35;exact au
        ·intro x9 hM;(try dsimp only at hM);exact au
       ·have F:=nf F h32;refine S1 ?_;refine Zp hM (fun h40 hM=> ?_) (fun h40 hM=> ?_)
        ·have F:=nf F h40;refine mj (ι:=Bool) [] [] [] (fun i=>[(2,oB i)]) hM ?_ ?_
         ·intro e41 hM K43 hK43;exact au
         ·intro x11 hM;(try dsimp only at hM);exact au
        ·have F:=nf F h40;refine S1 ?_;refine Zp hM (fun h49 hM=> ?_) (fun h49 hM=> ?_)
         ·have F:=nf F h49;refine mjE (ι:=Unit) [1] [1] [] (fun i=>[]) hM ?_ ?_
          ·intro e50 hM hR1 K52 hK52;refine S1 ?_;refine Zg ?_;refine lp (ι:=Int) [1,124,125] [1] [] (fun i=>[(126,oI i)]) (fun n i=>YB (ZF k) a0 n i=some e50) k 0 hM (by simp [YB]) ?_;intro KL53 nL53 x13 hL53 hM _;have hM:YB (ZF k) a0 (nL53+1) x13=some e50:=hM;rw [YB] at hM
           refine S1 ?_;refine Zh fun K54 hK54=> ?_;refine Zp hM (fun h55 hM=> ?_) (fun h55 hM=> ?_)
           ·have F:=And.intro (nf F h55) (lT h55);refine Zl ?_;refine hK54 _ ?_;refine Zh fun K56 hK56=> ?_;refine Zg ?_;obtain ⟨x14,e57,hM⟩:=bind_some hM;have F:=And.intro F (Vs e57);refine S1 ?_;refine mj (ι:=Bool) [1,124,125,126] [1] [] (fun i=>[(147,oB i)]) hM ?_ ?_
            ·intro e58 hM K60 hK60;exact au
            ·intro x15 hM;(try dsimp only at hM);exact au
           ·have F:=And.intro (nf F h55) (lF h55);exact au
          ·intro _ hM;dsimp only at hM;refine mj (ι:=Bool) [] [] [] (fun i=>[(2,oB i)]) hM ?_ ?_
           ·intro e68 hM K70 hK70;exact au
           ·intro x19 hM;(try dsimp only at hM);exact au
         ·have F:=nf F h49;exact au
theorem Jr (k:Nat):∀(a0:Za) (r:Bool) (hM:ZF k a0=some r),Ctr Tryz.prog 238 [.agg (Za.c a0)] true [.one (.bool r)]:=(ZcV k)
instance:HC 238 (Ty @Jr):=⟨Jr⟩
theorem Vm (k:Nat) (a0:ByteArray) (r:Za×Bool) (hM:Wj k a0=some r):Ctr Tryz.prog 175 [.one (.str a0)] true [.agg (Za.c r.1),.one (.bool r.2)]:=by
 unfold Wj at hM
 refine Zr Tryz.func175 Tryz.ntmps175 Tryz.results175 fun N w0 hbad F=> ?_
 refine S1 ?_;obtain ⟨x1,e1,hM⟩:=bind_some hM;refine Zw fun K h=> ?_;simp [go_sem,F];refine Qb false (Xx a0 (⟨#[59,32]⟩:ByteArray) x1 e1) ?_;simp [go_sem,F];refine h _ ?_;obtain ⟨x2,e2,hM⟩:=bind_some hM;have F:=And.intro F (Vs e2);have F:=And.intro F (show 0<x1.length by simpa using Zoi e2);have F:=And.intro F (Zsf 0 e2);obtain ⟨x3,e3,hM⟩:=bind_some hM
 refine Zw fun K h=> ?_;simp [go_sem,F];refine Qb false (Wh x2 32 x3 e3) ?_;simp [go_sem,F];refine h _ ?_;refine mjE (ι:=List Zq) [2,5] [2] [960] (fun i=>[]) hM ?_ ?_ (cb:=fun i=>[(5,[cI 5,cI 0,cI 0,cS (⟨#[]⟩:ByteArray),.nil,.own 960 x3.length,.own 2560 i.length])]) (ca:=fun i=>[(2560,aT Zq.c i)])
 ·intro e4 hM hR1 K6 hK6;refine le1 [2,5] [2,5] [960] ?_ (ch:=[(4,oL sC x1)]);obtain ⟨x5,e7,hM⟩:=bind_some hM;obtain ⟨c8,s9⟩:=Zek e7;replace c8:=c8.symm;subst c8;(try simp at s9);have F:=And.intro F s9;refine S1 ?_;refine Zg ?_;refine lp (ι:=(List Zq)×Int) [2,5,18,19] [2] [960] (fun i=>[(20,oI i.2)]) (fun n i=>YF k x1 x3 n i.1 i.2=some e4) k ([],0) hM (by simp [YF]) ?_ (cb:=fun i=>[(5,[cI 5,cI 0,cI 0,cS (⟨#[]⟩:ByteArray),.nil,.own 960 x3.length,.own 2560 i.1.length])]) (ca:=fun i=>[(2560,aT Zq.c i.1)])
  intro KL12 nL12 ⟨x6,x7⟩ hL12 hM _;have hM:YF k x1 x3 (nL12+1) x6 x7=some e4:=hM;rw [YF] at hM;exact au
 ·intro x4 hM;dsimp only at hM;exact au
instance:HC 175 (Ty @Vm):=⟨Vm⟩
theorem U2 (k:Nat) (a0:ByteArray) (r:Int) (hM:U3 k a0=some r):Ctr Tryz.prog 176 [.one (.str a0)] true [.one (.int .i64 r)]:=by
 unfold U3 at hM
 refine Zr Tryz.func176 Tryz.ntmps176 Tryz.results176 fun N w0 hbad F=> ?_
 refine S1 ?_;refine Zh fun K1 hK1=> ?_;obtain ⟨x1,e2,hM⟩:=bind_some hM;refine Zw fun K h=> ?_;simp [go_sem,F];refine Qb false (Vm k a0 x1 e2) ?_;simp [go_sem,F];refine h _ ?_;refine S1 ?_;refine Zp hM (fun h3 hM=> ?_) (fun h3 hM=> ?_)
 ·have F:=nf F h3;exact au
 ·have F:=nf F h3;refine Zl ?_;refine hK1 _ ?_;obtain ⟨x2,e4,hM⟩:=bind_some hM;refine Zw fun K h=> ?_;simp [go_sem,F];refine Qb false (Xx a0 (⟨#[59,32]⟩:ByteArray) x2 e4) ?_;simp [go_sem,F];refine h _ ?_;obtain ⟨x3,e5,hM⟩:=bind_some hM;have F:=And.intro F (Vs e5);have F:=And.intro F (show 0<x2.length by simpa using Zoi e5);have F:=And.intro F (Zsf 0 e5)
  obtain ⟨x4,e6,hM⟩:=bind_some hM;refine Zw fun K h=> ?_;simp [go_sem,F];refine Qb false (Wh x3 32 x4 e6) ?_;simp [go_sem,F];refine h _ ?_;refine Zh fun K7 hK7=> ?_;obtain ⟨x5,e8,hM⟩:=bind_some hM;refine Zw fun K h=> ?_;simp [go_sem,F];refine Qb false (Ud k x4 x5 e8) ?_;simp [go_sem,F];refine h _ ?_;refine Zp hM (fun h9 hM=> ?_) (fun h9 hM=> ?_)
  ·have F:=nf F h9;exact au
  ·have F:=nf F h9;refine Zl ?_;refine hK7 _ ?_;refine mjE (ι:=Unit) [] [] [] (fun i=>[]) hM ?_ ?_
   ·intro e10 hM hR1 K12 hK12;refine le1 [6] [] [1408] ?_ (ch:=[(5,oL sC x2)]);obtain ⟨x6,e13,hM⟩:=bind_some hM;obtain ⟨c14,s15⟩:=Zek e13;replace c14:=c14.symm;subst c14;(try simp at s15);have F:=And.intro F s15;refine S1 ?_;refine Zg ?_;refine lp (ι:=Int) [6,27,28] [] [1408] (fun i=>[(29,oI i)]) (fun n i=>YG k x2 x4 n i=some e10) k 0 hM (by simp [YG]) ?_
    intro KL18 nL18 x7 hL18 hM _;have hM:YG k x2 x4 (nL18+1) x7=some e10:=hM;rw [YG] at hM;refine S1 ?_;refine Zh fun K19 hK19=> ?_;refine Zp hM (fun h20 hM=> ?_) (fun h20 hM=> ?_)
    ·have F:=And.intro (nf F h20) (lT h20);refine Zl ?_;refine hK19 _ ?_;refine Zh fun K21 hK21=> ?_;refine Zg ?_;obtain ⟨x8,e22,hM⟩:=bind_some hM;have F:=And.intro F (Vs e22);have F:=And.intro F (ZuL e22);refine S1 ?_;obtain ⟨x9,e23,hM⟩:=bind_some hM;refine Zw fun K h=> ?_;simp [go_sem,F];refine Qb false (Kw k x8 (x4.length:Int) x9 e23) ?_
     simp [go_sem,F];refine h _ ?_;refine mj (ι:=Bool) [6,7,27,28,29] [] [1408] (fun i=>[(46,oB i)]) hM ?_ ?_
     ·intro e24 hM K26 hK26;exact au
     ·intro x10 hM;(try dsimp only at hM);exact au
    ·have F:=And.intro (nf F h20) (lF h20);exact au
   ·intro _ hM;dsimp only at hM;exact au
instance:HC 176 (Ty @U2):=⟨U2⟩
end Go.Proofs.YtfapaeabfcogkaaGreatDoor
namespace Go.Proofs.YtfapaeabfcogkaaGreatDoor
open Go.RowKit Am
set_option maxHeartbeats 4000000
set_option maxRecDepth 100000
theorem Kx (a0:Zq) (r:Zq) (hM:JZ a0=some r):Ctr Tryz.prog 171 [.agg (Zq.c a0)] true [.agg (Zq.c r)]:=by
 unfold JZ at hM
 refine Zr Tryz.func171 Tryz.ntmps171 Tryz.results171 fun N w0 hbad F=> ?_
 refine S1 ?_;refine Zh fun K1 hK1=> ?_;refine le1 [1,2] [1,2] [] ?_;obtain ⟨x1,e2,hM⟩:=bind_some hM;obtain ⟨c3,s4⟩:=QY e2;replace c3:=c3.symm;subst c3;(try simp at s4);have F:=And.intro F s4;obtain ⟨x2,e6,hM⟩:=bind_some hM;obtain ⟨c7,s8⟩:=QY e6;replace c7:=c7.symm;subst c7;(try simp at s8);have F:=And.intro F s8;refine ZT [[],[],[1],[0,1,2],[],[10000192],[5],[0,1,2,3,4,5,6],[0,1,2,3,4,5,6,7],[0,1,2,3,4,5,6,7,8]] mixed (by kernel_rfl) ?_
 simp [go_sem,F];refine ⟨Zu (by kernel_rfl), ?_⟩;exact au
instance:HC 171 (Ty @Kx):=⟨Kx⟩
theorem KP:∀(k:Nat),(∀(a0:List Za) (r:List Za) (hM:W3 k a0=some r),Ctr Tryz.prog 170 [.one (.sl (a0.map Za.c))] true [.one (.sl (r.map Za.c))])∧
  (∀(a0:Za) (r:Za) (hM:YK k a0=some r),Ctr Tryz.prog 106 [.agg (Za.c a0)] true [.agg (Za.c r)]):=by
 intro k
 induction k with
 | zero=>exact ⟨by intro a0 r hM;simp [W3] at hM,by intro a0 r hM;simp [YK] at hM⟩
 | succ k ih=>
  obtain ⟨ih_i_copyValues,ih_i_copyValue⟩:=ih
  refine ⟨?_, ?_⟩
  ·intro a0 r hM
   haveI:HC 170 _:=⟨ih_i_copyValues⟩;haveI:HC 106 _:=⟨ih_i_copyValue⟩;rw [W3] at hM
   refine Zr Tryz.func170 Tryz.ntmps170 Tryz.results170 fun N w0 hbad F=> ?_
   refine S1 ?_;refine S1 ?_;refine mj (ι:=List Za) [] [] [] (fun i=>[(3,oO 384 i.length)]) hM ?_ ?_ (ca:=fun i=>[(384,aT Za.c i)])
   ·intro e1 hM K3 hK3;refine S1 ?_;refine Zg ?_;refine lp (ι:=(List Za)×Int) [7,8] [] [] (fun i=>[(3,oO 384 i.1.length),(9,oI i.2)]) (fun n i=>Y4 (YK k) a0 n i.1 i.2=some e1) k (([]:List Za),0) hM (by simp [Y4]) ?_ (ca:=fun i=>[(384,aT Za.c i.1)]);intro KL4 nL4 ⟨x2,x3⟩ hL4 hM _;have hM:Y4 (YK k) a0 (nL4+1) x2 x3=some e1:=hM
    rw [Y4] at hM;exact au
   ·intro x1 hM;(try dsimp only at hM);exact au
  ·intro a0 r hM
   haveI:HC 170 _:=⟨ih_i_copyValues⟩;haveI:HC 106 _:=⟨ih_i_copyValue⟩;rw [YK] at hM
   refine Zr Tryz.func106 Tryz.ntmps106 Tryz.results106 fun N w0 hbad F=> ?_
   refine S1 ?_;refine S1 ?_;obtain ⟨x1,e1,hM⟩:=bind_some hM;refine Zw fun K h=> ?_;simp [go_sem,F];refine Qb false (ih_i_copyValues a0.list x1 e1) ?_;simp [go_sem,F];refine h _ ?_;obtain ⟨x2,e2,hM⟩:=bind_some hM;obtain ⟨c3,s4⟩:=QY e2;replace c3:=c3.symm;subst c3;(try simp at s4);have F:=And.intro F s4;refine S1 ?_;refine S1 ?_;refine mj (ι:=List Zq) [2,3] [2] [576] (fun i=>[]) hM ?_ ?_ (cb:=fun i=>[(3,[cI a0.kind,cI a0.n,cI a0.step,cS a0.text,.own 576 x1.length,.own 704 ((([]:List ByteArray)++a0.columns).length),.own 1856 i.length])]) (ca:=fun i=>[(704,aT sC (([]:List ByteArray)++a0.columns)),(1856,aT Zq.c i)])
   ·intro e6 hM K8 hK8;refine S1 ?_;refine Zg ?_;refine lp (ι:=(List Zq)×Int) [2,3,18,19] [2] [576] (fun i=>[(20,oI i.2)]) (fun n i=>Qt a0 n i.1 i.2=some e6) k ([],0) hM (by simp [Qt]) ?_ (cb:=fun i=>[(3,[cI a0.kind,cI a0.n,cI a0.step,cS a0.text,.own 576 x1.length,.own 704 ((([]:List ByteArray)++a0.columns).length),.own 1856 i.1.length])]) (ca:=fun i=>[(704,aT sC (([]:List ByteArray)++a0.columns)),(1856,aT Zq.c i.1)])
    intro KL9 nL9 ⟨x4,x5⟩ hL9 hM _;have hM:Qt a0 (nL9+1) x4 x5=some e6:=hM;rw [Qt] at hM;refine S1 ?_;refine Zh fun K10 hK10=> ?_;refine Zp hM (fun h11 hM=> ?_) (fun h11 hM=> ?_)
    ·have F:=And.intro (nf F h11) (lT h11);refine Zl ?_;refine hK10 _ ?_;refine Zh fun K12 hK12=> ?_;refine Zg ?_;obtain ⟨x6,e13,hM⟩:=bind_some hM;have F:=And.intro F (Vs e13);refine S1 ?_;refine le1 [2,3,5,18,19,20] [2,3,5] [576,1856] ?_ (ca:=[(704,aT sC (([]:List ByteArray)++a0.columns))]);obtain ⟨x7,e14,hM⟩:=bind_some hM;obtain ⟨x8,e15,hM⟩:=bind_some hM
     obtain ⟨c16,s17⟩:=QY e15;replace c16:=c16.symm;subst c16;(try simp at s17);have F:=And.intro F s17;refine ZT [[10001728,10001729],[0],[],[2],[2,3],[0,1,2,3,4],[0,1,2,3,4,5],[0,1,2,3,4,5,6]] mixed (by kernel_rfl) ?_;simp [go_sem,F];refine Qb false (Kx x6 x7 e14) ?_;simp [go_sem,F];refine ⟨Zu (by kernel_rfl), ?_⟩;exact au
    ·have F:=And.intro (nf F h11) (lF h11);exact au
   ·intro x3 hM;(try dsimp only at hM);exact au
theorem KO (k:Nat):∀(a0:List Za) (r:List Za) (hM:W3 k a0=some r),Ctr Tryz.prog 170 [.one (.sl (a0.map Za.c))] true [.one (.sl (r.map Za.c))]:=(KP k).1
instance:HC 170 (Ty @KO):=⟨KO⟩
theorem UZ (k:Nat):∀(a0:Za) (r:Za) (hM:YK k a0=some r),Ctr Tryz.prog 106 [.agg (Za.c a0)] true [.agg (Za.c r)]:=(KP k).2
instance:HC 106 (Ty @UZ):=⟨UZ⟩
theorem VM (k:Nat) (a0:Int) (a1:Za) (r:Za) (hM:Vl k a0 a1=some r):Ctr Tryz.prog 177 [.one (.int .i64 a0),.agg (Za.c a1)] true [.agg (Za.c r)]:=by
 unfold Vl at hM
 refine Zr Tryz.func177 Tryz.ntmps177 Tryz.results177 fun N w0 hbad F=> ?_
 refine S1 ?_;refine Zh fun K1 hK1=> ?_;refine mj (ι:=Bool) [0,3,4] [3,4] [] (fun i=>[(18,oB i)]) hM ?_ ?_
 ·intro e2 hM K4 hK4;exact au
 ·intro x1 hM;(try dsimp only at hM);refine Zp hM (fun h8 hM=> ?_) (fun h8 hM=> ?_)
  ·have F:=nf F h8;exact au
  ·have F:=nf F h8;refine Zl ?_;refine hK1 _ ?_;obtain ⟨x4,e10,hM⟩:=bind_some hM;refine Zw fun K h=> ?_;simp [go_sem,F];refine Qb false (UZ k a1 x4 e10) ?_;simp [go_sem,F];refine h _ ?_;refine mj (ι:=List Zq) [4,5] [4] [1344,1345] (fun i=>[]) hM ?_ ?_ (cb:=fun i=>[(5,[cI x4.kind,cI x4.n,cI x4.step,cS x4.text,.own 1344 x4.list.length,.own 1345 x4.columns.length,.own 1346 i.length])]) (ca:=fun i=>[(1346,aT Zq.c i)])
   ·intro e11 hM K13 hK13;refine S1 ?_;refine Zg ?_;refine lp (ι:=(List Zq)×Int) [0,4,5,24] [4] [1344,1345] (fun i=>[(25,oI i.2)]) (fun n i=>Yu a0 x4 n i.1 i.2=some e11) k (x4.rows,0) hM (by simp [Yu]) ?_ (cb:=fun i=>[(5,[cI x4.kind,cI x4.n,cI x4.step,cS x4.text,.own 1344 x4.list.length,.own 1345 x4.columns.length,.own 1346 i.1.length])]) (ca:=fun i=>[(1346,aT Zq.c i.1)])
    intro KL14 nL14 ⟨x6,x7⟩ hL14 hM _;have hM:Yu a0 x4 (nL14+1) x6 x7=some e11:=hM;rw [Yu] at hM;exact au
   ·intro x5 hM;(try dsimp only at hM);exact au
instance:HC 177 (Ty @VM):=⟨VM⟩
theorem J6 (k:Nat) (a0:Zj) (r:ZB) (hM:Yv k a0=some r):Ctr Tryz.prog 108 [.agg (Zj.c a0)] false [.agg (ZB.c r)]:=by
 unfold Yv at hM
 refine Zr Tryz.func108 Tryz.ntmps108 Tryz.results108 fun N w0 hbad F=> ?_
 refine S1 ?_;refine Zh fun K1 hK1=> ?_;obtain ⟨x1,e2,hM⟩:=bind_some hM;refine Zw fun K h=> ?_;simp [go_sem,F];refine Qb false (VO k a0 x1 e2) ?_;simp [go_sem,F];refine h _ ?_;refine Zp hM (fun h3 hM=> ?_) (fun h3 hM=> ?_)
 ·have F:=nf F h3;exact au
 ·have F:=nf F h3;refine Zl ?_;refine hK1 _ ?_;refine Zh fun K4 hK4=> ?_;refine S1 ?_;refine Zg ?_;refine S1 ?_;refine Zp hM (fun h5 hM=> ?_) (fun h5 hM=> ?_)
  ·have F:=nf F h5;exact au
  ·have F:=nf F h5;refine S1 ?_;refine Zp hM (fun h6 hM=> ?_) (fun h6 hM=> ?_)
   ·have F:=nf F h6;refine Zh fun K7 hK7=> ?_;refine le1 [1,2] [1,2] [] ?_;obtain ⟨x2,e8,hM⟩:=bind_some hM;refine ZT [[],[0],[],[2],[2,3],[0,1,2,3,4],[0,1,2,3,4,5]] mixed (by kernel_rfl) ?_;simp [go_sem,F];refine Qb false (VN a0.n x2 e8) ?_;simp [go_sem,F];refine ⟨Zu (by kernel_rfl), ?_⟩;refine hK7 _ ?_;obtain rfl:=si hM;refine le1 [2] [] [] ?_ (cb:=[(2,[cI 3,cS a0.name,cI 0,cI 0,cS (⟨#[]⟩:ByteArray),.nil,cI x2.kind,cI x2.n,cI x2.step,cS x2.text,cL Za.c x2.list,cL sC x2.columns,cL Zq.c x2.rows,cI 0])])
    exact au
   ·have F:=nf F h6;refine S1 ?_;refine Zp hM (fun h9 hM=> ?_) (fun h9 hM=> ?_)
    ·have F:=nf F h9;obtain ⟨x3,e10,hM⟩:=bind_some hM;refine Zw fun K h=> ?_;simp [go_sem,F];refine Qb false (U0 k a0.code x3 e10) ?_;simp [go_sem,F];refine h _ ?_;refine Zh fun K11 hK11=> ?_;refine S1 ?_;refine Zp hM (fun h12 hM=> ?_) (fun h12 hM=> ?_)
     ·have F:=And.intro (nf F h12) (eT h12);refine Zh fun K13 hK13=> ?_;refine le1 [1,2,4] [1,2] [] ?_;obtain ⟨x4,e14,hM⟩:=bind_some hM;refine ZT [[],[0],[],[],[0,1,2,3],[0,1,2,3,4]] mixed (by kernel_rfl) ?_;simp [go_sem,F];refine Qb false (WT 8 x4 e14) ?_;simp [go_sem,F];refine ⟨Zu (by kernel_rfl), ?_⟩;refine hK13 _ ?_;obtain rfl:=si hM
      refine le1 [2] [] [] ?_ (cb:=[(2,[cI 4,cS a0.name,cI 0,cI 0,cS (⟨#[]⟩:ByteArray),.nil,cI x4.kind,cI x4.n,cI x4.step,cS x4.text,cL Za.c x4.list,cL sC x4.columns,cL Zq.c x4.rows,cI x3.2])]);exact au
     ·have F:=And.intro (nf F h12) (eF h12);exact au
    ·have F:=nf F h9;refine Zl ?_;refine hK4 _ ?_;obtain ⟨x5,e15,hM⟩:=bind_some hM;refine Zw fun K h=> ?_;simp [go_sem,F];refine Qb false (Vm k a0.code x5 e15) ?_;simp [go_sem,F];refine h _ ?_;refine Zh fun K16 hK16=> ?_;refine S1 ?_;refine Zp hM (fun h17 hM=> ?_) (fun h17 hM=> ?_)
     ·have F:=nf F h17;refine Zh fun K18 hK18=> ?_;refine le1 [1,2] [1,2] [] ?_;obtain ⟨x6,e19,hM⟩:=bind_some hM;obtain ⟨x7,e20,hM⟩:=bind_some hM;refine ZT [[],[0],[],[],[3],[2,3,4],[0,1,2,3,4,5],[0,1,2,3,4,5,6]] mixed (by kernel_rfl) ?_;simp [go_sem,F];refine Qb false (WT 8 x6 e19) ?_;simp [go_sem,F];refine Qb false (U2 k a0.code x7 e20) ?_
      simp [go_sem,F];refine ⟨Zu (by kernel_rfl), ?_⟩;refine hK18 _ ?_;obtain rfl:=si hM;refine le1 [2] [] [] ?_ (cb:=[(2,[cI 4,cS a0.name,cI 0,cI 0,cS (⟨#[]⟩:ByteArray),.nil,cI x6.kind,cI x6.n,cI x6.step,cS x6.text,cL Za.c x6.list,cL sC x6.columns,cL Zq.c x6.rows,cI x7])]);exact au
     ·have F:=nf F h17;refine Zl ?_;refine hK16 _ ?_;refine Zh fun K21 hK21=> ?_;refine le1 [1,2,5] [1,2,5] [2944,2945,2946] ?_;obtain ⟨x8,e22,hM⟩:=bind_some hM;refine ZT [[],[0],[],[2],[],[2,3,4],[0,1,2,3,4,5],[0,1,2,3,4,5,6]] mixed (by kernel_rfl) ?_;simp [go_sem,F];refine Qb false (VM k a0.id x5.1 x8 e22) ?_;simp [go_sem,F]
      refine ⟨Zu (by kernel_rfl), ?_⟩;refine hK21 _ ?_;obtain rfl:=si hM;refine le1 [2] [] [] ?_ (cb:=[(2,[cI 3,cS a0.name,cI 0,cI 0,cS (⟨#[]⟩:ByteArray),.nil,cI x8.kind,cI x8.n,cI x8.step,cS x8.text,cL Za.c x8.list,cL sC x8.columns,cL Zq.c x8.rows,cI 0])]);exact au
instance:HC 108 (Ty @J6):=⟨J6⟩
theorem Ue (k:Nat) (a0:Ze) (r:List ZB) (hM:V5 k a0=some r):Ctr Tryz.prog 44 [.agg (Ze.c a0)] false [.one (.sl (r.map ZB.c))]:=by
 unfold V5 at hM
 refine Zr Tryz.func44 Tryz.ntmps44 Tryz.results44 fun N w0 hbad F=> ?_
 refine S1 ?_;refine Zh fun K1 hK1=> ?_;obtain ⟨x1,e2,hM⟩:=bind_some hM;refine Zw fun K h=> ?_;simp [go_sem,F];refine Qb false (Wl k a0 x1 e2) ?_;simp [go_sem,F];refine h _ ?_;refine Zp hM (fun h3 hM=> ?_) (fun h3 hM=> ?_)
 ·have F:=nf F h3;exact au
 ·have F:=nf F h3;refine Zl ?_;refine hK1 _ ?_;refine S1 ?_;refine mj (ι:=List ZB) [] [] [] (fun i=>[(3,oO 576 i.length)]) hM ?_ ?_ (ca:=fun i=>[(576,aF ZB.c i)])
  ·intro e4 hM K6 hK6;refine S1 ?_;refine Zg ?_;refine Zoo [576] (σ':=⟨24,[(3,.one (.own 576 (([]:List ZB).length))),(11,.one (.l (.sl (a0.cells.map Zj.c)))),(12,.one (.l (.int .i64 (a0.cells.length:Int)))),(13,.one (.l (.int .i64 0)))],[],[(576,some ⟨false,([]:List ZB).map ZB.c⟩)]⟩) ?_;refine lp (ι:=(List ZB)×Int) [11,12] [] [] (fun i=>[(3,oO 576 i.1.length),(13,oI i.2)]) (fun n i=>Y6 k a0 n i.1 i.2=some e4) k (([]:List ZB),0) hM (by simp [Y6]) ?_ (ca:=fun i=>[(576,aF ZB.c i.1)])
   intro KL7 nL7 ⟨x3,x4⟩ hL7 hM _;have hM:Y6 k a0 (nL7+1) x3 x4=some e4:=hM;rw [Y6] at hM;exact au
  ·intro x2 hM;(try dsimp only at hM);refine S1 ?_;obtain rfl:=si hM;refine le1 [] [] [] ?_ (ch:=[(2,oL ZB.c x2)]);exact au
instance:HC 44 (Ty @Ue):=⟨Ue⟩
theorem ZbB (k:Nat) (a0:List ZB) (a1:ByteArray) (r:List Int) (hM:J5 k a0 a1=some r):Ctr Tryz.prog 169 [.one (.sl (a0.map ZB.c)),.one (.str a1)] true [.one (.sl (r.map iC))]:=by
 unfold J5 at hM
 refine Zr Tryz.func169 Tryz.ntmps169 Tryz.results169 fun N w0 hbad F=> ?_
 refine S1 ?_;refine S1 ?_;refine mj (ι:=List Int) [] [] [] (fun i=>[(5,oO 512 i.length)]) hM ?_ ?_ (ca:=fun i=>[(512,aT iC i)])
 ·intro e1 hM K3 hK3;refine S1 ?_;refine Zg ?_;refine lp (ι:=(List Int)×Int) [1,9,10] [] [] (fun i=>[(5,oO 512 i.1.length),(11,oI i.2)]) (fun n i=>QX a0 a1 n i.1 i.2=some e1) k (([]:List Int),0) hM (by simp [QX]) ?_ (ca:=fun i=>[(512,aT iC i.1)]);intro KL4 nL4 ⟨x2,x3⟩ hL4 hM _;have hM:QX a0 a1 (nL4+1) x2 x3=some e1:=hM;rw [QX] at hM
  refine S1 ?_;refine Zh fun K5 hK5=> ?_;refine Zp hM (fun h6 hM=> ?_) (fun h6 hM=> ?_)
  ·have F:=And.intro (nf F h6) (lT h6);refine Zl ?_;refine hK5 _ ?_;refine mj (ι:=List Int) [1,9,10,11] [] [] (fun i=>[(5,oO 512 i.length)]) hM ?_ ?_ (ca:=fun i=>[(512,aT iC i)])
   ·intro e7 hM K9 hK9;refine Zg ?_;obtain ⟨x5,e10,hM⟩:=bind_some hM;have F:=And.intro F (Vs e10);refine S1 ?_;refine mj (ι:=Bool) [1,5,6,9,10,11] [] [512] (fun i=>[(24,oB i)]) hM ?_ ?_
    ·intro e11 hM K13 hK13;exact au
    ·intro x6 hM;(try dsimp only at hM);exact au
   ·intro x4 hM;(try dsimp only at hM);exact au
  ·have F:=And.intro (nf F h6) (lF h6);exact au
 ·intro x1 hM;(try dsimp only at hM);exact au
instance:HC 169 (Ty @ZbB):=⟨ZbB⟩
theorem Ky (k:Nat) (a0:List ZB) (a1:ByteArray) (r:Int) (hM:ZaH k a0 a1=some r):Ctr Tryz.prog 104 [.one (.sl (a0.map ZB.c)),.one (.str a1)] true [.one (.int .i64 r)]:=by
 unfold ZaH at hM
 refine Zr Tryz.func104 Tryz.ntmps104 Tryz.results104 fun N w0 hbad F=> ?_
 exact au
instance:HC 104 (Ty @Ky):=⟨Ky⟩
theorem U1 (k:Nat) (a0:List ZB) (a1:List Za) (a2:ByteArray) (r:Za) (hM:Wk k a0 a1 a2=some r):Ctr Tryz.prog 43 [.one (.sl (a0.map ZB.c)),.one (.sl (a1.map Za.c)),.one (.str a2)] true [.agg (Za.c r)]:=by
 unfold Wk at hM
 refine Zr Tryz.func43 Tryz.ntmps43 Tryz.results43 fun N w0 hbad F=> ?_
 refine S1 ?_;obtain ⟨x1,e1,hM⟩:=bind_some hM;refine Zw fun K h=> ?_;simp [go_sem,F];refine Qb false (Ky k a0 a2 x1 e1) ?_;simp [go_sem,F];refine h _ ?_;refine Zh fun K2 hK2=> ?_;refine Zg ?_;refine S1 ?_;refine Zp hM (fun h3 hM=> ?_) (fun h3 hM=> ?_)
 ·have F:=nf F h3;exact au
 ·have F:=nf F h3;refine mj (ι:=Bool) [1,6,7] [6] [] (fun i=>[(15,oB i)]) hM ?_ ?_
  ·intro e5 hM K7 hK7;exact au
  ·intro x3 hM;(try dsimp only at hM);exact au
instance:HC 43 (Ty @U1):=⟨U1⟩
theorem WD (k:Nat) (a0:Ze) (a1:Qf) (a2:ByteArray) (r:Za) (hM:WE k a0 a1 a2=some r):Ctr Tryz.prog 12 [.agg (Ze.c a0),.agg (Qf.c a1),.one (.str a2)] true [.agg (Za.c r)]:=by
 unfold WE at hM
 refine Zr Tryz.func12 Tryz.ntmps12 Tryz.results12 fun N w0 hbad F=> ?_
 refine S1 ?_;refine Zh fun K1 hK1=> ?_;obtain ⟨x1,e2,hM⟩:=bind_some hM;obtain ⟨x2,e3,hM⟩:=bind_some hM;refine ZD 5 mixed (by kernel_rfl) (by kernel_rfl) ?_;simp [go_sem,F];refine Qb false (Ue k a0 x1 e2) ?_;simp [go_sem,F];refine Qb false (U1 k x1 a1.values a2 x2 e3) ?_;simp [go_sem,F];exact au
instance:HC 12 (Ty @WD):=⟨WD⟩
end Go.Proofs.YtfapaeabfcogkaaGreatDoor
