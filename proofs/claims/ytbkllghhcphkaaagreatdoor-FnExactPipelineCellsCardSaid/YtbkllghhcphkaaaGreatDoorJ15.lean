import Derived.Test.YtbkllghhcphkaaaGreatDoorCt4
import Derived.Test.YtbkllghhcphkaaaGreatDoorJ6
set_option linter.unusedSimpArgs false
set_option linter.unusedVariables false
namespace Go.Proofs.YtbkllghhcphkaaaGreatDoor
open Go.RowKit Am
set_option maxHeartbeats 4000000
set_option maxRecDepth 100000
theorem Zdh (k:Nat) (a0:List Int) (r:List Int) (hM:ZaK k a0=some r):Ctr Tryz.prog 73 [.one (.sl (a0.map iC))] true [.one (.sl (r.map iC))]:=by
 unfold ZaK at hM;refine Zr Tryz.func73 Tryz.ntmps73 Tryz.results73 fun N w0 hbad F=> ?_;refine S1 ?_;refine S1 ?_;refine mj (ι:=List Int) [] [] [] (fun i=>[(3,oO 448 i.length)]) hM ?_ ?_ (ca:=fun i=>[(448,aT iC i)])
 ·intro e1 hM K3 hK3;refine S1 ?_;refine Zc ?_;refine lp (ι:=(List Int)×Int) [0] [] [] (fun i=>[(3,oO 448 i.1.length),(4,oI i.2)]) (fun n i=>Wb k a0 n i.1 i.2=some e1) k (([]:List Int),0) hM (by simp [Wb]) ?_ (ca:=fun i=>[(448,aT iC i.1)]);intro KL4 nL4 ⟨x2,x3⟩ hL4 hM _;have hM:Wb k a0 (nL4+1) x2 x3=some e1:=hM;rw [Wb] at hM;refine Zg fun K5 hK5=> ?_;refine S1 ?_;refine Zn hM (fun h6 hM=> ?_) (fun h6 hM=> ?_)
  ·have F:=Zwg (nf F h6) (lT h6);refine Zi ?_;refine hK5 _ ?_;refine mj (ι:=List Int) [0,4] [] [] (fun i=>[(3,oO 448 i.length)]) hM ?_ ?_ (ca:=fun i=>[(448,aT iC i)])
   ·intro e7 hM K9 hK9;refine Zc ?_;refine Zg fun K10 hK10=> ?_;obtain ⟨x5,e11,hM⟩:=bind_some hM;have F:=Zwg F (WZ e11);obtain ⟨x6,e12,hM⟩:=bind_some hM;refine Zs fun K h=> ?_;simp [go_sem,F];refine Qt false (Jr k x2 x5 x6 e12) ?_;simp [go_sem,F];refine h _ ?_;refine Zn hM (fun h13 hM=> ?_) (fun h13 hM=> ?_)
    ·have F:=nf F h13;exact au
    ·have F:=nf F h13;refine Zi ?_;refine hK10 _ ?_;refine S1 ?_;refine mj (ι:=Int) [0,3,4] [] [448] (fun i=>[(5,oI i)]) hM ?_ ?_
     ·intro e14 hM K16 hK16;refine Zc ?_;refine lp (ι:=Int) [0,3,4] [] [448] (fun i=>[(5,oI i)]) (fun n i=>Wa a0 x2 x3 n i=some e14) k 0 hM (by simp [Wa]) ?_;intro KL17 nL17 x8 hL17 hM _;have hM:Wa a0 x2 x3 (nL17+1) x8=some e14:=hM;rw [Wa] at hM;refine Zg fun K18 hK18=> ?_;refine mj (ι:=Bool) [0,3,4,5] [] [448] (fun i=>[(34,oB i)]) hM ?_ ?_
      ·intro e19 hM K21 hK21;rcases ifM hM with ⟨h22,hM⟩| ⟨h22,hM⟩
       ·have F:=Zwg (nf F h22) (lT h22);obtain ⟨x10,e23,hM⟩:=bind_some hM;have F:=Zwg F (WZ e23);have F:=Zwg F (ZhY e23);obtain ⟨x11,e24,hM⟩:=bind_some hM;have F:=Zwg F (Zwf (e11.symm.trans e24));have F:=Zwg F (WZ e24);refine ZB 13 mixed (by kernel_rfl) (by kernel_rfl) ?_;simp [go_sem,F];exact au
       ·have F:=Zwg (nf F h22) (lF h22);refine ZB 13 mixed (by kernel_rfl) (by kernel_rfl) ?_;simp [go_sem,F];exact au
      ·intro x9 hM;(try dsimp only at hM);exact au
     ·intro x7 hM;(try dsimp only at hM);obtain ⟨x12,e26,hM⟩:=bind_some hM;obtain ⟨c27,s28⟩:=ZfL e26;replace c27:=c27.symm;subst c27;(try simp at s28);have F:=Zwg F s28;obtain ⟨x13,e33,hM⟩:=bind_some hM;obtain ⟨c34,s35⟩:=Z0 e33;replace c34:=c34.symm;subst c34;(try simp [F] at s35);have F:=Zwg F s35;refine S1 ?_;obtain ⟨x14,e37,hM⟩:=bind_some hM;obtain ⟨c38,s39⟩:=Z0 e37;replace c38:=c38.symm;subst c38;(try simp [F] at s39);have F:=Zwg F s39;refine S1 ?_;obtain ⟨x15,e41,hM⟩:=bind_some hM;obtain ⟨c42,s43⟩:=ZfL e41;replace c42:=c42.symm;subst c42;(try simp at s43);have F:=Zwg F s43;obtain ⟨x16,e48,hM⟩:=bind_some hM;obtain ⟨c49,s50⟩:=Z0 e48;replace c49:=c49.symm;subst c49
      (try simp [F] at s50);have F:=Zwg F s50;refine Wz ?_;simp [go_sem,F];obtain rfl:=si hM;exact fr hK9 [(2368,448)] [0,3,4] [] [2368] (((([]:List Int)++((x2.take x7.toNat).drop (0:Int).toNat))++[x5])++((x2.take (x2.length:Int).toNat).drop x7.toNat)) rfl
   ·intro x4 hM;(try dsimp only at hM);exact au
  ·have F:=Zwg (nf F h6) (lF h6);exact au
 ·intro x1 hM;(try dsimp only at hM);exact au
instance:HC 73 (Ty @Zdh):=⟨Zdh⟩
theorem KG (k:Nat) (a0:List Zm) (a1:Int) (r:List Int) (hM:Qf k a0 a1=some r):Ctr Tryz.prog 27 [.one (.sl (a0.map Zm.c)),.one (.int .i64 a1)] true [.one (.sl (r.map iC))]:=by
 unfold Qf at hM;refine Zr Tryz.func27 Tryz.ntmps27 Tryz.results27 fun N w0 hbad F=> ?_;refine S1 ?_;refine S1 ?_;refine Zg fun K1 hK1=> ?_;obtain ⟨x1,e2,hM⟩:=bind_some hM;refine Zs fun K h=> ?_;simp [go_sem,F];refine Qt false (ZcO a1 0 (IntKind.i64.wrap ((a0.length:Int)-1)) x1 e2) ?_;simp [go_sem,F];refine h _ ?_;refine Zn hM (fun h3 hM=> ?_) (fun h3 hM=> ?_)
 ·have F:=nf F h3;exact au
 ·have F:=nf F h3;refine Zi ?_;refine hK1 _ ?_;obtain ⟨x2,e4,hM⟩:=bind_some hM;have F:=Zwg F (WZ e4);obtain ⟨x3,e5,hM⟩:=bind_some hM;refine Zs fun K h=> ?_;simp [go_sem,F];refine Qt false (Zah k x2 x3 e5) ?_;simp [go_sem,F];refine h _ ?_;refine mj (ι:=List Int) [] [] [] (fun i=>[(5,oO 576 i.length)]) hM ?_ ?_ (ca:=fun i=>[(576,aT iC i)])
  ·intro e6 hM K8 hK8;refine S1 ?_;refine Zc ?_;refine lp (ι:=(List Int)×Int) [0,6] [] [1344] (fun i=>[(5,oO 576 i.1.length),(7,oI i.2)]) (fun n i=>Z9 k a0 x3 n i.1 i.2=some e6) k (([]:List Int),0) hM (by simp [Z9]) ?_ (ca:=fun i=>[(576,aT iC i.1)]);intro KL9 nL9 ⟨x5,x6⟩ hL9 hM _;have hM:Z9 k a0 x3 (nL9+1) x5 x6=some e6:=hM;rw [Z9] at hM;refine Zg fun K10 hK10=> ?_;refine S1 ?_;refine Zn hM (fun h11 hM=> ?_) (fun h11 hM=> ?_)
   ·have F:=Zwg (nf F h11) (lT h11);refine Zi ?_;refine hK10 _ ?_;refine mj (ι:=List Int) [0,6,7] [] [1344] (fun i=>[(5,oO 576 i.length)]) hM ?_ ?_ (ca:=fun i=>[(576,aT iC i)])
    ·intro e12 hM K14 hK14;exact au
    ·intro x7 hM;(try dsimp only at hM);exact au
   ·have F:=Zwg (nf F h11) (lF h11);exact au
  ·intro x4 hM;(try dsimp only at hM);exact au
instance:HC 27 (Ty @KG):=⟨KG⟩
theorem Zec (k:Nat) (a0:List Zm) (a1:Int) (r:List Int) (hM:Zij k a0 a1=some r):Ctr Tryz.prog 248 [.one (.sl (a0.map Zm.c)),.one (.int .i64 a1)] true [.one (.sl (r.map iC))]:=by
 unfold Zij at hM;refine Zr Tryz.func248 Tryz.ntmps248 Tryz.results248 fun N w0 hbad F=> ?_;refine S1 ?_;refine S1 ?_;refine mj (ι:=List Int) [] [] [] (fun i=>[(5,oO 448 i.length)]) hM ?_ ?_ (ca:=fun i=>[(448,aT iC i)])
 ·intro e1 hM K3 hK3;refine S1 ?_;refine Zc ?_;refine lp (ι:=(List Int)×Int) [0,1] [] [] (fun i=>[(5,oO 448 i.1.length),(6,oI i.2)]) (fun n i=>Uw k a0 a1 n i.1 i.2=some e1) k (([]:List Int),0) hM (by simp [Uw]) ?_ (ca:=fun i=>[(448,aT iC i.1)]);intro KL4 nL4 ⟨x2,x3⟩ hL4 hM _;have hM:Uw k a0 a1 (nL4+1) x2 x3=some e1:=hM;rw [Uw] at hM;refine Zg fun K5 hK5=> ?_;refine S1 ?_;refine Zn hM (fun h6 hM=> ?_) (fun h6 hM=> ?_)
  ·have F:=Zwg (nf F h6) (lT h6);refine Zi ?_;refine hK5 _ ?_;refine mj (ι:=List Int) [0,1,6] [] [] (fun i=>[(5,oO 448 i.length)]) hM ?_ ?_ (ca:=fun i=>[(448,aT iC i)])
   ·intro e7 hM K9 hK9;exact au
   ·intro x4 hM;(try dsimp only at hM);exact au
  ·have F:=Zwg (nf F h6) (lF h6);exact au
 ·intro x1 hM;(try dsimp only at hM);exact au
instance:HC 248 (Ty @Zec):=⟨Zec⟩
theorem Uk (k:Nat) (a0:List Zm) (a1:Int) (a2:Bool) (r:List Int) (hM:V0 k a0 a1 a2=some r):Ctr Tryz.prog 195 [.one (.sl (a0.map Zm.c)),.one (.int .i64 a1),.one (.bool a2)] true [.one (.sl (r.map iC))]:=by
 unfold V0 at hM;refine Zr Tryz.func195 Tryz.ntmps195 Tryz.results195 fun N w0 hbad F=> ?_;exact au
instance:HC 195 (Ty @Uk):=⟨Uk⟩
theorem Zdi (k:Nat) (a0:List Zm) (a1:Int) (a2:Bool) (r:List Int) (hM:ZaL k a0 a1 a2=some r):Ctr Tryz.prog 150 [.one (.sl (a0.map Zm.c)),.one (.int .i64 a1),.one (.bool a2)] true [.one (.sl (r.map iC))]:=by
 unfold ZaL at hM;refine Zr Tryz.func150 Tryz.ntmps150 Tryz.results150 fun N w0 hbad F=> ?_;refine S1 ?_;obtain ⟨x1,e1,hM⟩:=bind_some hM;refine Zs fun K h=> ?_;simp [go_sem,F];refine Qt false (Uk k a0 a1 a2 x1 e1) ?_;simp [go_sem,F];refine h _ ?_;refine mj (ι:=List Int) [] [] [] (fun i=>[(7,oO 896 i.length)]) hM ?_ ?_ (ca:=fun i=>[(896,aT iC i)])
 ·intro e2 hM K4 hK4;refine S1 ?_;refine Zc ?_;refine lp (ι:=(List Int)×Int) [0,2] [] [] (fun i=>[(7,oO 896 i.1.length),(8,oI i.2)]) (fun n i=>Wd k a0 a2 n i.1 i.2=some e2) k (x1,0) hM (by simp [Wd]) ?_ (ca:=fun i=>[(896,aT iC i.1)]);intro KL5 nL5 ⟨x3,x4⟩ hL5 hM _;have hM:Wd k a0 a2 (nL5+1) x3 x4=some e2:=hM;rw [Wd] at hM;refine Zg fun K6 hK6=> ?_;refine S1 ?_;refine Zn hM (fun h7 hM=> ?_) (fun h7 hM=> ?_)
  ·have F:=Zwg (nf F h7) (lT h7);refine Zi ?_;refine hK6 _ ?_;refine mj (ι:=List Int) [0,2,8] [] [] (fun i=>[(7,oO 896 i.length)]) hM ?_ ?_ (ca:=fun i=>[(896,aT iC i)])
   ·intro e8 hM K10 hK10;refine Zc ?_;obtain ⟨x6,e11,hM⟩:=bind_some hM;have F:=Zwg F (WZ e11);have F:=Zwg F (ZhY e11);obtain ⟨x7,e12,hM⟩:=bind_some hM;refine Zs fun K h=> ?_;simp [go_sem,F];refine Qt false (Uk k a0 x6 a2 x7 e12) ?_;simp [go_sem,F];refine h _ ?_;refine S1 ?_;refine Zc ?_;refine lp (ι:=(List Int)×Int) [0,2,8,9] [] [1728] (fun i=>[(7,oO 896 i.1.length),(10,oI i.2)]) (fun n i=>Wc k x7 n i.1 i.2=some e8) k (x3,0) hM (by simp [Wc]) ?_ (ca:=fun i=>[(896,aT iC i.1)]);intro KL13 nL13 ⟨x8,x9⟩ hL13 hM _;have hM:Wc k x7 (nL13+1) x8 x9=some e8:=hM;rw [Wc] at hM;refine Zg fun K14 hK14=> ?_;refine S1 ?_;refine Zn hM (fun h15 hM=> ?_) (fun h15 hM=> ?_)
    ·have F:=Zwg (nf F h15) (lT h15);refine Zi ?_;refine hK14 _ ?_;refine mj (ι:=List Int) [0,2,8,9,10] [] [1728] (fun i=>[(7,oO 896 i.length)]) hM ?_ ?_ (ca:=fun i=>[(896,aT iC i)])
     ·intro e16 hM K18 hK18;exact au
     ·intro x10 hM;(try dsimp only at hM);exact au
    ·have F:=Zwg (nf F h15) (lF h15);exact au
   ·intro x5 hM;(try dsimp only at hM);exact au
  ·have F:=Zwg (nf F h7) (lF h7);exact au
 ·intro x2 hM;(try dsimp only at hM);exact au
instance:HC 150 (Ty @Zdi):=⟨Zdi⟩
theorem Zb4 (k:Nat) (a0:List Zm) (a1:Int) (r:List Int) (hM:Zam k a0 a1=some r):Ctr Tryz.prog 119 [.one (.sl (a0.map Zm.c)),.one (.int .i64 a1)] true [.one (.sl (r.map iC))]:=by
 unfold Zam at hM;refine Zr Tryz.func119 Tryz.ntmps119 Tryz.results119 fun N w0 hbad F=> ?_;exact au
instance:HC 119 (Ty @Zb4):=⟨Zb4⟩
theorem Zb2 (k:Nat) (a0:List Zm) (a1:Int) (r:Bool) (hM:UH k a0 a1=some r):Ctr Tryz.prog 66 [.one (.sl (a0.map Zm.c)),.one (.int .i64 a1)] true [.one (.bool r)]:=by
 unfold UH at hM;refine Zr Tryz.func66 Tryz.ntmps66 Tryz.results66 fun N w0 hbad F=> ?_;exact au
instance:HC 66 (Ty @Zb2):=⟨Zb2⟩
theorem JJ (k:Nat) (a0:List Zm) (a1:Int) (r:Bool) (hM:Qw k a0 a1=some r):Ctr Tryz.prog 117 [.one (.sl (a0.map Zm.c)),.one (.int .i64 a1)] true [.one (.bool r)]:=by
 unfold Qw at hM;refine Zr Tryz.func117 Tryz.ntmps117 Tryz.results117 fun N w0 hbad F=> ?_;refine S1 ?_;refine mj (ι:=Bool) [] [] [] (fun i=>[(4,oB i)]) hM ?_ ?_
 ·intro e1 hM K3 hK3;exact au
 ·intro x1 hM;(try dsimp only at hM);exact au
instance:HC 117 (Ty @JJ):=⟨JJ⟩
theorem Za3 (k:Nat) (a0:List Zm) (a1:Int) (a2:Bool) (r:Zb×Bool) (hM:XU k a0 a1 a2=some r):Ctr Tryz.prog 65 [.one (.sl (a0.map Zm.c)),.one (.int .i64 a1),.one (.bool a2)] true [.agg (Zb.c r.1),.one (.bool r.2)]:=by
 unfold XU at hM;refine Zr Tryz.func65 Tryz.ntmps65 Tryz.results65 fun N w0 hbad F=> ?_;exact au
instance:HC 65 (Ty @Za3):=⟨Za3⟩
theorem KF (k:Nat) (a0:List Zm) (a1:Int) (r:Zb×Bool) (hM:Wk k a0 a1=some r):Ctr Tryz.prog 23 [.one (.sl (a0.map Zm.c)),.one (.int .i64 a1)] true [.agg (Zb.c r.1),.one (.bool r.2)]:=by
 unfold Wk at hM;refine Zr Tryz.func23 Tryz.ntmps23 Tryz.results23 fun N w0 hbad F=> ?_;exact au
instance:HC 23 (Ty @KF):=⟨KF⟩
theorem Za6 (k:Nat) (a0:List Zm) (r:List (List Int)) (hM:JE k a0=some r):Ctr Tryz.prog 67 [.one (.sl (a0.map Zm.c))] true [.one (.sl (r.map (lC iC)))]:=by
 unfold JE at hM;refine Zr Tryz.func67 Tryz.ntmps67 Tryz.results67 fun N w0 hbad F=> ?_;refine S1 ?_;refine S1 ?_;refine mj (ι:=List (List Int)) [] [] [] (fun i=>[(3,oO 320 i.length)]) hM ?_ ?_ (ca:=fun i=>[(320,aT (lC iC) i)])
 ·intro e1 hM K3 hK3;refine S1 ?_;refine Zc ?_;refine lp (ι:=(List (List Int))×Int) [0] [] [] (fun i=>[(3,oO 320 i.1.length),(4,oI i.2)]) (fun n i=>Y4 k a0 n i.1 i.2=some e1) k (([]:List (List Int)),0) hM (by simp [Y4]) ?_ (ca:=fun i=>[(320,aT (lC iC) i.1)]);intro KL4 nL4 ⟨x2,x3⟩ hL4 hM _;have hM:Y4 k a0 (nL4+1) x2 x3=some e1:=hM;rw [Y4] at hM;exact au
 ·intro x1 hM;(try dsimp only at hM);exact au
instance:HC 67 (Ty @Za6):=⟨Za6⟩
theorem Zae (k:Nat) (a0:List (List Int)) (r:List Bool) (hM:Vx k a0=some r):Ctr Tryz.prog 69 [.one (.sl (a0.map (lC iC)))] true [.one (.sl (r.map bC))]:=by
 unfold Vx at hM;refine Zr Tryz.func69 Tryz.ntmps69 Tryz.results69 fun N w0 hbad F=> ?_;refine S1 ?_;obtain ⟨x1,e1,hM⟩:=bind_some hM;obtain ⟨c2,s3⟩:=Zgd e1;replace c2:=c2.symm;subst c2;(try simp at s3);have F:=Zwg F s3;refine S1 ?_;refine mj (ι:=List Bool) [] [] [] (fun i=>[(3,oO 704 i.length)]) hM ?_ ?_ (ca:=fun i=>[(704,aT bC i)])
 ·intro e6 hM K8 hK8;refine S1 ?_;refine Zc ?_;refine lp (ι:=(List Bool)×Int) [0] [] [] (fun i=>[(3,oO 704 i.1.length),(4,oI i.2)]) (fun n i=>YF k a0 n i.1 i.2=some e6) k ((List.replicate ((a0.length:Int).toNat) false),0) hM (by simp [YF]) ?_ (ca:=fun i=>[(704,aT bC i.1)]);intro KL9 nL9 ⟨x3,x4⟩ hL9 hM _;have hM:YF k a0 (nL9+1) x3 x4=some e6:=hM;rw [YF] at hM;refine Zg fun K10 hK10=> ?_;refine S1 ?_;refine Zn hM (fun h11 hM=> ?_) (fun h11 hM=> ?_)
  ·have F:=Zwg (nf F h11) (lT h11);refine Zi ?_;refine hK10 _ ?_;refine Zg fun K12 hK12=> ?_;refine Zc ?_;obtain ⟨x5,e13,hM⟩:=bind_some hM;have F:=Zwg F (WZ e13);obtain ⟨x6,e14,hM⟩:=bind_some hM;obtain ⟨c15,s16⟩:=Z0 e14;replace c15:=c15.symm;subst c15;(try simp at s16);have F:=Zwg F s16;refine S1 ?_;refine mj (ι:=List Int) [0,3,4] [] [704] (fun i=>[(5,oO 1152 i.length)]) hM ?_ ?_ (ca:=fun i=>[(1152,aT iC i)])
   ·intro e18 hM K20 hK20;refine S1 ?_;refine Zc ?_;refine lp (ι:=(List Int)×Int) [0,3,4] [] [704] (fun i=>[(5,oO 1152 i.1.length),(6,oI i.2)]) (fun n i=>YE k a0 n i.1 i.2=some e18) k ((([]:List Int)++x5),0) hM (by simp [YE]) ?_ (ca:=fun i=>[(1152,aT iC i.1)]);intro KL21 nL21 ⟨x8,x9⟩ hL21 hM _;have hM:YE k a0 (nL21+1) x8 x9=some e18:=hM;rw [YE] at hM;refine Zg fun K22 hK22=> ?_;refine S1 ?_;refine Zn hM (fun h23 hM=> ?_) (fun h23 hM=> ?_)
    ·have F:=Zwg (nf F h23) (lT h23);refine Zi ?_;refine hK22 _ ?_;refine mj (ι:=List Int) [0,3,4,6] [] [704] (fun i=>[(5,oO 1152 i.length)]) hM ?_ ?_ (ca:=fun i=>[(1152,aT iC i)])
     ·intro e24 hM K26 hK26;refine Zc ?_;obtain ⟨x11,e27,hM⟩:=bind_some hM;have F:=Zwg F (WZ e27);have F:=Zwg F (ZhY e27);obtain ⟨x12,e28,hM⟩:=bind_some hM;have F:=Zwg F (WZ e28);refine S1 ?_;refine S1 ?_;refine Zc ?_;refine lp (ι:=(List Int)×Int) [0,3,4,6,7] [] [704] (fun i=>[(5,oO 1152 i.1.length),(8,oI i.2)]) (fun n i=>QA k x12 n i.1 i.2=some e24) k (x8,0) hM (by simp [QA]) ?_ (ca:=fun i=>[(1152,aT iC i.1)]);intro KL29 nL29 ⟨x13,x14⟩ hL29 hM _;have hM:QA k x12 (nL29+1) x13 x14=some e24:=hM;rw [QA] at hM;refine Zg fun K30 hK30=> ?_;refine S1 ?_;refine Zn hM (fun h31 hM=> ?_) (fun h31 hM=> ?_)
      ·have F:=Zwg (nf F h31) (lT h31);refine Zi ?_;refine hK30 _ ?_;refine mj (ι:=List Int) [0,3,4,6,7,8] [] [704] (fun i=>[(5,oO 1152 i.length)]) hM ?_ ?_ (ca:=fun i=>[(1152,aT iC i)])
       ·intro e32 hM K34 hK34;exact au
       ·intro x15 hM;(try dsimp only at hM);exact au
      ·have F:=Zwg (nf F h31) (lF h31);exact au
     ·intro x10 hM;(try dsimp only at hM);exact au
    ·have F:=Zwg (nf F h23) (lF h23);exact au
   ·intro x7 hM;(try dsimp only at hM);exact au
  ·have F:=Zwg (nf F h11) (lF h11);exact au
 ·intro x2 hM;(try dsimp only at hM);exact au
instance:HC 69 (Ty @Zae):=⟨Zae⟩
theorem Za4 (k:Nat) (a0:List Int) (a1:List Int) (a2:List Bool) (r:Bool) (hM:Uu k a0 a1 a2=some r):Ctr Tryz.prog 120 [.one (.sl (a0.map iC)),.one (.sl (a1.map iC)),.one (.sl (a2.map bC))] true [.one (.bool r)]:=by
 unfold Uu at hM;refine Zr Tryz.func120 Tryz.ntmps120 Tryz.results120 fun N w0 hbad F=> ?_;refine S1 ?_;refine mjE (ι:=Unit) [] [] [] (fun i=>[]) hM ?_ ?_
 ·intro e1 hM hR1 K3 hK3;refine S1 ?_;refine Zc ?_;refine lp (ι:=Int) [0,1,2] [] [] (fun i=>[(7,oI i)]) (fun n i=>QY k a0 a1 a2 n i=some e1) k 0 hM (by simp [QY]) ?_;intro KL4 nL4 x1 hL4 hM _;have hM:QY k a0 a1 a2 (nL4+1) x1=some e1:=hM;rw [QY] at hM;refine Zg fun K5 hK5=> ?_;refine S1 ?_;refine Zn hM (fun h6 hM=> ?_) (fun h6 hM=> ?_)
  ·have F:=Zwg (nf F h6) (lT h6);refine Zi ?_;refine hK5 _ ?_;refine Zg fun K7 hK7=> ?_;refine Zc ?_;refine mj (ι:=Bool) [0,1,2,7] [] [] (fun i=>[(29,oB i)]) hM ?_ ?_
   ·intro e8 hM K10 hK10;exact au
   ·intro x2 hM;(try dsimp only at hM);exact au
  ·have F:=Zwg (nf F h6) (lF h6);exact au
 ·intro _ hM;dsimp only at hM;exact au
instance:HC 120 (Ty @Za4):=⟨Za4⟩
theorem Za5 (k:Nat) (a0:List Zm) (a1:List (List Int)) (a2:List Bool) (r:List Int) (hM:ZaJ k a0 a1 a2=some r):Ctr Tryz.prog 68 [.one (.sl (a0.map Zm.c)),.one (.sl (a1.map (lC iC))),.one (.sl (a2.map bC))] true [.one (.sl (r.map iC))]:=by
 unfold ZaJ at hM;refine Zr Tryz.func68 Tryz.ntmps68 Tryz.results68 fun N w0 hbad F=> ?_;refine S1 ?_;obtain ⟨x1,e1,hM⟩:=bind_some hM;obtain ⟨c2,s3⟩:=Zgd e1;replace c2:=c2.symm;subst c2;(try simp at s3);have F:=Zwg F s3;refine S1 ?_;refine S1 ?_;refine mj (ι:=(List Bool)×Int) [0,1] [] [] (fun i=>[(7,oO 896 i.1.length),(8,oI i.2)]) hM ?_ ?_ (ca:=fun i=>[(896,aT bC i.1)])
 ·intro e6 hM K8 hK8;refine S1 ?_;refine Zc ?_;refine lp (ι:=(List Bool)×Int×Int) [0,1,2] [] [] (fun i=>[(7,oO 896 i.1.length),(8,oI i.2.1),(9,oI i.2.2)]) (fun n i=>Y3 k a0 a2 n i.1 i.2.1 i.2.2=some e6) k ((List.replicate ((a0.length:Int).toNat) false),0,0) hM (by simp [Y3]) ?_ (ca:=fun i=>[(896,aT bC i.1)]);intro KL9 nL9 ⟨x4,x5,x6⟩ hL9 hM _;have hM:Y3 k a0 a2 (nL9+1) x4 x5 x6=some e6:=hM;rw [Y3] at hM;refine Zg fun K10 hK10=> ?_;refine S1 ?_;refine Zn hM (fun h11 hM=> ?_) (fun h11 hM=> ?_)
  ·have F:=Zwg (nf F h11) (lT h11);refine Zi ?_;refine hK10 _ ?_;refine mj (ι:=(List Bool)×Int) [0,1,2,9] [] [] (fun i=>[(7,oO 896 i.1.length),(8,oI i.2)]) hM ?_ ?_ (ca:=fun i=>[(896,aT bC i.1)])
   ·intro e12 hM K14 hK14;refine Zc ?_;refine mj (ι:=List Bool) [0,1,2,8,9] [] [] (fun i=>[(7,oO 896 i.length)]) hM ?_ ?_ (ca:=fun i=>[(896,aT bC i)])
    ·intro e15 hM K17 hK17;exact au
    ·intro x9 hM;(try dsimp only at hM);exact au
   ·rintro ⟨x7,x8⟩ hM;dsimp only at hM;exact au
  ·have F:=Zwg (nf F h11) (lF h11);exact au
 ·rintro ⟨x2,x3⟩ hM;dsimp only at hM;refine S1 ?_;refine mj (ι:=List Int) [] [] [] (fun i=>[(10,oO 3648 i.length)]) hM ?_ ?_ (ca:=fun i=>[(3648,aT iC i)])
  ·intro e30 hM K32 hK32;refine Zc ?_;refine lp (ι:=List Int) [0,1,7,8] [] [896] (fun i=>[(10,oO 3648 i.length)]) (fun n i=>YN k a0 a1 x2 x3 n i=some e30) k ([]:List Int) hM (by simp [YN]) ?_ (ca:=fun i=>[(3648,aT iC i)]);intro KL33 nL33 x19 hL33 hM _;have hM:YN k a0 a1 x2 x3 (nL33+1) x19=some e30:=hM;rw [YN] at hM;refine Zg fun K34 hK34=> ?_;refine S1 ?_;refine Zn hM (fun h35 hM=> ?_) (fun h35 hM=> ?_)
   ·have F:=Zwg (nf F h35) (lT h35);refine Zi ?_;refine hK34 _ ?_;refine Zc ?_;refine S1 ?_;refine Zc ?_;refine lp (ι:=Int) [0,1,7,8,10] [] [896,3648] (fun i=>[(11,oI i)]) (fun n i=>YM (YN k a0 a1 x2 x3 nL33) k a0 a1 x2 x19 n i=some e30) k 0 hM (by simp [YM]) ?_;intro KL36 nL36 x20 hL36 hM _;have hM:YM (YN k a0 a1 x2 x3 nL33) k a0 a1 x2 x19 (nL36+1) x20=some e30:=hM;rw [YM] at hM;refine Zg fun K37 hK37=> ?_;refine S1 ?_;refine Zn hM (fun h38 hM=> ?_) (fun h38 hM=> ?_)
    ·have F:=Zwg (nf F h38) (lT h38);refine Zi ?_;refine hK37 _ ?_;refine Zg fun K39 hK39=> ?_;refine Zc ?_;refine mj (ι:=Bool) [0,1,7,8,10,11] [] [896,3648] (fun i=>[(86,oB i)]) hM ?_ ?_
     ·intro e40 hM K42 hK42;exact au
     ·intro x21 hM;(try dsimp only at hM);exact au
    ·have F:=Zwg (nf F h38) (lF h38);exact au
   ·have F:=Zwg (nf F h35) (lF h35);exact au
  ·intro x18 hM;(try dsimp only at hM);exact au
instance:HC 68 (Ty @Za5):=⟨Za5⟩
set_option maxHeartbeats 4000000
set_option maxRecDepth 100000
theorem Jt (k:Nat) (a0:List Zm) (r:List Int) (hM:JF k a0=some r):Ctr Tryz.prog 24 [.one (.sl (a0.map Zm.c))] true [.one (.sl (r.map iC))]:=by
 unfold JF at hM;refine Zr Tryz.func24 Tryz.ntmps24 Tryz.results24 fun N w0 hbad F=> ?_;exact au
instance:HC 24 (Ty @Jt):=⟨Jt⟩
theorem UC (a0:ByteArray) (r:Int) (hM:Xi a0=some r):Ctr Tryz.prog 124 [.one (.str a0)] true [.one (.int .i64 r)]:=by
 unfold Xi at hM;refine Zr Tryz.func124 Tryz.ntmps124 Tryz.results124 fun N w0 hbad F=> ?_;refine S1 ?_;refine Zg fun K1 hK1=> ?_;refine S1 ?_;refine Zc ?_;refine mj (ι:=Bool) [3] [] [] (fun i=>[(4,oB i)]) hM ?_ ?_
 ·intro e2 hM K4 hK4;exact au
 ·intro x1 hM;(try dsimp only at hM);exact au
instance:HC 124 (Ty @UC):=⟨UC⟩
theorem ZfW:∀(k:Nat),(∀(a0:Za) (r:Bool) (hM:Y0 k a0=some r),Ctr Tryz.prog 71 [.agg (Za.c a0)] true [.one (.bool r)]):=by
 intro k
 induction k with
 | zero=>intro a0 r hM;simp [Y0] at hM
 | succ k ih_s_l36Pipe=>
  ·intro a0 r hM;haveI:HC 71 _:=⟨ih_s_l36Pipe⟩;rw [Y0] at hM;refine Zr Tryz.func71 Tryz.ntmps71 Tryz.results71 fun N w0 hbad F=> ?_;refine S1 ?_;refine Zg fun K1 hK1=> ?_;refine S1 ?_;refine Zn hM (fun h2 hM=> ?_) (fun h2 hM=> ?_)
   ·have F:=nf F h2;exact au
   ·have F:=nf F h2;refine Zi ?_;refine hK1 _ ?_;obtain ⟨x1,e3,hM⟩:=bind_some hM;refine Zs fun K h=> ?_;simp [go_sem,F];refine Qt false (UC a0.text x1 e3) ?_;simp [go_sem,F];refine h _ ?_;refine Zg fun K4 hK4=> ?_;refine mj (ι:=Bool) [1,3] [1] [] (fun i=>[(18,oB i)]) hM ?_ ?_
    ·intro e5 hM K7 hK7;exact au
    ·intro x2 hM;(try dsimp only at hM);refine Zn hM (fun h9 hM=> ?_) (fun h9 hM=> ?_)
     ·have F:=nf F h9;exact au
     ·have F:=nf F h9;refine Zi ?_;refine hK4 _ ?_;refine mjE (ι:=Unit) [] [] [] (fun i=>[]) hM ?_ ?_
      ·intro e10 hM hR1 K12 hK12;refine S1 ?_;refine Zc ?_;refine lp (ι:=Int) [1,3] [1] [] (fun i=>[(4,oI i)]) (fun n i=>XA (Y0 k) a0 x1 n i=some e10) k 0 hM (by simp [XA]) ?_;intro KL13 nL13 x3 hL13 hM _;have hM:XA (Y0 k) a0 x1 (nL13+1) x3=some e10:=hM;rw [XA] at hM;refine Zg fun K14 hK14=> ?_;refine S1 ?_;refine Zn hM (fun h15 hM=> ?_) (fun h15 hM=> ?_)
       ·have F:=Zwg (nf F h15) (lT h15);refine Zi ?_;refine hK14 _ ?_;refine Zg fun K16 hK16=> ?_;refine Zc ?_;obtain ⟨x4,e17,hM⟩:=bind_some hM;have F:=Zwg F (WZ e17);refine S1 ?_;refine mj (ι:=Bool) [1,3,4] [1] [] (fun i=>[(61,oB i)]) hM ?_ ?_
        ·intro e18 hM K20 hK20;exact au
        ·intro x5 hM;(try dsimp only at hM);exact au
       ·have F:=Zwg (nf F h15) (lF h15);exact au
      ·intro _ hM;dsimp only at hM;exact au
theorem ZbT (k:Nat):∀(a0:Za) (r:Bool) (hM:Y0 k a0=some r),Ctr Tryz.prog 71 [.agg (Za.c a0)] true [.one (.bool r)]:=(ZfW k)
instance:HC 71 (Ty @ZbT):=⟨ZbT⟩
theorem KE (k:Nat) (a0:Za) (r:Bool) (hM:W3 k a0=some r):Ctr Tryz.prog 25 [.agg (Za.c a0)] true [.one (.bool r)]:=by
 unfold W3 at hM;refine Zr Tryz.func25 Tryz.ntmps25 Tryz.results25 fun N w0 hbad F=> ?_;refine S1 ?_;refine mj (ι:=Bool) [] [] [] (fun i=>[(2,oB i)]) hM ?_ ?_
 ·intro e1 hM K3 hK3;exact au
 ·intro x1 hM;(try dsimp only at hM);exact au
instance:HC 25 (Ty @KE):=⟨KE⟩
theorem Zdg (k:Nat) (a0:List Int) (a1:List Int) (r:Bool) (hM:ZbV k a0 a1=some r):Ctr Tryz.prog 26 [.one (.sl (a0.map iC)),.one (.sl (a1.map iC))] true [.one (.bool r)]:=by
 unfold ZbV at hM;refine Zr Tryz.func26 Tryz.ntmps26 Tryz.results26 fun N w0 hbad F=> ?_;refine S1 ?_;refine mjE (ι:=Unit) [] [] [] (fun i=>[]) hM ?_ ?_
 ·intro e1 hM hR1 K3 hK3;refine S1 ?_;refine Zc ?_;refine lp (ι:=Int) [0,1] [] [] (fun i=>[(5,oI i)]) (fun n i=>X9 k a0 a1 n i=some e1) k 0 hM (by simp [X9]) ?_;intro KL4 nL4 x1 hL4 hM _;have hM:X9 k a0 a1 (nL4+1) x1=some e1:=hM;rw [X9] at hM;exact au
 ·intro _ hM;dsimp only at hM;exact au
instance:HC 26 (Ty @Zdg):=⟨Zdg⟩
theorem WW (k:Nat) (a0:Ze) (r:List Int) (hM:Wh k a0=some r):Ctr Tryz.prog 6 [.agg (Ze.c a0)] true [.one (.sl (r.map iC))]:=by
 unfold Wh at hM;refine Zr Tryz.func6 Tryz.ntmps6 Tryz.results6 fun N w0 hbad F=> ?_;refine S1 ?_;obtain ⟨x1,e1,hM⟩:=bind_some hM;refine Zs fun K h=> ?_;simp [go_sem,F];refine Qt false (Ud k a0 x1 e1) ?_;simp [go_sem,F];refine h _ ?_;refine S1 ?_;refine mj (ι:=List Int) [1,3] [1] [] (fun i=>[(4,oO 960 i.length)]) hM ?_ ?_ (ca:=fun i=>[(960,aT iC i)])
 ·intro e2 hM K4 hK4;refine S1 ?_;refine Zc ?_;refine lp (ι:=(List Int)×Int) [1,3] [1] [] (fun i=>[(4,oO 960 i.1.length),(5,oI i.2)]) (fun n i=>ZS k x1 n i.1 i.2=some e2) k (([]:List Int),0) hM (by simp [ZS]) ?_ (ca:=fun i=>[(960,aT iC i.1)]);intro KL5 nL5 ⟨x3,x4⟩ hL5 hM _;have hM:ZS k x1 (nL5+1) x3 x4=some e2:=hM;rw [ZS] at hM;refine Zg fun K6 hK6=> ?_;refine S1 ?_;refine Zn hM (fun h7 hM=> ?_) (fun h7 hM=> ?_)
  ·have F:=Zwg (nf F h7) (lT h7);refine Zi ?_;refine hK6 _ ?_;refine mj (ι:=List Int) [1,3,5] [1] [] (fun i=>[(4,oO 960 i.length)]) hM ?_ ?_ (ca:=fun i=>[(960,aT iC i)])
   ·intro e8 hM K10 hK10;exact au
   ·intro x5 hM;(try dsimp only at hM);exact au
  ·have F:=Zwg (nf F h7) (lF h7);exact au
 ·intro x2 hM;(try dsimp only at hM);obtain ⟨x8,e17,hM⟩:=bind_some hM;refine Zs fun K h=> ?_;simp [go_sem,F];refine Qt false (Jt k x1 x8 e17) ?_;simp [go_sem,F];refine h _ ?_;refine mj (ι:=List Int) [1,3] [1] [] (fun i=>[(4,oO 960 i.length)]) hM ?_ ?_ (ca:=fun i=>[(960,aT iC i)])
  ·intro e18 hM K20 hK20;refine S1 ?_;refine Zc ?_;refine lp (ι:=(List Int)×Int) [1,3,8] [1] [2304] (fun i=>[(4,oO 960 i.1.length),(9,oI i.2)]) (fun n i=>ZR k x1 x8 n i.1 i.2=some e18) k (x2,0) hM (by simp [ZR]) ?_ (ca:=fun i=>[(960,aT iC i.1)]);intro KL21 nL21 ⟨x10,x11⟩ hL21 hM _;have hM:ZR k x1 x8 (nL21+1) x10 x11=some e18:=hM;rw [ZR] at hM;refine Zg fun K22 hK22=> ?_;refine S1 ?_;refine Zn hM (fun h23 hM=> ?_) (fun h23 hM=> ?_)
   ·have F:=Zwg (nf F h23) (lT h23);refine Zi ?_;refine hK22 _ ?_;refine mj (ι:=List Int) [1,3,8,9] [1] [2304] (fun i=>[(4,oO 960 i.length)]) hM ?_ ?_ (ca:=fun i=>[(960,aT iC i)])
    ·intro e24 hM K26 hK26;refine Zc ?_;obtain ⟨x13,e27,hM⟩:=bind_some hM;have F:=Zwg F (WZ e27);have F:=Zwg F (ZhY e27);refine S1 ?_;refine mj (ι:=Bool) [1,3,4,8,9,10] [1] [960,2304] (fun i=>[(67,oB i)]) hM ?_ ?_
     ·intro e28 hM K30 hK30;exact au
     ·intro x14 hM;(try dsimp only at hM);exact au
    ·intro x12 hM;(try dsimp only at hM);exact au
   ·have F:=Zwg (nf F h23) (lF h23);exact au
  ·intro x9 hM;(try dsimp only at hM);refine S1 ?_;refine mj (ι:=List Int) [] [] [] (fun i=>[(11,oO 4608 i.length)]) hM ?_ ?_ (ca:=fun i=>[(4608,aT iC i)])
   ·intro e42 hM K44 hK44;refine S1 ?_;refine Zc ?_;refine lp (ι:=(List Int)×Int) [1,3,4] [1] [960] (fun i=>[(11,oO 4608 i.1.length),(12,oI i.2)]) (fun n i=>ZQ k a0 x1 x9 n i.1 i.2=some e42) k (([]:List Int),0) hM (by simp [ZQ]) ?_ (ca:=fun i=>[(4608,aT iC i.1)]);intro KL45 nL45 ⟨x21,x22⟩ hL45 hM _;have hM:ZQ k a0 x1 x9 (nL45+1) x21 x22=some e42:=hM;rw [ZQ] at hM;refine Zg fun K46 hK46=> ?_;refine S1 ?_;refine Zn hM (fun h47 hM=> ?_) (fun h47 hM=> ?_)
    ·have F:=Zwg (nf F h47) (lT h47);refine Zi ?_;refine hK46 _ ?_;refine mj (ι:=List Int) [1,3,4,12] [1] [960] (fun i=>[(11,oO 4608 i.length)]) hM ?_ ?_ (ca:=fun i=>[(4608,aT iC i)])
     ·intro e48 hM K50 hK50;exact au
     ·intro x23 hM;(try dsimp only at hM);exact au
    ·have F:=Zwg (nf F h47) (lF h47);exact au
   ·intro x20 hM;(try dsimp only at hM);exact au
instance:HC 6 (Ty @WW):=⟨WW⟩
theorem Zdq (a0:Int) (a1:Int) (a2:Int) (r:Bool) (hM:X3 a0 a1 a2=some r):Ctr Tryz.prog 103 [.one (.int .i64 a0),.one (.int .i64 a1),.one (.int .i64 a2)] true [.one (.bool r)]:=by
 unfold X3 at hM;refine Zr Tryz.func103 Tryz.ntmps103 Tryz.results103 fun N w0 hbad F=> ?_;refine S1 ?_;refine mj (ι:=Bool) [] [] [] (fun i=>[(6,oB i)]) hM ?_ ?_
 ·intro e1 hM K3 hK3;exact au
 ·intro x1 hM;(try dsimp only at hM);exact au
instance:HC 103 (Ty @Zdq):=⟨Zdq⟩
theorem JW (k:Nat) (a0:ByteArray) (r:Bool) (hM:WH k a0=some r):Ctr Tryz.prog 176 [.one (.str a0)] true [.one (.bool r)]:=by
 unfold WH at hM;refine Zr Tryz.func176 Tryz.ntmps176 Tryz.results176 fun N w0 hbad F=> ?_;refine S1 ?_;refine mjE (ι:=Unit) [0] [] [] (fun i=>[]) hM ?_ ?_
 ·intro e1 hM hR1 K3 hK3;refine S1 ?_;refine Zc ?_;refine lp (ι:=Int) [0] [] [] (fun i=>[(3,oI i)]) (fun n i=>YX a0 n i=some e1) k 0 hM (by simp [YX]) ?_;intro KL4 nL4 x1 hL4 hM _;have hM:YX a0 (nL4+1) x1=some e1:=hM;rw [YX] at hM;refine Zg fun K5 hK5=> ?_;refine S1 ?_;refine Zn hM (fun h6 hM=> ?_) (fun h6 hM=> ?_)
  ·have F:=Zwg (nf F h6) (lT h6);refine Zi ?_;refine hK5 _ ?_;refine Zg fun K7 hK7=> ?_;refine Zc ?_;refine mj (ι:=Bool) [0,3] [] [] (fun i=>[(19,oB i)]) hM ?_ ?_
   ·intro e8 hM K10 hK10;exact au
   ·intro x2 hM;(try dsimp only at hM);exact au
  ·have F:=Zwg (nf F h6) (lF h6);exact au
 ·intro _ hM;dsimp only at hM;exact au
instance:HC 176 (Ty @JW):=⟨JW⟩
theorem Zdr (k:Nat) (a0:ByteArray) (r:Bool) (hM:Zco k a0=some r):Ctr Tryz.prog 217 [.one (.str a0)] true [.one (.bool r)]:=by
 unfold Zco at hM;refine Zr Tryz.func217 Tryz.ntmps217 Tryz.results217 fun N w0 hbad F=> ?_;refine S1 ?_;refine mjE (ι:=Unit) [0] [] [] (fun i=>[]) hM ?_ ?_
 ·intro e1 hM hR1 K3 hK3;refine S1 ?_;refine Zc ?_;refine lp (ι:=Int) [0] [] [] (fun i=>[(3,oI i)]) (fun n i=>Wp a0 n i=some e1) k 0 hM (by simp [Wp]) ?_;intro KL4 nL4 x1 hL4 hM _;have hM:Wp a0 (nL4+1) x1=some e1:=hM;rw [Wp] at hM;refine Zg fun K5 hK5=> ?_;refine S1 ?_;refine Zn hM (fun h6 hM=> ?_) (fun h6 hM=> ?_)
  ·have F:=Zwg (nf F h6) (lT h6);refine Zi ?_;refine hK5 _ ?_;refine Zg fun K7 hK7=> ?_;refine Zc ?_;refine mj (ι:=Bool) [0,3] [] [] (fun i=>[(4,oB i)]) hM ?_ ?_
   ·intro e8 hM K10 hK10;exact au
   ·intro x2 hM;(try dsimp only at hM);refine mj (ι:=Bool) [0,3] [] [] (fun i=>[(38,oB i)]) hM ?_ ?_
    ·intro e13 hM K15 hK15;exact au
    ·intro x4 hM;(try dsimp only at hM);exact au
  ·have F:=Zwg (nf F h6) (lF h6);exact au
 ·intro _ hM;dsimp only at hM;exact au
instance:HC 217 (Ty @Zdr):=⟨Zdr⟩
theorem UZ (a0:ByteArray) (r:Int) (hM:ZH a0=some r):Ctr Tryz.prog 234 [.one (.str a0)] true [.one (.int .i64 r)]:=by
 unfold ZH at hM;refine Zr Tryz.func234 Tryz.ntmps234 Tryz.results234 fun N w0 hbad F=> ?_;refine S1 ?_;refine Zg fun K1 hK1=> ?_;refine S1 ?_;refine Zc ?_;refine S1 ?_;refine Zn hM (fun h2 hM=> ?_) (fun h2 hM=> ?_)
 ·have F:=nf F h2;exact au
 ·have F:=nf F h2;refine mj (ι:=Bool) [3] [] [] (fun i=>[(6,oB i)]) hM ?_ ?_
  ·intro e3 hM K5 hK5;exact au
  ·intro x1 hM;(try dsimp only at hM);refine Zn hM (fun h10 hM=> ?_) (fun h10 hM=> ?_)
   ·have F:=nf F h10;exact au
   ·have F:=nf F h10;refine mj (ι:=Bool) [3] [] [] (fun i=>[(12,oB i)]) hM ?_ ?_
    ·intro e11 hM K13 hK13;exact au
    ·intro x2 hM;(try dsimp only at hM);refine Zn hM (fun h20 hM=> ?_) (fun h20 hM=> ?_)
     ·have F:=nf F h20;exact au
     ·have F:=nf F h20;refine mj (ι:=Bool) [3] [] [] (fun i=>[(20,oB i)]) hM ?_ ?_
      ·intro e21 hM K23 hK23;exact au
      ·intro x3 hM;(try dsimp only at hM);exact au
instance:HC 234 (Ty @UZ):=⟨UZ⟩
theorem KJ (a0:ByteArray) (r:Bool) (hM:V6 a0=some r):Ctr Tryz.prog 218 [.one (.str a0)] true [.one (.bool r)]:=by
 unfold V6 at hM;refine Zr Tryz.func218 Tryz.ntmps218 Tryz.results218 fun N w0 hbad F=> ?_;refine S1 ?_;refine Zg fun K1 hK1=> ?_;refine S1 ?_;refine Zc ?_;refine mj (ι:=Bool) [0] [] [] (fun i=>[(4,oB i)]) hM ?_ ?_
 ·intro e2 hM K4 hK4;exact au
 ·intro x1 hM;(try dsimp only at hM);exact au
instance:HC 218 (Ty @KJ):=⟨KJ⟩
theorem JU (k:Nat) (a0:ByteArray) (r:Bool) (hM:ZZ k a0=some r):Ctr Tryz.prog 177 [.one (.str a0)] true [.one (.bool r)]:=by
 unfold ZZ at hM;refine Zr Tryz.func177 Tryz.ntmps177 Tryz.results177 fun N w0 hbad F=> ?_;refine S1 ?_;refine mj (ι:=Bool) [] [] [] (fun i=>[(2,oB i)]) hM ?_ ?_
 ·intro e1 hM K3 hK3;exact au
 ·intro x1 hM;(try dsimp only at hM);exact au
instance:HC 177 (Ty @JU):=⟨JU⟩
theorem VN (k:Nat) (a0:Zk) (r:Bool) (hM:Qy k a0=some r):Ctr Tryz.prog 126 [.agg (Zk.c a0)] true [.one (.bool r)]:=by
 unfold Qy at hM;refine Zr Tryz.func126 Tryz.ntmps126 Tryz.results126 fun N w0 hbad F=> ?_;refine S1 ?_;refine Zg fun K1 hK1=> ?_;refine mj (ι:=Bool) [1] [1] [] (fun i=>[(18,oB i)]) hM ?_ ?_
 ·intro e2 hM K4 hK4;exact au
 ·intro x1 hM;(try dsimp only at hM);refine Zn hM (fun h10 hM=> ?_) (fun h10 hM=> ?_)
  ·have F:=nf F h10;exact au
  ·have F:=nf F h10;refine Zi ?_;refine hK1 _ ?_;refine Zg fun K11 hK11=> ?_;refine S1 ?_;refine Zc ?_;refine S1 ?_;refine Zn hM (fun h12 hM=> ?_) (fun h12 hM=> ?_)
   ·have F:=nf F h12;refine mj (ι:=Bool) [] [] [] (fun i=>[(2,oB i)]) hM ?_ ?_
    ·intro e13 hM K15 hK15;exact au
    ·intro x5 hM;(try dsimp only at hM);exact au
   ·have F:=nf F h12;refine mj (ι:=Bool) [1,20] [1] [] (fun i=>[(31,oB i)]) hM ?_ ?_
    ·intro e17 hM K19 hK19;exact au
    ·intro x6 hM;(try dsimp only at hM);refine Zn hM (fun h21 hM=> ?_) (fun h21 hM=> ?_)
     ·have F:=nf F h21;refine mj (ι:=Bool) [] [] [] (fun i=>[(2,oB i)]) hM ?_ ?_
      ·intro e22 hM K24 hK24;exact au
      ·intro x7 hM;(try dsimp only at hM);exact au
     ·have F:=nf F h21;refine S1 ?_;refine Zn hM (fun h27 hM=> ?_) (fun h27 hM=> ?_)
      ·have F:=nf F h27;refine mj (ι:=Bool) [] [] [] (fun i=>[(2,oB i)]) hM ?_ ?_
       ·intro e28 hM K30 hK30;exact au
       ·intro x9 hM;(try dsimp only at hM);exact au
      ·have F:=nf F h27;exact au
instance:HC 126 (Ty @VN):=⟨VN⟩
theorem Zax (k:Nat) (a0:Ze) (a1:Int) (r:Int) (hM:WY k a0 a1=some r):Ctr Tryz.prog 55 [.agg (Ze.c a0),.one (.int .i64 a1)] true [.one (.int .i64 r)]:=by
 unfold WY at hM;refine Zr Tryz.func55 Tryz.ntmps55 Tryz.results55 fun N w0 hbad F=> ?_;refine S1 ?_;refine mjE (ι:=Unit) [] [] [] (fun i=>[]) hM ?_ ?_
 ·intro e1 hM hR1 K3 hK3;refine S1 ?_;refine Zc ?_;refine lp (ι:=Int) [1,8,9] [] [] (fun i=>[(10,oI i)]) (fun n i=>QJ a0 a1 n i=some e1) k 0 hM (by simp [QJ]) ?_;intro KL4 nL4 x1 hL4 hM _;have hM:QJ a0 a1 (nL4+1) x1=some e1:=hM;rw [QJ] at hM;exact au
 ·intro _ hM;dsimp only at hM;exact au
instance:HC 55 (Ty @Zax):=⟨Zax⟩
end Go.Proofs.YtbkllghhcphkaaaGreatDoor
