import Derived.Test.YtpblakfidofgfaaGreatDoorZJ6
import Derived.Test.YtpblakfidofgfaaGreatDoorZCt4
set_option linter.unusedSimpArgs false
set_option linter.unusedVariables false
namespace Go.Proofs.YtpblakfidofgfaaGreatDoor
open Go.RowKit Am
set_option maxHeartbeats 4000000
set_option maxRecDepth 100000
theorem Zb4:kT Tryz.prog 191 true VB:=wK Tryz.func191 Tryz.ntmps191 Tryz.results191 VB.eq_1 (hU [] [] [] (hl [1,7,8] [] [] 1 Uc.eq_1 Uc.eq_2 (fun (i:Int)=>[(9,oI i)])))
instance:HC 191 (Ty @Zb4):=⟨Zb4⟩
set_option maxHeartbeats 4000000
set_option maxRecDepth 100000
theorem Za2:kT Tryz.prog 151 true QL:=wK Tryz.func151 Tryz.ntmps151 Tryz.results151 QL.eq_1 .e
instance:HC 151 (Ty @Za2):=⟨Za2⟩
set_option maxHeartbeats 4000000
set_option maxRecDepth 100000
theorem Zfm:kT Tryz.prog 159 true KS:=wK Tryz.func159 Tryz.ntmps159 Tryz.results159 KS.eq_1 (hf [1,2] [1,2] [] 1 (ho [[],[],[1],[0,1,2],[],[10000192],[5],[0,1,2,3,4,5,6],[0,1,2,3,4,5,6,7],[0,1,2,3,4,5,6,7,8]]))
instance:HC 159 (Ty @Zfm):=⟨Zfm⟩
set_option maxHeartbeats 4000000
set_option maxRecDepth 100000
theorem Zg0:∀(k:Nat),(kT Tryz.prog 158 true (UA k))/\
  (kT Tryz.prog 113 true (YG k)):=by
 intro k
 induction k with
 | zero=>exact ⟨by (repeat intro hM);simp [UA] at hM,by (repeat intro hM);simp [YG] at hM⟩
 | succ k ih=>
  obtain ⟨ih_i_copyValues,ih_i_copyValue⟩:=ih;refine ⟨?_, ?_⟩
  ·haveI:HC 158 _:=⟨ih_i_copyValues⟩;haveI:HC 113 _:=⟨ih_i_copyValue⟩;exact wK Tryz.func158 Tryz.ntmps158 Tryz.results158 UA.eq_2 (hj [] [] [] (fun (i:List Za)=>[(3,oO 384 i.length)]) (hl [7,8] [] [] 2 Xa.eq_1 Xa.eq_2 (fun (i:(List Za)×Int)=>[(3,oO 384 i.1.length),(9,oI i.2)]) (ca:=fun i=>[(384,aT Za.c i.1)])) (ca:=fun i=>[(384,aT Za.c i)]))
  ·haveI:HC 158 _:=⟨ih_i_copyValues⟩;haveI:HC 113 _:=⟨ih_i_copyValue⟩;exact wK Tryz.func113 Tryz.ntmps113 Tryz.results113 YG.eq_2 (hjz [2,3] [2] [576,704] [0] (fun (i:List ZM)=>[]) (hlz [2,3,18,19] [2] [576,704] [0] 2 XT.eq_1 XT.eq_2 (fun (i:(List ZM)×Int)=>[(20,oI i.2)]) (.i (hp [2,3,5,18,19,20] [2,3,5] [576,704,1856] 8 [] (ho [[10001728,10001729],[0],[],[2],[2,3],[0,1,2,3,4],[0,1,2,3,4,5],[0,1,2,3,4,5,6]])) .e) (ca:=fun i=>[(1856,aT ZM.c i.1)]) (cb:=fun i=>[(3,[.any,.any,.any,.any,.any,.any,.own 1856 i.1.length])])) (ca:=fun i=>[(1856,aT ZM.c i)]) (cb:=fun i=>[(3,[.any,.any,.any,.any,.any,.any,.own 1856 i.length])]))
theorem Zb5 (k:Nat):kT Tryz.prog 113 true (YG k):=(Zg0 k).2
instance:HC 113 (Ty @Zb5):=⟨Zb5⟩
set_option maxHeartbeats 4000000
set_option maxRecDepth 100000
theorem JB:kT Tryz.prog 290 true ZG:=wK Tryz.func290 Tryz.ntmps290 Tryz.results290 ZG.eq_1 (.i .e (hj [3] [] [] (fun (i:Bool)=>[(6,oB i)]) .e (.i .e (hj [3] [] [] (fun (i:Bool)=>[(12,oB i)]) .e (.i .e (hj [3] [] [] (fun (i:Bool)=>[(20,oB i)])))))))
instance:HC 290 (Ty @JB):=⟨JB⟩
set_option maxHeartbeats 4000000
set_option maxRecDepth 100000
theorem Za1:kT Tryz.prog 253 true UD:=wK Tryz.func253 Tryz.ntmps253 Tryz.results253 UD.eq_1 (hj [0] [] [] (fun (i:Bool)=>[(4,oB i)]))
instance:HC 253 (Ty @Za1):=⟨Za1⟩
set_option maxHeartbeats 4000000
set_option maxRecDepth 100000
theorem Zdh:kT Tryz.prog 133 true U0:=wK Tryz.func133 Tryz.ntmps133 Tryz.results133 U0.eq_1 (hU [] [] [] (hl [0,1,2] [] [] 1 Ws.eq_1 Ws.eq_2 (fun (i:Int)=>[(7,oI i)]) (.i (hj [0,1,2,7] [] [] (fun (i:Bool)=>[(29,oB i)])) .e)))
instance:HC 133 (Ty @Zdh):=⟨Zdh⟩
set_option maxHeartbeats 4000000
set_option maxRecDepth 100000
theorem ZbK:kT Tryz.prog 136 true WQ:=wK Tryz.func136 Tryz.ntmps136 Tryz.results136 WQ.eq_1 (.i .e (hU [] [] [] (hl [0,1] [] [] 1 X8.eq_1 X8.eq_2 (fun (i:Int)=>[(5,oI i)]) (.i (hq 8) .e))))
instance:HC 136 (Ty @ZbK):=⟨ZbK⟩
set_option maxHeartbeats 4000000
set_option maxRecDepth 100000
theorem ZgD (k:Nat) (a0:List Int) (r:List Int) (hM:ZcG k a0=some r):Ctr Tryz.prog 171 [.one (.sl (a0.map iC))] true [.one (.sl (r.map iC))]:=by
 unfold ZcG at hM;refine ZjC Tryz.func171 Tryz.ntmps171 Tryz.results171 fun N w0 hbad F=> ?_;refine S1 ?_;refine S1 ?_;refine mj (ι:=List Int) [] [] [] (fun i=>[(3,oO 448 i.length)]) hM ?_ ?_ (ca:=fun i=>[(448,aT iC i)])
 ·intro e1 hM K3 hK3;refine S1 ?_;refine YK ?_;refine lp (ι:=(List Int)×Int) [0] [] [] (fun i=>[(3,oO 448 i.1.length),(4,oI i.2)]) (fun n i=>X7 k a0 n i.1 i.2=some e1) k (([]:List Int),0) hM (by simp [X7]) ?_ (ca:=fun i=>[(448,aT iC i.1)]);intro KL4 nL4 ⟨x2,x3⟩ hL4 hM _;have hM:X7 k a0 (nL4+1) x2 x3=some e1:=hM;rw [X7] at hM;refine YP fun K5 hK5=> ?_;refine S1 ?_;refine VK hM (fun h6 hM=> ?_) (fun h6 hM=> ?_)
  ·have F:=ZAa (nf F h6) (lT h6);refine YT ?_;refine hK5 _ ?_;refine mj (ι:=List Int) [0,4] [] [] (fun i=>[(3,oO 448 i.length)]) hM ?_ ?_ (ca:=fun i=>[(448,aT iC i)])
   ·intro e7 hM K9 hK9;refine YK ?_;refine YP fun K10 hK10=> ?_;obtain ⟨x5,e11,hM⟩:=bind_some hM;have F:=ZAa F (Zaf e11);obtain ⟨x6,e12,hM⟩:=bind_some hM;refine XX fun K h=> ?_;simp [go_sem,F];refine Zg3 false (Kb k x2 x5 x6 e12) ?_;simp [go_sem,F];refine h _ ?_;refine VK hM (fun h13 hM=> ?_) (fun h13 hM=> ?_)
    ·have F:=nf F h13;exact au
    ·have F:=nf F h13;refine YT ?_;refine hK10 _ ?_;refine S1 ?_;refine mj (ι:=Int) [0,3,4] [] [448] (fun i=>[(5,oI i)]) hM ?_ ?_
     ·intro e14 hM K16 hK16;refine YK ?_;refine lp (ι:=Int) [0,3,4] [] [448] (fun i=>[(5,oI i)]) (fun n i=>X6 a0 x2 x3 n i=some e14) k 0 hM (by simp [X6]) ?_;intro KL17 nL17 x8 hL17 hM _;have hM:X6 a0 x2 x3 (nL17+1) x8=some e14:=hM;rw [X6] at hM;refine YP fun K18 hK18=> ?_;refine mj (ι:=Bool) [0,3,4,5] [] [448] (fun i=>[(34,oB i)]) hM ?_ ?_
      ·intro e19 hM K21 hK21;rcases ifM hM with ⟨h22,hM⟩| ⟨h22,hM⟩
       ·have F:=ZAa (nf F h22) (lT h22);obtain ⟨x10,e23,hM⟩:=bind_some hM;have F:=ZAa F (Zaf e23);have F:=ZAa F (ZkE e23);obtain ⟨x11,e24,hM⟩:=bind_some hM;have F:=ZAa F (Zz9 (e11.symm.trans e24));have F:=ZAa F (Zaf e24);refine QM 13 mixed (by kernel_rfl) (by kernel_rfl) ?_;simp [go_sem,F];exact au
       ·have F:=ZAa (nf F h22) (lF h22);refine QM 13 mixed (by kernel_rfl) (by kernel_rfl) ?_;simp [go_sem,F];exact au
      ·intro x9 hM;(try dsimp only at hM);exact au
     ·intro x7 hM;(try dsimp only at hM);obtain ⟨x12,e26,hM⟩:=bind_some hM;obtain ⟨c27,s28⟩:=Zps e26;replace c27:=c27.symm;subst c27;(try simp at s28);have F:=ZAa F s28;obtain ⟨x13,e33,hM⟩:=bind_some hM;obtain ⟨c34,s35⟩:=WG e33;replace c34:=c34.symm;subst c34;(try simp [F] at s35);have F:=ZAa F s35;refine S1 ?_;obtain ⟨x14,e37,hM⟩:=bind_some hM;obtain ⟨c38,s39⟩:=WG e37;replace c38:=c38.symm;subst c38;(try simp [F] at s39);have F:=ZAa F s39;refine S1 ?_;obtain ⟨x15,e41,hM⟩:=bind_some hM;obtain ⟨c42,s43⟩:=Zps e41;replace c42:=c42.symm;subst c42;(try simp at s43);have F:=ZAa F s43;obtain ⟨x16,e48,hM⟩:=bind_some hM;obtain ⟨c49,s50⟩:=WG e48;replace c49:=c49.symm;subst c49
      (try simp [F] at s50);have F:=ZAa F s50;refine WM ?_;simp [go_sem,F];obtain rfl:=si hM;exact fr hK9 [(2368,448)] [0,3,4] [] [2368] (((([]:List Int)++((x2.take x7.toNat).drop (0:Int).toNat))++[x5])++((x2.take (x2.length:Int).toNat).drop x7.toNat)) rfl
   ·intro x4 hM;(try dsimp only at hM);exact au
  ·have F:=ZAa (nf F h6) (lF h6);exact au
 ·intro x1 hM;(try dsimp only at hM);exact au
instance:HC 171 (Ty @ZgD):=⟨ZgD⟩
set_option maxHeartbeats 4000000
set_option maxRecDepth 100000
theorem ZaX:kT Tryz.prog 127 true Qa:=wK Tryz.func127 Tryz.ntmps127 Tryz.results127 Qa.eq_1 (.i .e (hj [] [] [] (fun (i:List Int)=>[(5,oO 576 i.length)]) (hl [0,6] [] [1344] 2 Zy.eq_1 Zy.eq_2 (fun (i:(List Int)×Int)=>[(5,oO 576 i.1.length),(7,oI i.2)]) (.i (hj [0,6,7] [] [1344] (fun (i:List Int)=>[(5,oO 576 i.length)]) (ca:=fun i=>[(576,aT iC i)])) .e) (ca:=fun i=>[(576,aT iC i.1)])) (ca:=fun i=>[(576,aT iC i)])))
instance:HC 127 (Ty @ZaX):=⟨ZaX⟩
set_option maxHeartbeats 4000000
set_option maxRecDepth 100000
theorem Ka:kT Tryz.prog 78 true V1:=wK Tryz.func78 Tryz.ntmps78 Tryz.results78 V1.eq_1 (hj [] [] [] (fun (i:List (List Int))=>[(3,oO 320 i.length)]) (hl [0] [] [] 2 QD.eq_1 QD.eq_2 (fun (i:(List (List Int))×Int)=>[(3,oO 320 i.1.length),(4,oI i.2)]) (ca:=fun i=>[(320,aT (lC iC) i.1)])) (ca:=fun i=>[(320,aT (lC iC) i)]))
instance:HC 78 (Ty @Ka):=⟨Ka⟩
end Go.Proofs.YtpblakfidofgfaaGreatDoor
