import Derived.Test.YtmcfegjoccgpoaaGreatDoorZMd12
import Derived.Test.YtmcfegjoccgpoaaGreatDoorZJ32
import Derived.Test.YtmcfegjoccgpoaaGreatDoorZJ31
set_option linter.unusedSimpArgs false
set_option linter.unusedVariables false
set_option maxHeartbeats 4000000
set_option maxRecDepth 100000
namespace Go.Proofs.YtmcfegjoccgpoaaGreatDoor
open Go.Proofs.Tryz
open Go.RowKit Am
theorem JT:kT Tryz.prog 17 true V4:=wK func17 ntmps17 results17 V4.eq_1 (hj [] [] [] (λ(i:List Int)=>[(3,oO 384 i.length)]) (hl [1,4] [1,8] [] 2 Y8.eq_1 Y8.eq_2 (λ(i:(List Int)×Int)=>[(3,oO 384 i.1.length),(5,oI i.2)]) (.i (hj [1,4,5] [1,8] [] (λ(i:List Int)=>[(3,oO 384 i.length)]) (ca:=λi=>[(384,aT iC i)])) .e) (ca:=λi=>[(384,aT iC i.1)])) (ca:=λi=>[(384,aT iC i)]))
instance:HC 17 (Ty @JT):=⟨JT⟩
theorem VB (k:Nat) (a0:Za) (r:List Int) (hM:WQ k a0=some r):Ctr Tryz.prog 18 [.agg (Za.c a0)] true [.one (.sl (r.map iC))]:=by
 unfold WQ at hM;refine ZfF func18 ntmps18 results18 λN w0 hbad F=> ?_;refine S1 ?_;obtain ⟨j,C,hM⟩:=bind_some hM;refine Zp λK h=> ?_;simp [go_sem,F];refine Zrc [] (ren []) (ren [(7,0),(9,7)]) (ren []) (Us k a0 j C) ?_;simp [go_sem,F];refine h _ ?_;refine S1 ?_;refine mj (ι:=List Int) [] [] [] (λi=>[(4,oO 512 i.length)]) hM ?_ ?_ (ca:=λi=>[(512,aT iC i)])
 ·intro s hM M E;refine S1 ?_;refine Y5 ?_;refine lp (ι:=(List (Int×Bool))×(List Int)×Int) [1,3,13] [1,7] [] (λi=>[(4,oO 512 i.2.1.length),(14,oI i.2.2)]) (λn i=>Yt k a0 j n i.1 i.2.1 i.2.2=some s) k (j.2.2,([]:List Int),0) hM (by simp [Yt]) ?_ (cb:=λi=>[(0,[.mc (.ib i.1)])]) (ca:=λi=>[(512,aT iC i.2.1)]);intro B p ⟨w,I,z⟩ G hM _;have hM:Yt k a0 j (p+1) w I z=some s:=hM;rw [Yt] at hM;refine S1 ?_;refine Zr λO o=> ?_;refine Yh hM (λl hM=> ?_) (λl hM=> ?_)
  ·have F:=ZEJ (nf F l) (lT l);refine Zv ?_;refine o _ ?_;refine mj (ι:=(List (Int×Bool))×(List Int)) [1,3,13,14] [1,7] [] (λi=>[(4,oO 512 i.2.length)]) hM ?_ ?_ (cb:=λi=>[(0,[.mc (.ib i.1)])]) (ca:=λi=>[(512,aT iC i.2)])
   ·intro P hM A t;refine Y5 ?_;refine S1 ?_;obtain ⟨J,m,hM⟩:=bind_some hM;refine Zp λK h=> ?_;simp [go_sem,F];refine Zho [] (ren []) (ren [(29,7),(30,0)]) (ren []) (JY k z j.1 j.2.1 w J m) ?_;simp [go_sem,F];exact au
   ·rintro ⟨R,S⟩ hM;dsimp only at hM;exact au
  ·have F:=ZEJ (nf F l) (lF l);exact au
 ·intro Q hM;(try dsimp only at hM);exact au
instance:HC 18 (Ty @VB):=⟨VB⟩
end Go.Proofs.YtmcfegjoccgpoaaGreatDoor
