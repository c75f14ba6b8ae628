import Derived.Test.YtpblakfidofgfaaGreatDoorZMd14
import Derived.Test.YtpblakfidofgfaaGreatDoorZJ39
set_option linter.unusedSimpArgs false
set_option linter.unusedVariables false
namespace Go.Proofs.YtpblakfidofgfaaGreatDoor
open Go.RowKit Am
set_option maxHeartbeats 4000000
set_option maxRecDepth 100000
theorem ZaT:kT Tryz.prog 29 true Uv:=wK Tryz.func29 Tryz.ntmps29 Tryz.results29 Uv.eq_1 (hj [] [] [] (fun (i:List Int)=>[(3,oO 384 i.length)]) (hl [1,4] [1,8] [] 2 YM.eq_1 YM.eq_2 (fun (i:(List Int)×Int)=>[(3,oO 384 i.1.length),(5,oI i.2)]) (.i (hj [1,4,5] [1,8] [] (fun (i:List Int)=>[(3,oO 384 i.length)]) (ca:=fun i=>[(384,aT iC i)])) .e) (ca:=fun i=>[(384,aT iC i.1)])) (ca:=fun i=>[(384,aT iC i)]))
instance:HC 29 (Ty @ZaT):=⟨ZaT⟩
set_option maxHeartbeats 4000000
set_option maxRecDepth 100000
theorem ZbS:kT Tryz.prog 21 true Jo:=wK Tryz.func21 Tryz.ntmps21 Tryz.results21 Jo.eq_1 .e
instance:HC 21 (Ty @ZbS):=⟨ZbS⟩
set_option maxHeartbeats 4000000
set_option maxRecDepth 100000
theorem Za0 (k:Nat) (a0:Ze) (r:List Int) (hM:UB k a0=some r):Ctr Tryz.prog 30 [.agg (Ze.c a0)] true [.one (.sl (r.map iC))]:=by
 unfold UB at hM;refine ZjC Tryz.func30 Tryz.ntmps30 Tryz.results30 fun N w0 hbad F=> ?_;refine S1 ?_;obtain ⟨x1,e1,hM⟩:=bind_some hM;refine XX fun K h=> ?_;simp [go_sem,F];refine Zoe [] (ren []) (ren [(7,0),(9,7)]) (ren []) (VA k a0 x1 e1) ?_;simp [go_sem,F];refine h _ ?_;refine S1 ?_;refine mj (ι:=List Int) [] [] [] (fun i=>[(4,oO 512 i.length)]) hM ?_ ?_ (ca:=fun i=>[(512,aT iC i)])
 ·intro e2 hM K4 hK4;refine S1 ?_;refine YK ?_;refine lp (ι:=(List (Int×Bool))×(List Int)×Int) [1,3,13] [1,7] [] (fun i=>[(4,oO 512 i.2.1.length),(14,oI i.2.2)]) (fun n i=>Ya k a0 x1 n i.1 i.2.1 i.2.2=some e2) k (x1.2.2,([]:List Int),0) hM (by simp [Ya]) ?_ (cb:=fun i=>[(0,[.mc (.ib i.1)])]) (ca:=fun i=>[(512,aT iC i.2.1)]);intro KL5 nL5 ⟨x3,x4,x5⟩ hL5 hM _;have hM:Ya k a0 x1 (nL5+1) x3 x4 x5=some e2:=hM;rw [Ya] at hM;refine S1 ?_;refine YP fun K6 hK6=> ?_;refine VK hM (fun h7 hM=> ?_) (fun h7 hM=> ?_)
  ·have F:=ZAa (nf F h7) (lT h7);refine YT ?_;refine hK6 _ ?_;refine mj (ι:=(List (Int×Bool))×(List Int)) [1,3,13,14] [1,7] [] (fun i=>[(4,oO 512 i.2.length)]) hM ?_ ?_ (cb:=fun i=>[(0,[.mc (.ib i.1)])]) (ca:=fun i=>[(512,aT iC i.2)])
   ·intro e8 hM K10 hK10;refine YK ?_;refine S1 ?_;obtain ⟨x8,e11,hM⟩:=bind_some hM;refine XX fun K h=> ?_;simp [go_sem,F];refine Zd1 [] (ren []) (ren [(29,7),(30,0)]) (ren []) (QZ k x5 x1.1 x1.2.1 x3 x8 e11) ?_;simp [go_sem,F];exact au
   ·rintro ⟨x6,x7⟩ hM;dsimp only at hM;exact au
  ·have F:=ZAa (nf F h7) (lF h7);exact au
 ·intro x2 hM;(try dsimp only at hM);exact au
instance:HC 30 (Ty @Za0):=⟨Za0⟩
set_option maxHeartbeats 4000000
set_option maxRecDepth 100000
theorem Zcd:kT Tryz.prog 22 true Jx:=wK Tryz.func22 Tryz.ntmps22 Tryz.results22 Jx.eq_1 .e
instance:HC 22 (Ty @Zcd):=⟨Zcd⟩
end Go.Proofs.YtpblakfidofgfaaGreatDoor
