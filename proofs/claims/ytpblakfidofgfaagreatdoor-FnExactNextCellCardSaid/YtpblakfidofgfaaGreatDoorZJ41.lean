import Derived.Test.YtpblakfidofgfaaGreatDoorZMd13
import Derived.Test.YtpblakfidofgfaaGreatDoorZJ39
set_option linter.unusedSimpArgs false
set_option linter.unusedVariables false
namespace Go.Proofs.YtpblakfidofgfaaGreatDoor
open Go.RowKit Am
set_option maxHeartbeats 4000000
set_option maxRecDepth 100000
theorem Zdm:kT Tryz.prog 19 true U3:=wK Tryz.func19 Tryz.ntmps19 Tryz.results19 U3.eq_1 (hU [] [] [] (hl [1,3] [1,6] [] 1 QG.eq_1 QG.eq_2 (fun (i:Int)=>[(4,oI i)]) (.i (hj [1,3,4] [1,6] [] (fun (i:Bool)=>[(32,oB i)])) .e)))
instance:HC 19 (Ty @Zdm):=⟨Zdm⟩
set_option maxHeartbeats 4000000
set_option maxRecDepth 100000
theorem Zdv (k:Nat) (a0:Ze) (r:Int) (hM:U6 k a0=some r):Ctr Tryz.prog 20 [.agg (Ze.c a0)] true [.one (.int .i64 r)]:=by
 unfold U6 at hM;refine ZjC Tryz.func20 Tryz.ntmps20 Tryz.results20 fun N w0 hbad F=> ?_;refine S1 ?_;obtain ⟨x1,e1,hM⟩:=bind_some hM;refine XX fun K h=> ?_;simp [go_sem,F];refine Zoe [] (ren []) (ren [(7,0),(9,8)]) (ren []) (VA k a0 x1 e1) ?_;simp [go_sem,F];refine h _ ?_;refine mjE (ι:=Unit) [] [] [] (fun i=>[]) hM ?_ ?_
 ·intro e2 hM hR1 K4 hK4;refine S1 ?_;refine YK ?_;refine lp (ι:=(List (Int×Bool))×Int) [1,3,13] [1,8] [] (fun i=>[(14,oI i.2)]) (fun n i=>YI k a0 x1 n i.1 i.2=some e2) k (x1.2.2,0) hM (by simp [YI]) ?_ (cb:=fun i=>[(0,[.mc (.ib i.1)])]);intro KL5 nL5 ⟨x2,x3⟩ hL5 hM _;have hM:YI k a0 x1 (nL5+1) x2 x3=some e2:=hM;rw [YI] at hM;refine S1 ?_;refine YP fun K6 hK6=> ?_;refine VK hM (fun h7 hM=> ?_) (fun h7 hM=> ?_)
  ·have F:=ZAa (nf F h7) (lT h7);refine YT ?_;refine hK6 _ ?_;refine mjE (ι:=List (Int×Bool)) [1,3,13,14] [1,8] [] (fun i=>[]) hM ?_ ?_ (cb:=fun i=>[(0,[.mc (.ib i)])])
   ·intro e8 hM hR2 K10 hK10;refine YK ?_;refine S1 ?_;refine YP fun K11 hK11=> ?_;obtain ⟨x5,e12,hM⟩:=bind_some hM;refine XX fun K h=> ?_;simp [go_sem,F];refine Zd1 [] (ren []) (ren [(29,8),(30,0)]) (ren []) (QZ k x3 x1.1 x1.2.1 x2 x5 e12) ?_;simp [go_sem,F];refine h _ ?_;refine VK hM (fun h13 hM=> ?_) (fun h13 hM=> ?_)
    ·have F:=nf F h13;exact au
    ·have F:=nf F h13;refine YT ?_;refine hK11 _ ?_;obtain ⟨x6,e14,hM⟩:=bind_some hM;refine XX fun K h=> ?_;simp [go_sem,F];refine Zd1 [] (ren []) (ren [(81,8),(82,0)]) (ren [(30000,1472)]) (ZdL k x3 x1.1 x1.2.1 x5.2 x6 e14) ?_;simp [go_sem,F];exact au
   ·intro x4 hM;dsimp only at hM;exact au
  ·have F:=ZAa (nf F h7) (lF h7);exact au
 ·intro _ hM;dsimp only at hM;exact au
instance:HC 20 (Ty @Zdv):=⟨Zdv⟩
end Go.Proofs.YtpblakfidofgfaaGreatDoor
