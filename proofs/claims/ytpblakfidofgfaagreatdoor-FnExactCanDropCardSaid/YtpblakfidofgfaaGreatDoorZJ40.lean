import Derived.Test.YtpblakfidofgfaaGreatDoorZMd12
import Derived.Test.YtpblakfidofgfaaGreatDoorZJ39
set_option linter.unusedSimpArgs false
set_option linter.unusedVariables false
namespace Go.Proofs.YtpblakfidofgfaaGreatDoor
open Go.RowKit Am
set_option maxHeartbeats 4000000
set_option maxRecDepth 100000
theorem ZgB (k:Nat) (a0:Ze) (a1:ZT) (a2:Int) (r:Bool×ZT) (hM:ZeJ k a0 a1 a2=some r):ZcU Tryz.prog 54 [.agg (Ze.c a0)] (ZT.c a1) [.one (.int .i64 a2)] true [.one (.bool r.1)] (ZT.c r.2):=by
 unfold ZeJ at hM;exact wP Tryz.func54 Tryz.ntmps54 Tryz.results54 (hj [] [56] [] (fun (i:Bool)=>[(6,oB i)]))
instance:HC 54 (Ty @ZgB):=⟨ZgB⟩
set_option maxHeartbeats 4000000
set_option maxRecDepth 100000
theorem ZeZ:kT Tryz.prog 17 true ZbY:=wK Tryz.func17 Tryz.ntmps17 Tryz.results17 ZbY.eq_1 (hf [1,2] [2] [] 1 (ho [[],[],[1],[],[0,1,2,3],[0,1,2,3,4]]))
instance:HC 17 (Ty @ZeZ):=⟨ZeZ⟩
set_option maxHeartbeats 4000000
set_option maxRecDepth 100000
theorem ZcX (k:Nat) (a1:Int) (a20:Ze) (a21:List Zi) (a22:List (Int×Bool)) (r:Bool×(List (Int×Bool))) (hM:XB k a1 a20 a21 a22=some r):GC Tryz.prog 55 66 [.one (.box 66 0),.one (.l (.int .i64 a1))] [(66,[.l (.sl (a20.notebook.cells.map Zs.c)),.l (.int .i64 a20.world.clock),.l (.int .i64 a20.world.seed),.l (.sl (a20.world.files.map ZD.c)),.l (.sl (a20.tapes.map ZC.c)),.l (.sl (a20.entries.map Zm.c)),.l (.int .i64 a20.next),.l (.int .i64 a20.limit),.l (.int .i64 a20.work),.l (.sl (a21.map Zi.c)),.mp 67]),(67,[.mc (.ib a22)])] [] (.one (.l (.bool r.1))) [(66,[.l (.sl (a20.notebook.cells.map Zs.c)),.l (.int .i64 a20.world.clock),.l (.int .i64 a20.world.seed),.l (.sl (a20.world.files.map ZD.c)),.l (.sl (a20.tapes.map ZC.c)),.l (.sl (a20.entries.map Zm.c)),.l (.int .i64 a20.next),.l (.int .i64 a20.limit),.l (.int .i64 a20.work),.l (.sl (a21.map Zi.c)),.mp 67]),(67,[.mc (.ib r.2)])] []:=by
 unfold XB at hM;refine GC.Xt (by kernel_rfl) Tryz.func55 rfl Tryz.ntmps55 Tryz.results55 (by simp) fun N w0 hbad=> ?_;have F:=True.intro;simp only [JN];refine ZfE fun K0 hK0=> ?_;refine S1 ?_;obtain ⟨x1,e1,hM⟩:=bind_some hM;refine XX fun K h=> ?_;simp [go_sem,F];refine Zg3 false (XE k a20 a1 x1 e1) ?_;simp [go_sem,F];refine h _ ?_;obtain ⟨x2,e2,hM⟩:=bind_some hM;refine XX fun K h=> ?_;simp [go_sem,F];refine Zg3 false (JA k a20.notebook a1 x2 e2) ?_;simp [go_sem,F];refine h _ ?_;refine YP fun K3 hK3=> ?_;refine mj (ι:=(List (Int×Bool))×Bool) [0,6] [66] [] (fun i=>[(54,oB i.2)]) hM ?_ ?_ (cb:=fun i=>[(67,[.mc (.ib i.1)])])
 ·intro e4 hM K6 hK6;rcases ifM hM with ⟨h7,hM⟩| ⟨h7,hM⟩
  ·have F:=ZAa (nf F h7) (lT h7);exact au
  ·have F:=ZAa (nf F h7) (lF h7);obtain ⟨x5,e8,hM⟩:=bind_some hM;have F:=ZAa F (Zaf e8);rcases ifM hM with ⟨h9,hM⟩| ⟨h9,hM⟩
   ·have F:=nf F h9;exact au
   ·have F:=nf F h9;rcases ifM hM with ⟨h10,hM⟩| ⟨h10,hM⟩
    ·have F:=ZAa (nf F h10) (lT h10);exact au
    ·have F:=ZAa (nf F h10) (lF h10);rcases ifM hM with ⟨h11,hM⟩| ⟨h11,hM⟩
     ·have F:=ZAa (nf F h11) (eT h11);exact au
     ·have F:=ZAa (nf F h11) (eF h11);obtain ⟨x6,e12,hM⟩:=bind_some hM;refine WM ?_;simp [go_sem,F];refine Zd1 [] (ren []) (ren [(29,66),(30,67)]) (ren []) (QZ k x2 a20 a21 a22 x6 e12) ?_;simp [go_sem,F];exact au
 ·rintro ⟨x3,x4⟩ hM;dsimp only at hM;refine VK hM (fun h13 hM=> ?_) (fun h13 hM=> ?_)
  ·have F:=nf F h13;refine S1 ?_;obtain rfl:=si hM;refine rr [] [] [4] [66,67] [] ?_;exact au
  ·have F:=nf F h13;refine YT ?_;refine hK3 _ ?_;obtain ⟨x7,e14,hM⟩:=bind_some hM;refine XX fun K h=> ?_;simp [go_sem,F];refine Zg3 false (XD k a21 x2 x7 e14) ?_;simp [go_sem,F];refine h _ ?_;refine S1 ?_;obtain rfl:=si hM;refine rr [] [] [4] [66,67] [] ?_;exact au
set_option maxHeartbeats 4000000
set_option maxRecDepth 100000
theorem Zft (k:Nat) (a0:Ze) (a1:Int) (r:Bool) (hM:Zch k a0 a1=some r):Ctr Tryz.prog 18 [.agg (Ze.c a0),.one (.int .i64 a1)] true [.one (.bool r)]:=by
 unfold Zch at hM;refine ZjC Tryz.func18 Tryz.ntmps18 Tryz.results18 fun N w0 hbad F=> ?_;refine S1 ?_;obtain ⟨x1,e1,hM⟩:=bind_some hM;obtain ⟨x2,e2,hM⟩:=bind_some hM;refine XX fun K h=> ?_;simp [go_sem,F];refine Zoe [] (ren []) (ren [(7,0),(9,6)]) (ren []) (VA k a0 x1 e1) ?_;simp [go_sem,F];refine Zd1 [] (ren []) (ren [(66,6),(67,0)]) (ren []) (ZcX k a1 x1.1 x1.2.1 x1.2.2 x2 e2) ?_;simp [go_sem,F];exact au
instance:HC 18 (Ty @Zft):=⟨Zft⟩
end Go.Proofs.YtpblakfidofgfaaGreatDoor
