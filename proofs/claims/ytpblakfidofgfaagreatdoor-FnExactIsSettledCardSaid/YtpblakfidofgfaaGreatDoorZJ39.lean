import Derived.Test.YtpblakfidofgfaaGreatDoorZJ36
import Derived.Test.YtpblakfidofgfaaGreatDoorZCu9x4
import Derived.Test.YtpblakfidofgfaaGreatDoorZJ38
import Derived.Test.YtpblakfidofgfaaGreatDoorZJ35
set_option linter.unusedSimpArgs false
set_option linter.unusedVariables false
namespace Go.Proofs.YtpblakfidofgfaaGreatDoor
open Go.RowKit Am
set_option maxHeartbeats 4000000
set_option maxRecDepth 100000
theorem Zab:kT Tryz.prog 143 false Yf:=wK Tryz.func143 Tryz.ntmps143 Tryz.results143 Yf.eq_1 (.i .e (.i .e (.i (hf [1,2] [1,2] [] 7 (ho [[],[0],[],[2],[2,3],[0,1,2,3,4],[0,1,2,3,4,5]] (hp [2] [2] [] 999999 [1408,1409,1410]))) (.i (.i (hf [1,2,4] [1,2] [] 11 (ho [[],[0],[],[],[0,1,2,3],[0,1,2,3,4]] (hp [2] [2] [] 999999 [2304,2305,2306]))) .e) (.i (hf [1,2] [1,2] [] 15 (ho [[],[0],[],[],[3],[2,3,4],[0,1,2,3,4,5],[0,1,2,3,4,5,6]] (hp [2] [2] [] 999999 [3392,3393,3394]))) (hf [1,2,5] [1,2,5] [2944,2945,2946] 16 (ho [[],[0],[],[2],[],[2,3,4],[0,1,2,3,4,5],[0,1,2,3,4,5,6]] (hp [2] [2] [] 999999 [4032,4033,4034]))))))))
instance:HC 143 (Ty @Zab):=⟨Zab⟩
set_option maxHeartbeats 4000000
set_option maxRecDepth 100000
theorem UJ:kT Tryz.prog 88 false Vo:=wK Tryz.func88 Tryz.ntmps88 Tryz.results88 Vo.eq_1 (.i .e (hj [] [] [] (fun (i:List Zi)=>[(3,oO 576 i.length)]) (hth [576] (hl [11,12] [] [] 2 Xf.eq_1 Xf.eq_2 (fun (i:(List Zi)×Int)=>[(3,oO 576 i.1.length),(13,oI i.2)]) (ca:=fun i=>[(576,aF Zi.c i.1)]))) (hp [2] [] [] 999999 [576]) (ca:=fun i=>[(576,aF Zi.c i)])))
instance:HC 88 (Ty @UJ):=⟨UJ⟩
set_option maxHeartbeats 4000000
set_option maxRecDepth 100000
theorem VA (k:Nat) (a0:Ze) (r:Ze×(List Zi)×(List (Int×Bool))) (hM:Wf k a0=some r):GC Tryz.prog 48 10 [.agg [.l (.sl (a0.notebook.cells.map Zs.c)),.l (.int .i64 a0.world.clock),.l (.int .i64 a0.world.seed),.l (.sl (a0.world.files.map ZD.c)),.l (.sl (a0.tapes.map ZC.c)),.l (.sl (a0.entries.map Zm.c)),.l (.int .i64 a0.next),.l (.int .i64 a0.limit),.l (.int .i64 a0.work)]] [] [] (.one (.box 9 0)) [(7,[.mc (.ib r.2.2)]),(9,[.l (.sl (r.1.notebook.cells.map Zs.c)),.l (.int .i64 r.1.world.clock),.l (.int .i64 r.1.world.seed),.l (.sl (r.1.world.files.map ZD.c)),.l (.sl (r.1.tapes.map ZC.c)),.l (.sl (r.1.entries.map Zm.c)),.l (.int .i64 r.1.next),.l (.int .i64 r.1.limit),.l (.int .i64 r.1.work),.l (.sl (r.2.1.map Zi.c)),.mp 7])] []:=by
 unfold Wf at hM;refine GC.Xt (by kernel_rfl) Tryz.func48 rfl Tryz.ntmps48 Tryz.results48 (by simp) fun N w0 hbad=> ?_;have F:=True.intro;simp only [JN];refine ZfE fun K0 hK0=> ?_;refine S1 ?_;refine YP fun K1 hK1=> ?_;refine le1 [1] [1] [] ?_;obtain ⟨x1,e2,hM⟩:=bind_some hM;refine Zgb [[],[],[1],[1,2],[],[0,1,2,3,4],[0,1,2,3,4,5],[0,1,2,3,4,5,6]] mixed (by kernel_rfl) ?_;simp [go_sem,F];refine Zg3 false (UJ k a0.notebook x1 e2) ?_;simp [go_sem,F];refine Zm9 ?_;simp [go_sem,F];refine ⟨U8 (by kernel_rfl), ?_⟩;refine hK1 _ ?_;obtain rfl:=si hM;refine rr [] [] [2] [7,9] [] ?_;exact au
set_option maxHeartbeats 4000000
set_option maxRecDepth 100000
theorem Zfp (k:Nat) (a0:Ze) (a1:Int) (r:Bool) (hM:K8 k a0 a1=some r):Ctr Tryz.prog 15 [.agg (Ze.c a0),.one (.int .i64 a1)] true [.one (.bool r)]:=by
 unfold K8 at hM;refine ZjC Tryz.func15 Tryz.ntmps15 Tryz.results15 fun N w0 hbad F=> ?_;refine S1 ?_;obtain ⟨x1,e1,hM⟩:=bind_some hM;refine XX fun K h=> ?_;simp [go_sem,F];refine Zoe [] (ren []) (ren [(7,0),(9,7)]) (ren []) (VA k a0 x1 e1) ?_;simp [go_sem,F];refine h _ ?_;refine mj (ι:=Bool) [] [] [] (fun i=>[(4,oB i)]) hM ?_ ?_
 ·intro e2 hM K4 hK4;rcases ifM hM with ⟨h5,hM⟩| ⟨h5,hM⟩
  ·have F:=ZAa (nf F h5) (eT h5);rcases ifM hM with ⟨h6,hM⟩| ⟨h6,hM⟩
   ·have F:=ZAa (nf F h6) (lT h6);obtain ⟨x3,e7,hM⟩:=bind_some hM;refine WM ?_;simp [go_sem,F];refine Zd1 [] (ren []) (ren [(29,7),(30,0)]) (ren []) (QZ k a1 x1.1 x1.2.1 x1.2.2 x3 e7) ?_;simp [go_sem,F];exact au
   ·have F:=ZAa (nf F h6) (lF h6);exact au
  ·have F:=ZAa (nf F h5) (eF h5);exact au
 ·intro x2 hM;(try dsimp only at hM);exact au
instance:HC 15 (Ty @Zfp):=⟨Zfp⟩
end Go.Proofs.YtpblakfidofgfaaGreatDoor
