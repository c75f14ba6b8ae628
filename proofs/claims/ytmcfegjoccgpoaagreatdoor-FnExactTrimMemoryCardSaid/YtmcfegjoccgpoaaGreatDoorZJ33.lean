import Derived.Test.YtmcfegjoccgpoaaGreatDoorZJ9
import Derived.Test.YtmcfegjoccgpoaaGreatDoorZJ32
import Derived.Test.YtmcfegjoccgpoaaGreatDoorZJ31
set_option linter.unusedSimpArgs false
set_option linter.unusedVariables false
set_option maxHeartbeats 4000000
set_option maxRecDepth 100000
namespace Go.Proofs.YtmcfegjoccgpoaaGreatDoor
open Go.Proofs.Tryz
open Go.RowKit Am
instance:UV 94 true JA:=⟨wK func94 ntmps94 results94 JA.eq_1 .e⟩
instance:UV 95 true JB:=⟨wK func95 ntmps95 results95 JB.eq_1 .e⟩
instance:UV 186 true Za4:=⟨wK func186 ntmps186 results186 Za4.eq_1 .e⟩
instance:UV 146 true Kj:=⟨wK func146 ntmps146 results146 Kj.eq_1 (hj [] [] [] (λ(i:List Zw)=>[(3,oO 320 i.length)]) (hl [0] [] [] 2 W6.eq_1 W6.eq_2 (λ(i:(List Zw)×Int)=>[(3,oO 320 i.1.length),(4,oI i.2)]) (ca:=λi=>[(320,aT Zw.c i.1)])) (ca:=λi=>[(320,aT Zw.c i)]))⟩
instance:UV 96 true Zdm:=⟨wK func96 ntmps96 results96 Zdm.eq_1 (hj [] [] [] (λ(i:List Zn)=>[(3,oO 320 i.length)]) (hl [0] [] [] 2 V2.eq_1 V2.eq_2 (λ(i:(List Zn)×Int)=>[(3,oO 320 i.1.length),(4,oI i.2)]) (.i (hf [0,3,4] [] [320] 5 (ho [[10001792],[],[],[1,2],[1,2,3],[1,2,3,4],[],[],[6,7],[6,7,8],[6,7,8,9],[],[],[11,12],[11,12,13],[11,12,13,14],[11,12,13,14,15],[1,2,3,4,5,6,7,8,9,10,11,12,13,14,15,16],[1,2,3,4,5,6,7,8,9,10,11,12,13,14,15,16,17],[0,1,2,3,4,5,6,7,8,9,10,11,12,13,14,15,16,17,18],[0,1,2,3,4,5,6,7,8,9,10,11,12,13,14,15,16,17,18,19]])) .e) (ca:=λi=>[(320,aT Zn.c i.1)])) (ca:=λi=>[(320,aT Zn.c i)]))⟩
instance:UV 97 true Za2:=⟨wK func97 ntmps97 results97 Za2.eq_1 .e⟩
instance:UV 47 true KB:=⟨wK func47 ntmps47 results47 KB.eq_1 (hf [1,2] [1,2] [] 1 (ho [[],[0],[0,1],[],[3],[0,1,2,3,4],[],[6],[0,1,2,3,4,5,6,7],[],[9],[],[11],[],[13],[0,1,2,3,4,5,6,7,8,9,10,11,12,13,14],[],[0,1,2,3,4,5,6,7,8,9,10,11,12,13,14,15,16]] (hjz [2,3] [2] [448,640,832] [0] (λ(i:List Ze)=>[]) (hlz [1,2,3] [1,2] [448,640,832] [0] 2 V1.eq_1 V1.eq_2 (λ(i:(List Ze)×Int)=>[(4,oI i.2)]) (.i (hf [1,2,3,4] [1,2,3] [448,640,832,2368] 5 (ho [[10002240,10002241,10002242,10002243],[0],[],[2],[],[2,3,4],[2,3,4,5],[2,3,4,5,6],[2,3,4,5,6,7],[0,1,2,3,4,5,6,7,8],[0,1,2,3,4,5,6,7,8,9],[0,1,2,3,4,5,6,7,8,9,10]])) .e) (ca:=λi=>[(2368,aT Ze.c i.1)]) (cb:=λi=>[(3,[.any,.any,.any,.any,.any,.own 2368 i.1.length,.any,.any,.any])])) (ca:=λi=>[(2368,aT Ze.c i)]) (cb:=λi=>[(3,[.any,.any,.any,.any,.any,.own 2368 i.length,.any,.any,.any])]))))⟩
theorem ZiD (k:Nat) (a0:Za) (a1:Yb) (a2:Int) (r:Bool×Yb) (hM:Zeo k a0 a1 a2=some r):ZeC Tryz.prog 57 [.agg (Za.c a0)] (Yb.c a1) [.one (.int .i64 a2)] true [.one (.bool r.1)] (Yb.c r.2):=by
 unfold Zeo at hM;exact wP func57 ntmps57 results57 (hj [] [56] [] (λ(i:Bool)=>[(6,oB i)]))
instance:HC 57 (Ty @ZiD):=⟨ZiD⟩
instance:UV 48 true ZdB:=⟨wK func48 ntmps48 results48 ZdB.eq_1 (hf [1,2] [2] [] 1 (ho [[],[],[1],[],[0,1,2,3],[0,1,2,3,4]]))⟩
theorem KG:kT Tryz.prog 19 true VK:=wK func19 ntmps19 results19 VK.eq_1 .e
instance:HC 19 (Ty @KG):=⟨KG⟩
instance:UV 98 true Wq:=⟨wK func98 ntmps98 results98 Wq.eq_1 .e⟩
instance:UV 99 true Jb:=⟨wK func99 ntmps99 results99 Jb.eq_1 .e⟩
instance:UV 147 true Jc:=⟨wK func147 ntmps147 results147 Jc.eq_1 (hj [] [] [] (λ(i:List Zw)=>[(3,oO 384 i.length)]) (hl [7,8] [] [] 2 Wp.eq_1 Wp.eq_2 (λ(i:(List Zw)×Int)=>[(3,oO 384 i.1.length),(9,oI i.2)]) (ca:=λi=>[(384,aT Zw.c i.1)])) (ca:=λi=>[(384,aT Zw.c i)]))⟩
instance:UV 100 true KO:=⟨wK func100 ntmps100 results100 KO.eq_1 (hj [] [] [] (λ(i:List Zn)=>[(3,oO 384 i.length)]) (hl [7,8] [] [] 2 Wo.eq_1 Wo.eq_2 (λ(i:(List Zn)×Int)=>[(3,oO 384 i.1.length),(9,oI i.2)]) (.i (hf [3,5,7,8,9] [5] [384] 5 (ho [[10001280],[],[1],[],[3],[],[5],[5,6],[1,2,3,4,5,6,7],[1,2,3,4,5,6,7,8],[0,1,2,3,4,5,6,7,8,9],[0,1,2,3,4,5,6,7,8,9,10]])) .e) (ca:=λi=>[(384,aT Zn.c i.1)])) (ca:=λi=>[(384,aT Zn.c i)]))⟩
instance:UV 50 true WO:=⟨wK func50 ntmps50 results50 WO.eq_1 (hjz [2,3] [2] [576,832,1088] [0] (λ(i:List Ze)=>[]) (hlz [2,3,21,22] [2] [576,832,1088] [0] 2 XC.eq_1 XC.eq_2 (λ(i:(List Ze)×Int)=>[(23,oI i.2)]) (ca:=λi=>[(2560,aT Ze.c i.1)]) (cb:=λi=>[(3,[.any,.any,.any,.any,.any,.own 2560 i.1.length,.any,.any,.any])])) (ca:=λi=>[(2560,aT Ze.c i)]) (cb:=λi=>[(3,[.any,.any,.any,.any,.any,.own 2560 i.length,.any,.any,.any])]))⟩
theorem JZ (k:Nat) (a1:Int) (j:Za) (l:List Zl) (p:List (Int×Bool)) (r:Bool×(List (Int×Bool))) (hM:QR k a1 j l p=some r):GC Tryz.prog 59 66 [.one (.box 66 0),.one (.l (.int .i64 a1))] [(66,[.l (.sl (j.notebook.cells.map Zo.c)),.l (.int .i64 j.world.clock),.l (.int .i64 j.world.seed),.l (.sl (j.world.files.map Zq.c)),.l (.sl (j.tapes.map Zn.c)),.l (.sl (j.entries.map Ze.c)),.l (.int .i64 j.next),.l (.int .i64 j.limit),.l (.int .i64 j.work),.l (.sl (l.map Zl.c)),.mp 67]),(67,[.mc (.ib p)])] [] (.one (.l (.bool r.1))) [(66,[.l (.sl (j.notebook.cells.map Zo.c)),.l (.int .i64 j.world.clock),.l (.int .i64 j.world.seed),.l (.sl (j.world.files.map Zq.c)),.l (.sl (j.tapes.map Zn.c)),.l (.sl (j.entries.map Ze.c)),.l (.int .i64 j.next),.l (.int .i64 j.limit),.l (.int .i64 j.work),.l (.sl (l.map Zl.c)),.mp 67]),(67,[.mc (.ib r.2)])] []:=by
 unfold QR at hM;refine GC.XZ WP func59 rfl ntmps59 results59 Ha λN w0 hbad=> ?_;have F:=True.intro;simp only [Zac];refine Zhr λR J=> ?_;refine S1 ?_;obtain ⟨O,E,hM⟩:=bind_some hM;refine Zp λK h=> ?_;simp [go_sem,F];refine Qb false (QX k j a1 O E) ?_;simp [go_sem,F];refine h _ ?_;obtain ⟨C,G,hM⟩:=bind_some hM;refine Zp λK h=> ?_;simp [go_sem,F];refine Qb false (KS k j.notebook a1 C G) ?_;simp [go_sem,F];refine h _ ?_;refine Zr λK3 B=> ?_;refine mj (ι:=(List (Int×Bool))×Bool) [0,6] [66] [] (λi=>[(54,oB i.2)]) hM ?_ ?_ (cb:=λi=>[(67,[.mc (.ib i.1)])])
 ·intro T hM S M;rcases ifM hM with ⟨t,hM⟩| ⟨t,hM⟩
  ·have F:=ZEJ (nf F t) (lT t);exact au
  ·have F:=ZEJ (nf F t) (lF t);obtain ⟨X,I,hM⟩:=bind_some hM;have F:=ZEJ F (Zaw I);rcases ifM hM with ⟨A,hM⟩| ⟨A,hM⟩
   ·have F:=nf F A;exact au
   ·have F:=nf F A;rcases ifM hM with ⟨m,hM⟩| ⟨m,hM⟩
    ·have F:=ZEJ (nf F m) (lT m);exact au
    ·have F:=ZEJ (nf F m) (lF m);rcases ifM hM with ⟨o,hM⟩| ⟨o,hM⟩
     ·have F:=ZEJ (nf F o) (eT o);exact au
     ·have F:=ZEJ (nf F o) (eF o);obtain ⟨P,w,hM⟩:=bind_some hM;refine Zx ?_;simp [go_sem,F];refine Zho [] (ren []) (ren [(29,66),(30,67)]) (ren []) (JY k C j l p P w) ?_;simp [go_sem,F];exact au
 ·rintro ⟨U,W⟩ hM;dsimp only at hM;refine Yh hM (λs hM=> ?_) (λs hM=> ?_)
  ·have F:=nf F s;refine S1 ?_;obtain rfl:=si hM;refine rr [] [] [4] [66,67] [] ?_;exact au
  ·have F:=nf F s;refine Zv ?_;refine B _ ?_;obtain ⟨Q,z,hM⟩:=bind_some hM;refine Zp λK h=> ?_;simp [go_sem,F];refine Qb false (X8 k l C Q z) ?_;simp [go_sem,F];refine h _ ?_;refine S1 ?_;obtain rfl:=si hM;refine rr [] [] [4] [66,67] [] ?_;exact au
theorem Zg9 (k:Nat) (a0:Za) (a1:Int) (r:Bool) (hM:Zd1 k a0 a1=some r):Ctr Tryz.prog 51 [.agg (Za.c a0),.one (.int .i64 a1)] true [.one (.bool r)]:=by
 unfold Zd1 at hM;refine ZfF func51 ntmps51 results51 λN w0 hbad F=> ?_;refine S1 ?_;obtain ⟨j,l,hM⟩:=bind_some hM;obtain ⟨o,m,hM⟩:=bind_some hM;refine Zp λK h=> ?_;simp [go_sem,F];refine Zrc [] (ren []) (ren [(7,0),(9,6)]) (ren []) (Us k a0 j l) ?_;simp [go_sem,F];refine Zho [] (ren []) (ren [(66,6),(67,0)]) (ren []) (JZ k a1 j.1 j.2.1 j.2.2 o m) ?_;simp [go_sem,F];exact au
instance:HC 51 (Ty @Zg9):=⟨Zg9⟩
theorem Ux:kT Tryz.prog 20 true WU:=wK func20 ntmps20 results20 WU.eq_1 .e
instance:HC 20 (Ty @Ux):=⟨Ux⟩
end Go.Proofs.YtmcfegjoccgpoaaGreatDoor
