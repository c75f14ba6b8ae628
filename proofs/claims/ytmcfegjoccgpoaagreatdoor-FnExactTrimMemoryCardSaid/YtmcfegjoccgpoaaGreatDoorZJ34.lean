import Derived.Test.YtmcfegjoccgpoaaGreatDoorZJ10
import Derived.Test.YtmcfegjoccgpoaaGreatDoorZJ33
set_option linter.unusedSimpArgs false
set_option linter.unusedVariables false
set_option maxHeartbeats 4000000
set_option maxRecDepth 100000
namespace Go.Proofs.YtmcfegjoccgpoaaGreatDoor
open Go.Proofs.Tryz
open Go.RowKit Am
theorem ZnL:∀(k:Nat),(kT Tryz.prog 58 true (Y0 k)):=by
 intro k
 induction k with
 | zero=>(repeat intro hM);simp [Y0] at hM
 | succ k j=>
  ·haveI:HC 58 _:=⟨j⟩;exact wK func58 ntmps58 results58 Y0.eq_2 (hj [1] [1] [] (λ(i:Int)=>[(3,oI i)]) (hl [1] [1] [] 2 Xh.eq_1 Xh.eq_2 (λ(i:Int×Int)=>[(3,oI i.1),(4,oI i.2)])) (hj [] [] [] (λ(i:Int)=>[(3,oI i)]) (hl [1] [1] [] 2 XW.eq_1 XW.eq_2 (λ(i:Int×Int)=>[(3,oI i.1),(5,oI i.2)]) (.i (hq 16) .e))))
theorem ZiK (k:Nat):kT Tryz.prog 58 true (Y0 k):=(ZnL k)
instance:HC 58 (Ty @ZiK):=⟨ZiK⟩
theorem U0:kT Tryz.prog 22 true Q6:=wK func22 ntmps22 results22 Q6.eq_1 (hj [1,2] [1,2] [] (λ(i:Int)=>[(5,oI i)]) (hl [1,2,4] [1,2] [] 7 Yv.eq_1 Yv.eq_2 (λ(i:(List Zl)×(List Bool)×(List Bool)×(List Bool)×(List (List Int))×Int×Int)=>[(5,oI i.2.2.2.2.2.1),(6,oI i.2.2.2.2.2.2)]) (.i (hj [1,2,4,6] [1,2] [] (λ(i:(List Zl)×(List Bool)×(List Bool)×(List Bool)×(List (List Int))×Int)=>[(5,oI i.2.2.2.2.2)]) (hj [1,2,4,5,6] [1,2] [] (λ(i:(List Zl)×(List Bool)×(List Bool)×(List Bool)×(List (List Int))×Bool)=>[(37,oB i.2.2.2.2.2)]) (hq 19) (.i .e (hj [1,2,4,5,6] [1,2,8] [] (λ(i:Bool)=>[(88,oB i)]) (hq 48))) (cb:=λi=>[(8,[cL Zl.c i.1,cL bC i.2.1,cL bC i.2.2.1,cL bC i.2.2.2.1,cL (lC iC) i.2.2.2.2.1])])) (cb:=λi=>[(8,[cL Zl.c i.1,cL bC i.2.1,cL bC i.2.2.1,cL bC i.2.2.2.1,cL (lC iC) i.2.2.2.2.1])])) .e) (cb:=λi=>[(8,[cL Zl.c i.1,cL bC i.2.1,cL bC i.2.2.1,cL bC i.2.2.2.1,cL (lC iC) i.2.2.2.2.1])])) (.i .e (hf [1,2,5] [1,2] [] 11 (ho [[],[],[1],[],[1,2,3],[1,2,3,4],[1,2,3,4,5],[0,1,2,3,4,5,6],[0,1,2,3,4,5,6,7],[0,1,2,3,4,5,6,7],[0,1,2,3,4,5,6,7,8,9],[0,1,2,3,4,5,6,7,8,9,10]]))))
instance:HC 22 (Ty @U0):=⟨U0⟩
theorem Zoc:∀(k:Nat),(kT Tryz.prog 60 true (Jr k)):=by
 intro k
 induction k with
 | zero=>(repeat intro hM);simp [Jr] at hM
 | succ k j=>
  ·haveI:HC 60 _:=⟨j⟩;exact wK func60 ntmps60 results60 Jr.eq_2 (hj [1] [1] [] (λ(i:Int)=>[(3,oI i)]) (hl [1,17,18] [1] [] 2 Jg.eq_1 Jg.eq_2 (λ(i:Int×Int)=>[(3,oI i.1),(19,oI i.2)])) (hj [] [] [] (λ(i:Int)=>[(3,oI i)]) (hl [29,30] [] [] 2 Jf.eq_1 Jf.eq_2 (λ(i:Int×Int)=>[(3,oI i.1),(31,oI i.2)]))))
theorem ZdT (k:Nat):kT Tryz.prog 60 true (Jr k):=(Zoc k)
instance:HC 60 (Ty @ZdT):=⟨ZdT⟩
theorem Vk (k:Nat) (a0:Za) (r:Za×Bool) (hM:Qq k a0=some r):Ctr Tryz.prog 23 [.agg (Za.c a0)] true [.agg (Za.c r.1),.one (.bool r.2)]:=by
 unfold Qq at hM;refine ZfF func23 ntmps23 results23 λN w0 hbad F=> ?_;refine S1 ?_;obtain ⟨l,Y,hM⟩:=bind_some hM;refine Zp λK h=> ?_;simp [go_sem,F];refine Zrc [] (ren []) (ren [(7,0),(9,13)]) (ren []) (Us k a0 l Y) ?_;simp [go_sem,F];refine h _ ?_;refine S1 ?_;refine S1 ?_;refine mj (ι:=Int×Int) [1,2] [1,2] [] (λi=>[(5,oI i.1),(6,oI i.2)]) hM ?_ ?_
 ·intro O hM K4 b0;refine S1 ?_;refine Y5 ?_;refine lp (ι:=(List (Int×Bool))×Int×Int×Int) [1,2,4,16,17] [1,2,13] [] (λi=>[(5,oI i.2.1),(6,oI i.2.2.1),(18,oI i.2.2.2)]) (λn i=>Ya k a0 l n i.1 i.2.1 i.2.2.1 i.2.2.2=some O) k (l.2.2,0,0,0) hM (by simp [Ya]) ?_ (cb:=λi=>[(0,[.mc (.ib i.1)])]);intro X E ⟨R,x5,x6,x7⟩ b1 hM _;have hM:Ya k a0 l (E+1) R x5 x6 x7=some O:=hM;rw [Ya] at hM;refine S1 ?_;refine Zr λK6 C=> ?_;refine Yh hM (λm hM=> ?_) (λm hM=> ?_)
  ·have F:=ZEJ (nf F m) (lT m);refine Zv ?_;refine C _ ?_;refine mj (ι:=(List (Int×Bool))×Int×Int) [1,2,4,16,17,18] [1,2,13] [] (λi=>[(5,oI i.2.1),(6,oI i.2.2)]) hM ?_ ?_ (cb:=λi=>[(0,[.mc (.ib i.1)])])
   ·intro e8 hM S P;refine Y5 ?_;obtain ⟨s,t,hM⟩:=bind_some hM;have F:=ZEJ F (Zaw t);refine S1 ?_;refine Zr λT o=> ?_;obtain ⟨G,w,hM⟩:=bind_some hM;refine Zp λK h=> ?_;simp [go_sem,F];refine Zho [] (ren []) (ren [(66,13),(67,0)]) (ren []) (JZ k s.id l.1 l.2.1 R G w) ?_;simp [go_sem,F];refine h _ ?_;refine Yh hM (λj hM=> ?_) (λj hM=> ?_)
    ·have F:=nf F j;exact au
    ·have F:=nf F j;refine Zv ?_;refine o _ ?_;refine Zr λU p=> ?_;obtain ⟨I,z,hM⟩:=bind_some hM;obtain ⟨J,A,hM⟩:=bind_some hM;have F:=ZEJ F (Zaw A);obtain ⟨M,B,hM⟩:=bind_some hM;refine QL 6 mixed WP WP ?_;simp [go_sem,F];refine Qb false (QX k a0 s.id I z) ?_;simp [go_sem,F];refine Qb false (ZdT k J.value M B) ?_;simp [go_sem,F];refine p _ ?_;refine mj (ι:=Bool) [1,2,4,5,6,8,9,16,17,18] [0,1,2,8,13] [] (λi=>[(50,oB i)]) hM ?_ ?_
     ·intro Z hM W Q;exact au
     ·intro b3 hM;(try dsimp only at hM);exact au
   ·rintro ⟨x8,x9,b2⟩ hM;dsimp only at hM;exact au
  ·have F:=ZEJ (nf F m) (lF m);exact au
 ·rintro ⟨x2,x3⟩ hM;dsimp only at hM;exact au
instance:HC 23 (Ty @Vk):=⟨Vk⟩
end Go.Proofs.YtmcfegjoccgpoaaGreatDoor
