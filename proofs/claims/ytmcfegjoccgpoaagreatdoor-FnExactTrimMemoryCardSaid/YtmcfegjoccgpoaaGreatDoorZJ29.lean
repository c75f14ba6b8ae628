import Derived.Test.YtmcfegjoccgpoaaGreatDoorZJ24
import Derived.Test.YtmcfegjoccgpoaaGreatDoorZJ25
import Derived.Test.YtmcfegjoccgpoaaGreatDoorZJ23
import Derived.Test.YtmcfegjoccgpoaaGreatDoorZJ26
set_option linter.unusedSimpArgs false
set_option linter.unusedVariables false
set_option maxHeartbeats 4000000
set_option maxRecDepth 100000
namespace Go.Proofs.YtmcfegjoccgpoaaGreatDoor
open Go.Proofs.Tryz
open Go.RowKit Am
theorem Zbm (a0:Zf) (a1:Ma) (r:Zf) (hM:Zs a0 a1=some r):ZeC Tryz.prog 248 [] (Zf.c a0) [.one (.str a1)] true [] (Zf.c r):=by
 unfold Zs at hM;exact wP func248 ntmps248 results248 (hj [0] [] [] (λ(i:(List Zj)×Int×Int×Bool)=>[(13,oB i.2.2.2)]) (cb:=λi=>[(23,[cL Zj.c i.1,cI i.2.1,cI i.2.2.1])]))
instance:HC 248 (Ty @Zbm):=⟨Zbm⟩
instance:UV 164 true Zb1:=⟨wK func164 ntmps164 results164 Zb1.eq_1 .e⟩
theorem Zdq:kT Tryz.prog 124 true W7:=wK func124 ntmps124 results124 W7.eq_1 .e
instance:HC 124 (Ty @Zdq):=⟨Zdq⟩
theorem Zmf (k:Nat) (a0:Za) (a2:Int) (o:List Zl) (p:List Bool) (l:List Bool) (j:List Bool) (m:List (List Int)) (r:(List Bool)×(List Bool)×(List Bool)×(List (List Int))) (hM:Zdl k a0 a2 o p l j m=some r):GC Tryz.prog 73 122 [.agg [.l (.sl (a0.notebook.cells.map Zo.c)),.l (.int .i64 a0.world.clock),.l (.int .i64 a0.world.seed),.l (.sl (a0.world.files.map Zq.c)),.l (.sl (a0.tapes.map Zn.c)),.l (.sl (a0.entries.map Ze.c)),.l (.int .i64 a0.next),.l (.int .i64 a0.limit),.l (.int .i64 a0.work)],.one (.box 122 0),.one (.l (.int .i64 a2))] [(122,[.l (.sl (o.map Zl.c)),.own 31000 p.length,.own 31001 l.length,.own 31002 j.length,.own 31003 m.length])] [(31000,some ⟨false,p.map bC⟩),(31001,some ⟨false,l.map bC⟩),(31002,some ⟨false,j.map bC⟩),(31003,some ⟨false,m.map (lC iC)⟩)] (.tup []) [(122,[.l (.sl (o.map Zl.c)),.own 30000 r.1.length,.own 30001 r.2.1.length,.own 30002 r.2.2.1.length,.own 30003 r.2.2.2.length])] [(30000,some ⟨false,r.1.map bC⟩),(30001,some ⟨false,r.2.1.map bC⟩),(30002,some ⟨false,r.2.2.1.map bC⟩),(30003,some ⟨false,r.2.2.2.map (lC iC)⟩)]:=by
 unfold Zdl at hM;refine GC.XZ WP func73 rfl ntmps73 results73 Ha λN w0 hbad=> ?_;have F:=True.intro;simp only [Zac];refine Zhr λK0 B=> ?_;refine S1 ?_;refine S1 ?_;obtain ⟨x1,e1,hM⟩:=bind_some hM;have F:=ZEJ F (Zaw e1);obtain ⟨x2,e2,hM⟩:=bind_some hM;refine Zp λK h=> ?_;simp [go_sem,F];refine Qb false (Zdq k x1 x2 e2) ?_;simp [go_sem,F];refine h _ ?_;refine mjE (ι:=List Int) [1,2,3] [3,122] [31000,31001,31002,31003] (λi=>[(6,oO 704 i.length)]) hM ?_ ?_ (ca:=λi=>[(704,aT iC i)])
 ·intro e3 hM hR1 K5 e4;refine S1 ?_;refine Y5 ?_;refine lp (ι:=(List Int)×Int) [1,2,3,7] [3,122] [1216,31000,31001,31002,31003] (λi=>[(6,oO 704 i.1.length),(8,oI i.2)]) (λn i=>Qt k a0 x2 o p l j m n i.1 i.2=some e3) k (([]:List Int),0) hM (by simp [Qt]) ?_ (ca:=λi=>[(704,aT iC i.1)]);intro e0 b8 ⟨x4,x5⟩ e5 hM _;have hM:Qt k a0 x2 o p l j m (b8+1) x4 x5=some e3:=hM;rw [Qt] at hM;refine Zr λK7 b7=> ?_;refine S1 ?_;refine Yh hM (λP hM=> ?_) (λP hM=> ?_)
  ·have F:=ZEJ (nf F P) (lT P);refine Zv ?_;refine b7 _ ?_;refine mjE (ι:=List Int) [1,2,3,7,8] [3,122] [1216,31000,31001,31002,31003] (λi=>[(6,oO 704 i.length)]) hM ?_ ?_ (ca:=λi=>[(704,aT iC i)])
   ·intro e9 hM hR2 c5 c4;refine Y5 ?_;refine Zr λc6 Q=> ?_;obtain ⟨x7,C,hM⟩:=bind_some hM;have F:=ZEJ F (Zaw C);have F:=ZEJ F (ZmP C);obtain ⟨x8,Y,hM⟩:=bind_some hM;refine QL 8 mixed WP WP ?_;simp [go_sem,F];refine Qb false (ZbZ k o x7 x8 Y) ?_;simp [go_sem,F];refine Q _ ?_;refine Zr λc7 R=> ?_;refine S1 ?_;refine Yh hM (λs hM=> ?_) (λs hM=> ?_)
    ·have F:=ZEJ (nf F s) (lT s);exact au
    ·have F:=ZEJ (nf F s) (lF s);refine Zv ?_;refine R _ ?_;refine Zr λc8 S=> ?_;obtain ⟨e6,E,hM⟩:=bind_some hM;have F:=ZEJ F (Zaw E);have F:=ZEJ F (ZmP E);refine S1 ?_;refine Yh hM (λz hM=> ?_) (λz hM=> ?_)
     ·have F:=nf F z;obtain rfl:=si hM;have hM:=hR2;clear hR2;dsimp only at hM;obtain rfl:=si hM;have hM:=hR1;clear hR1;dsimp only at hM;obtain rfl:=si hM;refine rr [] [(31000,30000),(31001,30001),(31002,30002),(31003,30003)] [] [122] [31000,31001,31002,31003] ?_;exact au
     ·have F:=nf F z;refine Zv ?_;refine S _ ?_;refine le1 [1,2,3,6,7,8,9] [3,122] [704,1216,31000,31001,31002,31003] ?_;obtain ⟨b9,Z,hM⟩:=bind_some hM;have F:=ZEJ F (Zaw Z);obtain ⟨c0,b0,hM⟩:=bind_some hM;obtain ⟨e7,b1,hM⟩:=bind_some hM;have F:=ZEJ F (Zaw b1);obtain ⟨e8,b2,hM⟩:=bind_some hM;obtain ⟨w,U⟩:=Vm b2;replace w:=w.symm;subst w;(try simp at U);have F:=ZEJ F U;refine KY [[],[],[1],[],[],[4],[4,5],[],[4,5,6,7],[4,5,6,7,8],[4,5,6,7,8,9],[3,4,5,6,7,8,9,10],[1,2,3,4,5,6,7,8,9,10,11],[1,2,3,4,5,6,7,8,9,10,11,12],[1,2,3,4,5,6,7,8,9,10,11,12,13],[1,2,3,4,5,6,7,8,9,10,11,12,13,14],[0,1,2,3,4,5,6,7,8,9,10,11,12,13,14,15],[0,1,2,3,4,5,6,7,8,9,10,11,12,13,14,15,16]] mixed WP ?_;simp (maxSteps:=9999999) [go_sem,F];refine Qb false (Vz k a0 b9.id c0 b0) ?_;simp (maxSteps:=9999999) [go_sem,F];refine ⟨XI WP, ?_⟩;exact au
   ·intro x6 hM;dsimp only at hM;exact au
  ·have F:=ZEJ (nf F P) (lF P);exact au
 ·intro X hM;dsimp only at hM;obtain ⟨g0,G,hM⟩:=bind_some hM;have F:=ZEJ F (Zaw G);have F:=ZEJ F (ZmP G);refine S1 ?_;refine le1 [1,2,3] [3,122] [31000,31001,31003] ?_ (ch:=[(6,oL iC X)]) (ca:=[(31002,aF bC (j.set a2.toNat true))]);obtain ⟨g1,I,hM⟩:=bind_some hM;have F:=ZEJ F (Zaw I);have F:=ZEJ F (ZmP I);refine S1 ?_;refine Zr λc9 T=> ?_;obtain ⟨c1,b3,hM⟩:=bind_some hM;have F:=ZEJ F (Zaw b3);obtain ⟨c2,b4,hM⟩:=bind_some hM;refine QL 8 mixed WP WP ?_;simp [go_sem,F];refine Qb false (Vz k a0 c1.id c2 b4) ?_;simp [go_sem,F];refine T _ ?_;rcases ifM hM with ⟨t,hM⟩| ⟨t,hM⟩
  ·have F:=ZEJ (nf F t) (eT t);obtain ⟨c3,b5,hM⟩:=bind_some hM;have F:=ZEJ F (Zaw b5);rcases ifM hM with ⟨A,hM⟩| ⟨A,hM⟩
   ·have F:=nf F A;obtain ⟨W,b6,hM⟩:=bind_some hM;obtain ⟨g2,J,hM⟩:=bind_some hM;have F:=ZEJ F (Zaw J);have F:=ZEJ F (ZmP J);refine QL 33 mixed WP WP ?_;simp [go_sem,F];refine Qb false (Zdn k c3.inputs X W b6) ?_;simp [go_sem,F];obtain rfl:=si hM;exact rn B [] [(31000,30000),(31001,30001),(31002,30002),(31003,30003)] [] [122] [31000] (ca:=[(31001,aF bC (l.set a2.toNat W)),(31002,aF bC (j.set a2.toNat true)),(31003,aF (lC iC) (m.set a2.toNat X))])
   ·have F:=nf F A;obtain ⟨g3,M,hM⟩:=bind_some hM;have F:=ZEJ F (Zaw M);have F:=ZEJ F (ZmP M);refine QL 33 mixed WP WP ?_;simp [go_sem,F];obtain rfl:=si hM;exact rn B [] [(31000,30000),(31001,30001),(31002,30002),(31003,30003)] [] [122] [31000] (ca:=[(31001,aF bC (l.set a2.toNat false)),(31002,aF bC (j.set a2.toNat true)),(31003,aF (lC iC) (m.set a2.toNat X))])
  ·have F:=ZEJ (nf F t) (eF t);obtain ⟨g4,O,hM⟩:=bind_some hM;have F:=ZEJ F (Zaw O);have F:=ZEJ F (ZmP O);refine QL 33 mixed WP WP ?_;simp [go_sem,F];obtain rfl:=si hM;exact rn B [] [(31000,30000),(31001,30001),(31002,30002),(31003,30003)] [] [122] [31000] (ca:=[(31001,aF bC (l.set a2.toNat false)),(31002,aF bC (j.set a2.toNat true)),(31003,aF (lC iC) (m.set a2.toNat X))])
instance:UV 196 true Zaj:=⟨wK func196 ntmps196 results196 Zaj.eq_1 (hJ [1] [] [] (λ(i:List Int)=>[(6,oO 704 i.length)]) (hl [1,7] [] [832] 2 Qc.eq_1 Qc.eq_2 (λ(i:(List Int)×Int)=>[(6,oO 704 i.1.length),(8,oI i.2)]) (.i (hj [1,6,7,8,9] [] [704,832] (λ(i:Bool)=>[(34,oB i)])) .e) (ca:=λi=>[(704,aT iC i.1)])) (ca:=λi=>[(704,aT iC i)]))⟩
instance:UV 159 true KH:=⟨wK func159 ntmps159 results159 KH.eq_1 (.i .e (hU [] [] [] (hl [3,4] [] [576,832] 1 Qz.eq_1 Qz.eq_2 (λ(i:Int)=>[(5,oI i)]) (.i (hj [3,4,5] [] [576,832] (λ(i:Bool)=>[(38,oB i)])) .e))))⟩
theorem ZnF:∀(k:Nat),(kT Tryz.prog 163 true (Uj k)):=by
 intro k
 induction k with
 | zero=>(repeat intro hM);simp [Uj] at hM
 | succ k j=>
  ·haveI:HC 163 _:=⟨j⟩;exact wK func163 ntmps163 results163 Uj.eq_2 (hj [2,3,4] [3,4] [] (λ(i:Bool)=>[(60,oB i)]) .e (.i .e (hU [2,3,4] [3,4] [] (hl [2,3,4] [3,4] [] 1 UM.eq_1 UM.eq_2 (λ(i:Int)=>[(7,oI i)]) (.i (hq 11) .e)) (hU [] [] [] (hl [2,3,4] [3,4] [] 1 VG.eq_1 VG.eq_2 (λ(i:Int)=>[(8,oI i)]) (.i (hj [2,3,4,8] [3,4] [] (λ(i:Bool)=>[(120,oB i)]) (hq 29)) .e))))))
theorem ZiB (k:Nat):kT Tryz.prog 163 true (Uj k):=(ZnF k)
instance:HC 163 (Ty @ZiB):=⟨ZiB⟩
instance:UV 122 true XL:=⟨wK func122 ntmps122 results122 XL.eq_1 .e⟩
theorem ZaA:kT Tryz.prog 71 true Za1:=wK func71 ntmps71 results71 Za1.eq_1 (.i .e (hq 8 (hj [] [] [] (λ(i:Bool)=>[(8,oB i)]) (hq 18))))
instance:HC 71 (Ty @ZaA):=⟨ZaA⟩
instance:UV 117 true Qy:=⟨wK func117 ntmps117 results117 Qy.eq_1 (.i .e (hj [] [] [] (λ(i:List Int)=>[(5,oO 576 i.length)]) (hl [0,6] [] [1344] 2 ZK.eq_1 ZK.eq_2 (λ(i:(List Int)×Int)=>[(5,oO 576 i.1.length),(7,oI i.2)]) (.i (hj [0,6,7] [] [1344] (λ(i:List Int)=>[(5,oO 576 i.length)]) (ca:=λi=>[(576,aT iC i)])) .e) (ca:=λi=>[(576,aT iC i.1)])) (ca:=λi=>[(576,aT iC i)])))⟩
theorem ZaD:kT Tryz.prog 68 true US:=wK func68 ntmps68 results68 US.eq_1 (hj [] [] [] (λ(i:List (List Int))=>[(3,oO 320 i.length)]) (hl [0] [] [] 2 Q2.eq_1 Q2.eq_2 (λ(i:(List (List Int))×Int)=>[(3,oO 320 i.1.length),(4,oI i.2)]) (ca:=λi=>[(320,aT (lC iC) i.1)])) (ca:=λi=>[(320,aT (lC iC) i)]))
instance:HC 68 (Ty @ZaD):=⟨ZaD⟩
end Go.Proofs.YtmcfegjoccgpoaaGreatDoor
