import Derived.Test.YtmcfegjoccgpoaaGreatDoorZJ21
set_option linter.unusedSimpArgs false
set_option linter.unusedVariables false
set_option maxHeartbeats 4000000
set_option maxRecDepth 100000
namespace Go.Proofs.YtmcfegjoccgpoaaGreatDoor
open Go.Proofs.Tryz
open Go.RowKit Am
theorem ZpE {X E:Nat} {P:L} (k:Nat) (step:Int->Option (List Int)) (Z:∀(a:Int) (r:List Int),step a=some r->GC Tryz.prog X E [.one (.l (.int .i64 a)),.one (.box E 0)] [(E,[.l P])] [] (.one (.own 30000 r.length)) [(E,[.l P])] [(30000,some ⟨false,r.map iC⟩)])
  (a0:Int) (r:List Int) (hM:ZhY k step a0=some r):GC Tryz.prog 215 35 [.one (.l (.int .i64 a0)),.one (.clo X [35])] [(35,[.l P])] [] (.one (.own 30000 r.length)) [(35,[.l P])] [(30000,some ⟨true,r.map iC⟩)]:=by
 unfold ZhY at hM;refine GC.XZ WP func215 rfl ntmps215 results215 Ha λN w0 hbad=> ?_;have F:=True.intro;simp only [Zac];refine S1 ?_;refine S1 ?_;obtain ⟨G,e1,hM⟩:=bind_some hM;refine Zp λK h=> ?_;simp [go_sem,F];refine Zou ?_;simp [go_sem,F];refine Zrb [] (ren []) (ren [(E,35)]) (ren [(30000,704)]) (Z a0 G e1) ?_;simp [go_sem,F];refine h _ ?_;refine Jk (Zvj (t:=6) (τ:=704) (n:=G.length) (W:=1) (by simp [go_sem])) ?_;refine mj (ι:=List Int) [] [35] [] (λi=>[(5,oO 512 i.length)]) hM ?_ ?_ (ca:=λi=>[(512,aT iC i)])
 ·intro Y hM K3 U
  have J:G.length<=17592186044416:=by
   by_cases h:G.length<=17592186044416
   ·exact h
   ·rw [if_neg h] at hM;cases hM
  rw [if_pos J] at hM;refine Y5 ?_;refine lp (ι:=(List Int×List Int)×(List Int×Nat)) [1] [35] [] (λi=>[(5,oO 512 i.1.1.length),(6,.one (.vw 704 (i.2.1.length+i.1.2.length) i.2.1.length (i.2.1.length+i.1.2.length) 1))]) (λn i=>Vd k step n i.1.1 i.1.2 i.2.2=some Y/\i.2.1.length+i.1.2.length<=i.2.2/\i.2.2<=17592186044416) k (([],G),([],G.length)) ⟨hM,Ha,J⟩ (by simp [Vd]) ?_ (ca:=λi=>[(512,aT iC i.1.1),(704,aF iC (i.2.1++i.1.2))]);intro KL nL ⟨⟨out,p⟩,s,t⟩ hL ⟨hM,O,A⟩ _;have hM:Vd k step (nL+1) out p t=some Y:=hM;have O:s.length+p.length<=t:=O;have A:t<=17592186044416:=A;rw [Vd] at hM;refine Zr λK5 W=> ?_;refine S1 ?_;refine Yh hM (λI hM=> ?_) (λI hM=> ?_)
  ·have F:=ZEJ (nf F I) (lT I);refine Zv ?_;refine W _ ?_;refine Y5 ?_;obtain ⟨x,S,hM⟩:=bind_some hM
   obtain ⟨j,rfl⟩:∃j,p=x::j:=by
    cases p with
    | nil=>simp [at?] at S
    | cons y l=>simp [at?] at S;subst S;exact ⟨l,rfl⟩
   have hx:(List.map iC s++iC x::List.map iC j)[s.length]? =some (iC x):=by rw [Ge Ha];simp
   have hp:(1:Int)<=(j.length:Int)+1:=WF
   have F:=ZEJ F (ZEJ hx hp);refine S1 ?_;refine S1 ?_;have O:s.length+(j.length+1)<=t:=O;obtain ⟨m,w⟩:∃m,m=s++[x]:=⟨_,rfl⟩;have b0:m.length=s.length+1:=by rw [w];simp
   refine le1 [1,5,7] [35] [512] ?_ (ch:=[(6,.one (.vw 704 (m.length+j.length) m.length (m.length+j.length) 1))]) (ca:=[(704,aF iC (m++j))]) (k:=by
    constructor<;>simp [go_sem,F,w]<;>omega)
   obtain ⟨b,e8,hM⟩:=bind_some hM;refine Zp λK h=> ?_;simp [go_sem,F];refine Qb false (ZdI k out x b e8) ?_;simp [go_sem,F];refine h _ ?_;refine Yh hM (λT hM=> ?_) (λT hM=> ?_)
   ·have F:=nf F T;obtain ⟨o,Q,hM⟩:=bind_some hM;obtain ⟨z,M⟩:=Vm Q;replace z:=z.symm;subst z;(try simp at M);have F:=ZEJ F M;obtain ⟨C,R,hM⟩:=bind_some hM
    have B:t+C.length<=17592186044416:=by
     by_cases h:t+C.length<=17592186044416
     ·exact h
     ·rw [if_neg h] at hM;cases hM
    rw [if_pos B] at hM;refine S1 ?_;refine ZyH 4 ?_;simp [go_sem,F];refine Zou ?_;simp [go_sem,F];refine Zrb [] (ren []) (ren [(E,35)]) (ren [(30000,1984)]) (Z x C R) ?_;simp [go_sem,F];refine ⟨WF,WF, ?_, ?_⟩
    ·exact fr hL [(2048,704)] [1,5,6] [35] [512,2048] ((out++[x],j++C),(m,t+C.length)) ⟨hM,by simp;omega,B⟩
    ·exact fr hL [(2048,704)] [1,5,6] [35] [512,2048] ((out++[x],j++C),([],t+C.length)) ⟨hM,by simp;omega,B⟩
   ·have F:=nf F T;refine Zv ?_;exact fs (i:=((out,j),(m,t))) hL ⟨hM,by show m.length+j.length<=t;omega,A⟩
  ·have F:=ZEJ (nf F I) (lF I);refine Zm1 ?_;obtain rfl:=si hM;exact fs U rfl
 ·intro x2 hM;(try dsimp only at hM);obtain ⟨x3,e3,hM⟩:=bind_some hM;refine Zp λK h=> ?_;simp [go_sem,F];refine Qb false (ZdF k x2 x3 e3) ?_;simp [go_sem,F];refine h _ ?_;obtain rfl:=si hM;refine rr [] [(2176,30000)] [4] [35] [2176] ?_;exact au
instance:UV 204 true Ww:=⟨wK func204 ntmps204 results204 Ww.eq_1 (hj [] [] [] (λ(i:Bool)=>[(6,oB i)]))⟩
instance:UV 242 true ZgY:=⟨wK func242 ntmps242 results242 ZgY.eq_1 (hU [0] [] [] (hl [0] [] [] 1 U8.eq_1 U8.eq_2 (λ(i:Int)=>[(3,oI i)]) (.i (hj [0,3] [] [] (λ(i:Bool)=>[(4,oB i)]) .e (hj [0,3] [] [] (λ(i:Bool)=>[(38,oB i)]))) .e)))⟩
instance:UV 251 true Zbs:=⟨wK func251 ntmps251 results251 Zbs.eq_1 .e⟩
instance:UV 245 true YF:=⟨wK func245 ntmps245 results245 YF.eq_1 (hj [] [] [] (λ(i:Bool)=>[(4,oB i)]))⟩
instance:UV 284 true Kl:=⟨wK func284 ntmps284 results284 Kl.eq_1 (hj [] [] [] (λ(i:Bool)=>[(4,oB i)]))⟩
theorem Zj8:∀(k:Nat),(kT Tryz.prog 253 true (Xo k)):=by
 intro k
 induction k with
 | zero=>(repeat intro hM);simp [Xo] at hM
 | succ k j=>
  ·haveI:HC 253 _:=⟨j⟩;exact wK func253 ntmps253 results253 Xo.eq_2 (hj [] [] [] (λ(i:Int)=>[(3,oI i)]) (hl [7,8] [] [] 2 Xn.eq_1 Xn.eq_2 (λ(i:Int×Int)=>[(3,oI i.1),(9,oI i.2)])))
theorem ZdX (k:Nat):kT Tryz.prog 253 true (Xo k):=(Zj8 k)
instance:HC 253 (Ty @ZdX):=⟨ZdX⟩
instance:UV 257 true Wm:=⟨wK func257 ntmps257 results257 Wm.eq_1 .e⟩
instance:UV 292 true Xl:=⟨wK func292 ntmps292 results292 Xl.eq_1 (hj [] [] [] (λ(i:Bool)=>[(4,oB i)]))⟩
theorem ZaE:kT Tryz.prog 118 true YG:=wK func118 ntmps118 results118 YG.eq_1 (hU [] [] [] (hl [0,1] [] [] 1 Qk.eq_1 Qk.eq_2 (λ(i:Int)=>[(5,oI i)])))
instance:HC 118 (Ty @ZaE):=⟨ZaE⟩
instance:UV 123 true Kg:=⟨wK func123 ntmps123 results123 Kg.eq_1 (hU [] [] [] (hl [0,1,2] [] [] 1 W5.eq_1 W5.eq_2 (λ(i:Int)=>[(7,oI i)]) (.i (hj [0,1,2,7] [] [] (λ(i:Bool)=>[(29,oB i)])) .e)))⟩
instance:UV 201 true UW:=⟨wK func201 ntmps201 results201 UW.eq_1 (hj [] [] [] (λ(i:List Ma)=>[(3,oO 448 i.length)]) (hl [0] [] [] 2 Wk.eq_1 Wk.eq_2 (λ(i:(List Ma)×Int)=>[(3,oO 448 i.1.length),(4,oI i.2)]) (.i (hj [0,4] [] [] (λ(i:List Ma)=>[(3,oO 448 i.length)]) (hj [0,3,4] [] [448] (λ(i:Int)=>[(5,oI i)]) (hl [0,3,4] [] [448] 1 Wj.eq_1 Wj.eq_2 (λ(i:Int)=>[(5,oI i)]) (hj [0,3,4,5] [] [448] (λ(i:Bool)=>[(28,oB i)]) (hq 13))) (hj [0,3,4,5] [] [448] (λ(i:Bool)=>[(45,oB i)]) (hq 13) (.i .e (hp [0,3,4,5,6] [] [448,2944] 10 [] (ho [[],[],[0,1],[],[],[3,4],[3,4,5],[3,4,5,6],[0,1,2,3,4,5,6,7],[10000448],[0,1,2,3,4,5,6,7,8,9],[0,1,2,3,4,5,6,7,8,9,10]] (.r [] [(3776,448)] [0,3,4] [] [3776])))))) (ca:=λi=>[(448,aT sC i)])) .e) (ca:=λi=>[(448,aT sC i.1)])) (ca:=λi=>[(448,aT sC i)]))⟩
instance:UV 120 true Q5:=⟨wK func120 ntmps120 results120 Q5.eq_1 .e⟩
instance:UV 157 true Zb0:=⟨wK func157 ntmps157 results157 Zb0.eq_1 .e⟩
instance:UV 300 true UR:=⟨wK func300 ntmps300 results300 UR.eq_1 (hj [] [] [] (λ(i:Bool)=>[(4,oB i)]))⟩
instance:UV 278 true W4:=⟨wK func278 ntmps278 results278 W4.eq_1 (hU [] [] [] (hl [0] [] [] 1 QP.eq_1 QP.eq_2 (λ(i:Int)=>[(3,oI i)]) (.i (hj [0,3] [] [] (λ(i:Bool)=>[(40,oB i)]) (hq 27)) .e)))⟩
instance:UV 235 true Qa:=⟨wK func235 ntmps235 results235 Qa.eq_1 .e⟩
instance:UV 239 true Um:=⟨wK func239 ntmps239 results239 Um.eq_1 (hU [] [] [] (hl [0] [] [] 1 YV.eq_1 YV.eq_2 (λ(i:Int)=>[(3,oI i)]) (.i (hf [0,3] [] [] 4 (ho [[],[],[0,1],[],[],[3,4],[3,4,5],[0,1,2,3,4,5,6]])) .e)))⟩
instance:UV 198 true UQ:=⟨wK func198 ntmps198 results198 UQ.eq_1 (hU [0] [] [] (hl [0] [] [] 1 Wh.eq_1 Wh.eq_2 (λ(i:Int)=>[(3,oI i)])) (hj [] [] [] (λ(i:Bool)=>[(2,oB i)])))⟩
instance:UV 238 true Zdg:=⟨wK func238 ntmps238 results238 Zdg.eq_1 (hj [1] [1] [] (λ(i:Bool)=>[(15,oB i)]) .e (.i .e (hU [] [] [] (hl [1] [1] [] 1 QZ.eq_1 QZ.eq_2 (λ(i:Int)=>[(3,oI i)]) (.i (hU [1,3] [1] [] (hj [1,3,4] [1,4] [] (λ(i:Bool)=>[(40,oB i)]) .e (.i .e (hl [1,3,4] [1,4] [] 1 WA.eq_1 WA.eq_2 (λ(i:Int)=>[(5,oI i)]))))) .e)))))⟩
instance:UV 200 true Xe:=⟨wK func200 ntmps200 results200 Xe.eq_1 (.i .e (hU [] [] [] (hl [0,1] [] [] 1 Qs.eq_1 Qs.eq_2 (λ(i:Int)=>[(5,oI i)]) (.i (hq 8) .e))))⟩
theorem ZiF (k:Nat) (a0:List Int) (r:List Int) (hM:Zep k a0=some r):Ctr Tryz.prog 161 [.one (.sl (a0.map iC))] true [.one (.sl (r.map iC))]:=by
 unfold Zep at hM;refine ZfF func161 ntmps161 results161 λN w0 hbad F=> ?_;refine S1 ?_;refine S1 ?_;refine mj (ι:=List Int) [] [] [] (λi=>[(3,oO 448 i.length)]) hM ?_ ?_ (ca:=λi=>[(448,aT iC i)])
 ·intro e1 hM K3 c2;refine S1 ?_;refine Y5 ?_;refine lp (ι:=(List Int)×Int) [0] [] [] (λi=>[(3,oO 448 i.1.length),(4,oI i.2)]) (λn i=>WD k a0 n i.1 i.2=some e1) k (([]:List Int),0) hM (by simp [WD]) ?_ (ca:=λi=>[(448,aT iC i.1)]);intro c0 b0 ⟨w,x3⟩ c3 hM _;have hM:WD k a0 (b0+1) w x3=some e1:=hM;rw [WD] at hM;refine Zr λK5 Y=> ?_;refine S1 ?_;refine Yh hM (λE hM=> ?_) (λE hM=> ?_)
  ·have F:=ZEJ (nf F E) (lT E);refine Zv ?_;refine Y _ ?_;refine mj (ι:=List Int) [0,4] [] [] (λi=>[(3,oO 448 i.length)]) hM ?_ ?_ (ca:=λi=>[(448,aT iC i)])
   ·intro e7 hM K9 Z;refine Y5 ?_;refine Zr λb6 G=> ?_;obtain ⟨x5,z,hM⟩:=bind_some hM;have F:=ZEJ F (Zaw z);obtain ⟨x6,R,hM⟩:=bind_some hM;refine Zp λK h=> ?_;simp [go_sem,F];refine Qb false (ZaE k w x5 x6 R) ?_;simp [go_sem,F];refine h _ ?_;refine Yh hM (λt hM=> ?_) (λt hM=> ?_)
    ·have F:=nf F t;exact au
    ·have F:=nf F t;refine Zv ?_;refine G _ ?_;refine S1 ?_;refine mj (ι:=Int) [0,3,4] [] [448] (λi=>[(5,oI i)]) hM ?_ ?_
     ·intro A hM b7 b2;refine Y5 ?_;refine lp (ι:=Int) [0,3,4] [] [448] (λi=>[(5,oI i)]) (λn i=>WC a0 w x3 n i=some A) k 0 hM (by simp [WC]) ?_;intro b1 I x8 b5 hM _;have hM:WC a0 w x3 (I+1) x8=some A:=hM;rw [WC] at hM;refine Zr λb8 b3=> ?_;refine mj (ι:=Bool) [0,3,4,5] [] [448] (λi=>[(34,oB i)]) hM ?_ ?_
      ·intro c1 hM b9 b4;rcases ifM hM with ⟨j,hM⟩| ⟨j,hM⟩
       ·have F:=ZEJ (nf F j) (lT j);obtain ⟨c4,B,hM⟩:=bind_some hM;have F:=ZEJ F (Zaw B);have F:=ZEJ F (ZmP B);obtain ⟨c5,C,hM⟩:=bind_some hM;have F:=ZEJ F (ZEI (z.symm.trans C));have F:=ZEJ F (Zaw C);refine QL 13 mixed WP WP ?_;simp [go_sem,F];exact au
       ·have F:=ZEJ (nf F j) (lF j);refine QL 13 mixed WP WP ?_;simp [go_sem,F];exact au
      ·intro x9 hM;(try dsimp only at hM);exact au
     ·intro x7 hM;(try dsimp only at hM);obtain ⟨c6,S,hM⟩:=bind_some hM;obtain ⟨l,J⟩:=ZsH S;replace l:=l.symm;subst l;(try simp at J);have F:=ZEJ F J;obtain ⟨c7,T,hM⟩:=bind_some hM;obtain ⟨m,M⟩:=Vm T;replace m:=m.symm;subst m;(try simp [F] at M);have F:=ZEJ F M;refine S1 ?_;obtain ⟨c8,U,hM⟩:=bind_some hM;obtain ⟨o,O⟩:=Vm U;replace o:=o.symm;subst o;(try simp [F] at O);have F:=ZEJ F O;refine S1 ?_;obtain ⟨c9,W,hM⟩:=bind_some hM;obtain ⟨p,P⟩:=ZsH W;replace p:=p.symm;subst p;(try simp at P);have F:=ZEJ F P;obtain ⟨e0,X,hM⟩:=bind_some hM;obtain ⟨s,Q⟩:=Vm X;replace s:=s.symm;subst s
      (try simp [F] at Q);have F:=ZEJ F Q;refine Zx ?_;simp [go_sem,F];obtain rfl:=si hM;exact fr Z [(2368,448)] [0,3,4] [] [2368] (((([]:List Int)++((w.take x7.toNat).drop (0:Int).toNat))++[x5])++((w.take (w.length:Int).toNat).drop x7.toNat)) rfl
   ·intro x4 hM;(try dsimp only at hM);exact au
  ·have F:=ZEJ (nf F E) (lF E);exact au
 ·intro x1 hM;(try dsimp only at hM);exact au
instance:HC 161 (Ty @ZiF):=⟨ZiF⟩
theorem KC:kT Tryz.prog 69 true WB:=wK func69 ntmps69 results69 WB.eq_1 (hj [] [] [] (λ(i:List Bool)=>[(3,oO 704 i.length)]) (hl [0] [] [] 2 Qv.eq_1 Qv.eq_2 (λ(i:(List Bool)×Int)=>[(3,oO 704 i.1.length),(4,oI i.2)]) (.i (hj [0,3,4] [] [704] (λ(i:List Int)=>[(5,oO 1152 i.length)]) (hl [0,3,4] [] [704] 2 Qu.eq_1 Qu.eq_2 (λ(i:(List Int)×Int)=>[(5,oO 1152 i.1.length),(6,oI i.2)]) (.i (hj [0,3,4,6] [] [704] (λ(i:List Int)=>[(5,oO 1152 i.length)]) (hl [0,3,4,6,7] [] [704] 2 Wi.eq_1 Wi.eq_2 (λ(i:(List Int)×Int)=>[(5,oO 1152 i.1.length),(8,oI i.2)]) (.i (hj [0,3,4,6,7,8] [] [704] (λ(i:List Int)=>[(5,oO 1152 i.length)]) (ca:=λi=>[(1152,aT iC i)])) .e) (ca:=λi=>[(1152,aT iC i.1)])) (ca:=λi=>[(1152,aT iC i)])) .e) (ca:=λi=>[(1152,aT iC i.1)])) (ca:=λi=>[(1152,aT iC i)])) .e) (ca:=λi=>[(704,aT bC i.1)])) (ca:=λi=>[(704,aT bC i)]))
instance:HC 69 (Ty @KC):=⟨KC⟩
end Go.Proofs.YtmcfegjoccgpoaaGreatDoor
