import Derived.Test.YtbkllghhcphkaaaGreatDoorJ16
set_option linter.unusedSimpArgs false
set_option linter.unusedVariables false
namespace Go.Proofs.YtbkllghhcphkaaaGreatDoor
open Go.RowKit Am
set_option maxHeartbeats 4000000
set_option maxRecDepth 100000
theorem ZbJ (k:Nat) (a0:List Int) (r:List Int) (hM:Zay k a0=some r):Ctr Tryz.prog 36 [.one (.sl (a0.map iC))] true [.one (.sl (r.map iC))]:=by
 unfold Zay at hM;refine Zn Tryz.func36 Tryz.ntmps36 Tryz.results36 fun N w0 hbad F=> ?_;refine S1 ?_;refine Zv fun K h=> ?_;simp [go_sem,F];refine ZoT ?_;simp [go_sem,F];refine h _ ?_;refine S1 ?_;refine mj (ι:=List Int) [] [] [] (fun i=>[(4,oO 512 i.length)]) hM ?_ ?_ (ca:=fun i=>[(512,aT iC i)])
 ·intro e1 hM K3 hK3;refine S1 ?_;refine Zc ?_;refine lp (ι:=(List (Int×Bool))×(List Int)×Int) [3,9,10] [] [] (fun i=>[(4,oO 512 i.2.1.length),(11,oI i.2.2)]) (fun n i=>WI a0 n i.1 i.2.1 i.2.2=some e1) k (([]:List (Int×Bool)),([]:List Int),0) hM (by simp [WI]) ?_ (cb:=fun i=>[(7,[.mc (.ib i.1)])]) (ca:=fun i=>[(512,aT iC i.2.1)]);intro KL4 nL4 ⟨x2,x3,x4⟩ hL4 hM _;have hM:WI a0 (nL4+1) x2 x3 x4=some e1:=hM;rw [WI] at hM;refine S1 ?_;refine Ze fun K5 hK5=> ?_;refine Zj hM (fun h6 hM=> ?_) (fun h6 hM=> ?_)
  ·have F:=Zyn (nf F h6) (lT h6);refine Zh ?_;refine hK5 _ ?_;refine mj (ι:=(List (Int×Bool))×(List Int)) [3,9,10,11] [] [] (fun i=>[(4,oO 512 i.2.length)]) hM ?_ ?_ (cb:=fun i=>[(7,[.mc (.ib i.1)])]) (ca:=fun i=>[(512,aT iC i.2)])
   ·intro e7 hM K9 hK9;exact au
   ·rintro ⟨x5,x6⟩ hM;dsimp only at hM;exact au
  ·have F:=Zyn (nf F h6) (lF h6);exact au
 ·intro x1 hM;(try dsimp only at hM);exact au
instance:HC 36 (Ty @ZbJ):=⟨ZbJ⟩
theorem Zk6 {cf cn:Nat} {lx:L} (k:Nat) (step:Int->Option (List Int)) (hs:∀(a:Int) (r:List Int),step a=some r->GC Tryz.prog cf cn [.one (.l (.int .i64 a)),.one (.box cn 0)] [(cn,[.l lx])] [] (.one (.own 30000 r.length)) [(cn,[.l lx])] [(30000,some ⟨false,r.map iC⟩)])
  (a0:Int) (r:List Int) (hM:ZeM k step a0=some r):GC Tryz.prog 160 35 [.one (.l (.int .i64 a0)),.one (.clo cf [35])] [(35,[.l lx])] [] (.one (.own 30000 r.length)) [(35,[.l lx])] [(30000,some ⟨true,r.map iC⟩)]:=by
 unfold ZeM at hM;refine GC.Jx (by kernel_rfl) Tryz.func160 rfl Tryz.ntmps160 Tryz.results160 (by simp) fun N w0 hbad=> ?_;have F:=True.intro;simp only [Zct];refine S1 ?_;refine S1 ?_;obtain ⟨x1,e1,hM⟩:=bind_some hM;refine Zv fun K h=> ?_;simp [go_sem,F];refine Zmn ?_;simp [go_sem,F];refine Zmm [] (ren []) (ren [(cn,35)]) (ren [(30000,704)]) (hs a0 x1 e1) ?_;simp [go_sem,F];refine h _ ?_;refine Zdc (ZpG (t:=6) (τ:=704) (n:=x1.length) (W:=1) (by simp [go_sem])) ?_;refine mj (ι:=List Int) [] [35] [] (fun i=>[(5,oO 512 i.length)]) hM ?_ ?_ (ca:=fun i=>[(512,aT iC i)])
 ·intro e2 hM K3 hK3
  have hx1:x1.length<=17592186044416:=by
   by_cases h:x1.length<=17592186044416
   ·exact h
   ·rw [if_neg h] at hM;cases hM
  rw [if_pos hx1] at hM;refine Zc ?_;refine lp (ι:=(List Int×List Int)×(List Int×Nat)) [1] [35] [] (fun i=>[(5,oO 512 i.1.1.length),(6,.one (.vw 704 (i.2.1.length+i.1.2.length) i.2.1.length (i.2.1.length+i.1.2.length) 1))]) (fun n i=>WY k step n i.1.1 i.1.2 i.2.2=some e2/\i.2.1.length+i.1.2.length<=i.2.2/\i.2.2<=17592186044416) k (([],x1),([],x1.length)) ⟨hM,by simp,hx1⟩ (by simp [WY]) ?_ (ca:=fun i=>[(512,aT iC i.1.1),(704,aF iC (i.2.1++i.1.2))]);intro KL nL ⟨⟨out,todo⟩,pre,t⟩ hL ⟨hM,ht,ht2⟩ _;have hM:WY k step (nL+1) out todo t=some e2:=hM;have ht:pre.length+todo.length<=t:=ht;have ht2:t<=17592186044416:=ht2;rw [WY] at hM;refine Ze fun K5 hK5=> ?_;refine S1 ?_;refine Zj hM (fun h6 hM=> ?_) (fun h6 hM=> ?_)
  ·have F:=Zyn (nf F h6) (lT h6);refine Zh ?_;refine hK5 _ ?_;refine Zc ?_;obtain ⟨x,e7,hM⟩:=bind_some hM
   obtain ⟨rest,rfl⟩:∃rest,todo=x::rest:=by
    cases todo with
    | nil=>simp [at?] at e7
    | cons y l=>simp [at?] at e7;subst e7;exact ⟨l,rfl⟩
   have hx:(List.map iC pre++iC x::List.map iC rest)[pre.length]? =some (iC x):=by rw [List.getElem?_append_right (by simp)];simp
   have hp:(1:Int)<=(rest.length:Int)+1:=by omega
   have F:=Zyn F (Zyn hx hp);refine S1 ?_;refine S1 ?_;have ht:pre.length+(rest.length+1)<=t:=ht;obtain ⟨pre1,hpre⟩:∃pre1,pre1=pre++[x]:=⟨_,rfl⟩;have hpl:pre1.length=pre.length+1:=by rw [hpre];simp
   refine le1 [1,5,7] [35] [512] ?_ (ch:=[(6,.one (.vw 704 (pre1.length+rest.length) pre1.length (pre1.length+rest.length) 1))]) (ca:=[(704,aF iC (pre1++rest))]) (k:=by
    constructor<;>simp [go_sem,F,hpre]<;>omega)
   obtain ⟨b,e8,hM⟩:=bind_some hM;refine Zv fun K h=> ?_;simp [go_sem,F];refine Yl false (ZbM k out x b e8) ?_;simp [go_sem,F];refine h _ ?_;refine Zj hM (fun h9 hM=> ?_) (fun h9 hM=> ?_)
   ·have F:=nf F h9;obtain ⟨o,e10,hM⟩:=bind_some hM;obtain ⟨c20,s21⟩:=ZG e10;replace c20:=c20.symm;subst c20;(try simp at s21);have F:=Zyn F s21;obtain ⟨ys,e11,hM⟩:=bind_some hM
    have hys:t+ys.length<=17592186044416:=by
     by_cases h:t+ys.length<=17592186044416
     ·exact h
     ·rw [if_neg h] at hM;cases hM
    rw [if_pos hys] at hM;refine S1 ?_;refine ZsF 4 ?_;simp [go_sem,F];refine Zmn ?_;simp [go_sem,F];refine Zmm [] (ren []) (ren [(cn,35)]) (ren [(30000,1984)]) (hs x ys e11) ?_;simp [go_sem,F];refine ⟨by omega,by omega, ?_, ?_⟩
    ·exact fr hL [(2048,704)] [1,5,6] [35] [512,2048] ((out++[x],rest++ys),(pre1,t+ys.length)) ⟨hM,by simp;omega,hys⟩
    ·exact fr hL [(2048,704)] [1,5,6] [35] [512,2048] ((out++[x],rest++ys),([],t+ys.length)) ⟨hM,by simp;omega,hys⟩
   ·have F:=nf F h9;refine Zh ?_;exact fs (i:=((out,rest),(pre1,t))) hL ⟨hM,by show pre1.length+rest.length<=t;omega,ht2⟩
  ·have F:=Zyn (nf F h6) (lF h6);refine Zlq ?_;obtain rfl:=si hM;exact fs hK3 rfl
 ·intro x2 hM;(try dsimp only at hM);obtain ⟨x3,e3,hM⟩:=bind_some hM;refine Zv fun K h=> ?_;simp [go_sem,F];refine Yl false (ZbJ k x2 x3 e3) ?_;simp [go_sem,F];refine h _ ?_;obtain rfl:=si hM;refine rr [] [(2176,30000)] [4] [35] [2176] ?_;exact au
theorem ZeO (a0:ByteArray) (a1:List ByteArray) (a20:List ByteArray) (r:List ByteArray) (hM:UQ a0 a1 a20=some r):GC Tryz.prog 157 9 [.one (.l (.str a0)),.one (.l (.sl (a1.map sC))),.one (.box 9 0)] [(9,[.own 31000 a20.length])] [(31000,some ⟨false,a20.map sC⟩)] (.tup []) [(9,[.own 30000 r.length])] [(30000,some ⟨false,r.map sC⟩)]:=by
 unfold UQ at hM;refine GC.Jx (by kernel_rfl) Tryz.func157 rfl Tryz.ntmps157 Tryz.results157 (by simp) fun N w0 hbad=> ?_;have F:=True.intro;simp only [Zct];refine Zpc fun K0 hK0=> ?_;obtain ⟨x1,e1,hM⟩:=bind_some hM;obtain ⟨c2,s3⟩:=ZG e1;replace c2:=c2.symm;subst c2;(try simp at s3);have F:=Zyn F s3;refine JM ?_;simp [go_sem,F];obtain rfl:=si hM;exact rn hK0 [] [(31000,30000)] [] [9] [] (ca:=[(31000,aF sC (a20++[a0]))])
theorem Zea:∀(k:Nat),(∀(a1:Zb) (a2:List ByteArray) (a20:List ByteArray) (r:List ByteArray) (hM:Z4 k a1 a2 a20=some r),GC Tryz.prog 158 82 [.one (.box 82 0),.agg [.l (.int .i64 a1.kind),.l (.int .i64 a1.n),.l (.str a1.text),.l (.sl (a1.args.map Zb.c))],.one (.l (.sl (a2.map sC)))] [(82,[.clo 157 [83],.nf]),(83,[.own 31000 a20.length])] [(31000,some ⟨false,a20.map sC⟩)] (.tup []) [(82,[.clo 157 [83],.nf]),(83,[.own 30000 r.length])] [(30000,some ⟨false,r.map sC⟩)]):=by
 intro k
 induction k with
 | zero=>intro a1 a2 a20 r hM;simp [Z4] at hM
 | succ k ih_i_walker_visit=>
  ·intro a1 a2 a20 r hM;rw [Z4] at hM;refine GC.Jx (by kernel_rfl) Tryz.func158 rfl Tryz.ntmps158 Tryz.results158 (by simp) fun N w0 hbad=> ?_;have F:=True.intro;simp only [Zct];refine Zpc fun K0 hK0=> ?_;refine S1 ?_;refine mjE (ι:=Unit) [0,2,4] [4,82,83] [31000] (fun i=>[]) hM ?_ ?_
   ·intro e1 hM hR1 K3 hK3;refine mj (ι:=Bool) [0,2,4] [4,82,83] [31000] (fun i=>[(19,oB i)]) hM ?_ ?_
    ·intro e4 hM K6 hK6;exact au
    ·intro x1 hM;(try dsimp only at hM);refine Zj hM (fun h9 hM=> ?_) (fun h9 hM=> ?_)
     ·have F:=nf F h9;refine Zv fun K h=> ?_;simp [go_sem,F];refine Zum ?_;simp [go_sem,F];refine h _ ?_;refine Zlr (b:=true) (by simp [go_sem,F]) (fun h10=> ?_) (fun h10=> ?_)
      ·skip;refine Ze fun K11 hK11=> ?_;obtain ⟨x3,e12,hM⟩:=bind_some hM;refine Zt 7 mixed (by kernel_rfl) (by kernel_rfl) ?_;simp [go_sem,F];refine Zmn ?_;simp [go_sem,F];refine Zmm [] (ren [(31000,31000)]) (ren [(9,83)]) (ren [(30000,2048)]) (ZeO a1.text a2 a20 x3 e12) ?_;simp [go_sem,F];refine hK11 _ ?_;obtain rfl:=si hM;have hM:=hR1
       clear hR1;dsimp only at hM;obtain rfl:=si hM;refine rr [] [(2048,30000)] [] [82,83] [2048] ?_;exact au
      ·cases h10
     ·have F:=nf F h9;exact au
   ·intro _ hM;dsimp only at hM;refine mj (ι:=Bool) [0,2,4] [4,82,83] [31000] (fun i=>[(6,oB i)]) hM ?_ ?_
    ·intro e13 hM K15 hK15;exact au
    ·intro x4 hM;(try dsimp only at hM);refine mj (ι:=Unit) [0,2,4,6] [4,82,83] [31000] (fun i=>[]) hM ?_ ?_
     ·intro e17 hM K19 hK19;refine mj (ι:=Unit) [0,2,4,6] [4,82,83] [31000] (fun i=>[(48,oB false)]) hM ?_ ?_
      ·intro e20 hM K22 hK22;exact au
      ·intro _ hM;(try dsimp only at hM);exact au
     ·intro _ hM;(try dsimp only at hM);refine S1 ?_;refine Zc ?_;refine lp (ι:=(List ByteArray)×Int) [0,2,4,6,57,58] [4,82] [] (fun i=>[(59,oI i.2)]) (fun n i=>Yg (Z4 k) a1 a2 x4 n i.1 i.2=some r) k (a20,0) hM (by simp [Yg]) ?_ (cb:=fun i=>[(83,[.own 31000 i.1.length])]) (ca:=fun i=>[(31000,aF sC i.1)]);intro KL25 nL25 ⟨x5,x6⟩ hL25 hM _;have hM:Yg (Z4 k) a1 a2 x4 (nL25+1) x5 x6=some r:=hM;rw [Yg] at hM;refine S1 ?_;refine Ze fun K26 hK26=> ?_;refine Zj hM (fun h27 hM=> ?_) (fun h27 hM=> ?_)
      ·have F:=Zyn (nf F h27) (lT h27);refine Zh ?_;refine hK26 _ ?_;refine Ze fun K28 hK28=> ?_;refine Zc ?_;obtain ⟨x7,e29,hM⟩:=bind_some hM;have F:=Zyn F (Xy e29);refine S1 ?_;refine S1 ?_;refine mj (ι:=List ByteArray) [0,2,4,6,8,57,58,59] [4,8,82,83] [31000] (fun i=>[(9,oL sC i)]) hM ?_ ?_
       ·intro e30 hM K32 hK32;refine mj (ι:=Bool) [0,2,4,6,8,9,57,58,59] [4,8,82,83] [31000] (fun i=>[(69,oB i)]) hM ?_ ?_
        ·intro e33 hM K35 hK35;exact au
        ·intro x9 hM;(try dsimp only at hM);refine Zj hM (fun h37 hM=> ?_) (fun h37 hM=> ?_)
         ·have F:=nf F h37;refine le1 [0,2,4,6,8,57,58,59] [4,8,82,83] [31000] ?_;obtain ⟨x10,e38,hM⟩:=bind_some hM;obtain ⟨c39,s40⟩:=ZG e38;replace c39:=c39.symm;subst c39;(try simp at s40);have F:=Zyn F s40;obtain ⟨x11,e42,hM⟩:=bind_some hM;obtain ⟨c43,s44⟩:=ZG e42;replace c43:=c43.symm;subst c43;(try simp at s44);have F:=Zyn F s44;refine ZE [[],[],[0,1],[10004480],[3],[3,4],[0,1,2,3,4,5],[0,1,2,3,4,5,6]] mixed (by kernel_rfl) ?_;simp [go_sem,F];refine ⟨Zp (by kernel_rfl), ?_⟩;exact au
         ·have F:=nf F h37;exact au
       ·intro x8 hM;(try dsimp only at hM);obtain ⟨x12,e46,hM⟩:=bind_some hM;refine JM ?_;simp [go_sem,F];refine Zqc [] (ren [(31000,31000)]) (ren [(82,82),(83,83)]) (ren [(30000,5120)]) (ih_i_walker_visit x7 x8 x5 x12 e46) ?_;simp [go_sem,F];refine hK28 _ ?_;refine JM ?_;simp [go_sem,F];exact fr hL25 [(5120,31000)] [0,2,4,6,57,58,59] [4,82,83] [5120] (x12,(IntKind.i64.wrap (x6+1))) hM
      ·have F:=Zyn (nf F h27) (lF h27);refine Zlq ?_;obtain rfl:=si hM;exact rn hK0 [] [(31000,30000)] [] [82,83] [31000]
theorem Zd9 (k:Nat):∀(a1:Zb) (a2:List ByteArray) (a20:List ByteArray) (r:List ByteArray) (hM:Z4 k a1 a2 a20=some r),GC Tryz.prog 158 82 [.one (.box 82 0),.agg [.l (.int .i64 a1.kind),.l (.int .i64 a1.n),.l (.str a1.text),.l (.sl (a1.args.map Zb.c))],.one (.l (.sl (a2.map sC)))] [(82,[.clo 157 [83],.nf]),(83,[.own 31000 a20.length])] [(31000,some ⟨false,a20.map sC⟩)] (.tup []) [(82,[.clo 157 [83],.nf]),(83,[.own 30000 r.length])] [(30000,some ⟨false,r.map sC⟩)]:=(Zea k)
theorem ZbN (k:Nat) (a0:List ByteArray) (r:List ByteArray) (hM:V4 k a0=some r):Ctr Tryz.prog 159 [.one (.sl (a0.map sC))] true [.one (.sl (r.map sC))]:=by
 unfold V4 at hM;refine Zn Tryz.func159 Tryz.ntmps159 Tryz.results159 fun N w0 hbad F=> ?_;refine S1 ?_;refine S1 ?_;refine mj (ι:=List ByteArray) [] [] [] (fun i=>[(3,oO 384 i.length)]) hM ?_ ?_ (ca:=fun i=>[(384,aT sC i)])
 ·intro e1 hM K3 hK3;refine S1 ?_;refine Zc ?_;refine lp (ι:=(List ByteArray)×Int) [0,7,8] [] [] (fun i=>[(3,oO 384 i.1.length),(9,oI i.2)]) (fun n i=>QM k a0 n i.1 i.2=some e1) k (([]:List ByteArray),0) hM (by simp [QM]) ?_ (ca:=fun i=>[(384,aT sC i.1)]);intro KL4 nL4 ⟨x2,x3⟩ hL4 hM _;have hM:QM k a0 (nL4+1) x2 x3=some e1:=hM;rw [QM] at hM;refine S1 ?_;refine Ze fun K5 hK5=> ?_;refine Zj hM (fun h6 hM=> ?_) (fun h6 hM=> ?_)
  ·have F:=Zyn (nf F h6) (lT h6);refine Zh ?_;refine hK5 _ ?_;refine mj (ι:=List ByteArray) [0,7,8,9] [] [] (fun i=>[(3,oO 384 i.length)]) hM ?_ ?_ (ca:=fun i=>[(384,aT sC i)])
   ·intro e7 hM K9 hK9;exact au
   ·intro x4 hM;(try dsimp only at hM);exact au
  ·have F:=Zyn (nf F h6) (lF h6);exact au
 ·intro x1 hM;(try dsimp only at hM);exact au
instance:HC 159 (Ty @ZbN):=⟨ZbN⟩
theorem ZbQ (k:Nat) (a0:Zb) (r:List ByteArray) (hM:ZaE k a0=some r):Ctr Tryz.prog 106 [.agg (Zb.c a0)] true [.one (.sl (r.map sC))]:=by
 unfold ZaE at hM;refine Zn Tryz.func106 Tryz.ntmps106 Tryz.results106 fun N w0 hbad F=> ?_;refine S1 ?_;refine S1 ?_;refine Zv fun K h=> ?_;simp [go_sem,F];refine Zsx ?_;simp [go_sem,F];refine h _ ?_;obtain ⟨x1,e1,hM⟩:=bind_some hM;refine Zv fun K h=> ?_;simp [go_sem,F];refine Zqc [] (ren [(31000,320)]) (ren [(82,8),(83,3)]) (ren [(30000,704)]) (Zd9 k a0 [] ([]:List ByteArray) x1 e1) ?_;simp [go_sem,F];exact au
instance:HC 106 (Ty @ZbQ):=⟨ZbQ⟩
theorem J2 (k:Nat) (a0:Zq) (r:List ByteArray) (hM:J3 k a0=some r):Ctr Tryz.prog 57 [.agg (Zq.c a0)] true [.one (.sl (r.map sC))]:=by
 unfold J3 at hM;refine Zn Tryz.func57 Tryz.ntmps57 Tryz.results57 fun N w0 hbad F=> ?_;exact au
instance:HC 57 (Ty @J2):=⟨J2⟩
theorem Zeh (k:Nat) (a0:List Zq) (a1:ByteArray) (r:Int) (hM:Ux k a0 a1=some r):Ctr Tryz.prog 85 [.one (.sl (a0.map Zq.c)),.one (.str a1)] true [.one (.int .i64 r)]:=by
 unfold Ux at hM;refine Zn Tryz.func85 Tryz.ntmps85 Tryz.results85 fun N w0 hbad F=> ?_;exact au
instance:HC 85 (Ty @Zeh):=⟨Zeh⟩
theorem ZaT (k:Nat) (a0:List Zq) (a1:Int) (r:List Int) (hM:XU k a0 a1=some r):Ctr Tryz.prog 35 [.one (.sl (a0.map Zq.c)),.one (.int .i64 a1)] true [.one (.sl (r.map iC))]:=by
 unfold XU at hM;refine Zn Tryz.func35 Tryz.ntmps35 Tryz.results35 fun N w0 hbad F=> ?_;refine S1 ?_;refine Ze fun K1 hK1=> ?_;refine mj (ι:=Bool) [0,1] [] [] (fun i=>[(16,oB i)]) hM ?_ ?_
 ·intro e2 hM K4 hK4;exact au
 ·intro x1 hM;(try dsimp only at hM);refine Zj hM (fun h6 hM=> ?_) (fun h6 hM=> ?_)
  ·have F:=nf F h6;exact au
  ·have F:=nf F h6;refine Zh ?_;refine hK1 _ ?_;refine S1 ?_;refine mj (ι:=List Int) [] [] [] (fun i=>[(5,oO 1088 i.length)]) hM ?_ ?_ (ca:=fun i=>[(1088,aT iC i)])
   ·intro e7 hM K9 hK9;obtain ⟨x3,e10,hM⟩:=bind_some hM;have F:=Zyn F (Xy e10);obtain ⟨x4,e11,hM⟩:=bind_some hM;refine Zv fun K h=> ?_;simp [go_sem,F];refine Yl false (J2 k x3 x4 e11) ?_;simp [go_sem,F];refine h _ ?_;refine Zc ?_;refine lp (ι:=(List Int)×Int) [0,22,23] [] [1408] (fun i=>[(5,oO 1088 i.1.length),(24,oI i.2)]) (fun n i=>Qn k a0 x4 n i.1 i.2=some e7) k (([]:List Int),0) hM (by simp [Qn]) ?_ (ca:=fun i=>[(1088,aT iC i.1)]);intro KL12 nL12 ⟨x5,x6⟩ hL12 hM _;have hM:Qn k a0 x4 (nL12+1) x5 x6=some e7:=hM;rw [Qn] at hM;refine S1 ?_;refine Ze fun K13 hK13=> ?_;refine Zj hM (fun h14 hM=> ?_) (fun h14 hM=> ?_)
    ·have F:=Zyn (nf F h14) (lT h14);refine Zh ?_;refine hK13 _ ?_;refine mj (ι:=List Int) [0,22,23,24] [] [1408] (fun i=>[(5,oO 1088 i.length)]) hM ?_ ?_ (ca:=fun i=>[(1088,aT iC i)])
     ·intro e15 hM K17 hK17;exact au
     ·intro x7 hM;(try dsimp only at hM);exact au
    ·have F:=Zyn (nf F h14) (lF h14);exact au
   ·intro x2 hM;(try dsimp only at hM);exact au
instance:HC 35 (Ty @ZaT):=⟨ZaT⟩
set_option maxHeartbeats 4000000
set_option maxRecDepth 100000
theorem Zft (k:Nat) (a0:Zd) (a1:YA) (r:Zd×Int) (hM:ZfV k a0 a1=some r):Ctr Tryz.prog 105 [.agg (Zd.c a0),.agg (YA.c a1)] false [.agg (Zd.c r.1),.one (.int .i64 r.2)]:=by
 unfold ZfV at hM;refine Zn Tryz.func105 Tryz.ntmps105 Tryz.results105 fun N w0 hbad F=> ?_;refine S1 ?_;obtain ⟨x1,e1,hM⟩:=bind_some hM;refine Zv fun K h=> ?_;simp [go_sem,F];refine Yl false (XD k a0 a1.cell.id x1 e1) ?_;simp [go_sem,F];refine h _ ?_;refine Ze fun K2 hK2=> ?_;refine S1 ?_;refine Zj hM (fun h3 hM=> ?_) (fun h3 hM=> ?_)
 ·have F:=nf F h3;refine Ze fun K4 hK4=> ?_;refine Zc ?_;obtain ⟨x2,e5,hM⟩:=bind_some hM;refine Zv fun K h=> ?_;simp [go_sem,F];refine Yl false (XC k a1.cell x2 e5) ?_;simp [go_sem,F];refine h _ ?_;refine Zj hM (fun h6 hM=> ?_) (fun h6 hM=> ?_)
  ·have F:=nf F h6;exact au
  ·have F:=nf F h6;refine S1 ?_;refine Zj hM (fun h7 hM=> ?_) (fun h7 hM=> ?_)
   ·have F:=Zyn (nf F h7) (eT h7);exact au
   ·have F:=Zyn (nf F h7) (eF h7);refine S1 ?_;refine Zj hM (fun h8 hM=> ?_) (fun h8 hM=> ?_)
    ·have F:=Zyn (nf F h8) (eT h8);exact au
    ·have F:=Zyn (nf F h8) (eF h8);refine Zh ?_;refine hK4 _ ?_;obtain ⟨x3,e9,hM⟩:=bind_some hM;refine Zv fun K h=> ?_;simp [go_sem,F];refine Yl false (Uh a0.cells a1.at_ a1.cell x3 e9) ?_;simp [go_sem,F];refine h _ ?_;obtain rfl:=si hM;refine le1 [4,5] [] [] ?_ (cb:=[(4,[cL Zk.c x3])]);exact au
 ·have F:=nf F h3;refine Zh ?_;refine hK2 _ ?_;refine Ze fun K10 hK10=> ?_;refine S1 ?_;refine Zj hM (fun h11 hM=> ?_) (fun h11 hM=> ?_)
  ·have F:=Zyn (nf F h11) (lT h11);exact au
  ·have F:=Zyn (nf F h11) (lF h11);refine Zh ?_;refine hK10 _ ?_;obtain ⟨x4,e12,hM⟩:=bind_some hM;have F:=Zyn F (Xy e12);refine S1 ?_;refine mjE (ι:=Int×ByteArray×ByteArray×Int) [2,4,6,7] [2,4] [] (fun i=>[]) hM ?_ ?_ (cb:=fun i=>[(7,[cI x4.id,cI i.1,cI x4.kind,cS i.2.1,cS i.2.2.1,cI i.2.2.2])])
   ·intro e13 hM hR1 K15 hK15;refine S1 ?_;refine Zc ?_;refine S1 ?_;refine Zj hM (fun h16 hM=> ?_) (fun h16 hM=> ?_)
    ·have F:=nf F h16;obtain ⟨x9,e17,hM⟩:=bind_some hM;refine Zv fun K h=> ?_;simp [go_sem,F];refine Yl false (UP a0.cells x1 x9 e17) ?_;simp [go_sem,F];refine h _ ?_;obtain rfl:=si hM;have hM:=hR1;clear hR1;dsimp only at hM;obtain rfl:=si hM;refine le1 [4,5] [] [] ?_ (cb:=[(4,[cL Zk.c x9])]);exact au
    ·have F:=nf F h16;refine S1 ?_;refine Zj hM (fun h18 hM=> ?_) (fun h18 hM=> ?_)
     ·have F:=nf F h18;refine Ze fun K19 hK19=> ?_;refine le1 [2,3,4,6,7] [2,3,4,7] [] ?_;obtain ⟨x10,e20,hM⟩:=bind_some hM;obtain ⟨x11,e21,hM⟩:=bind_some hM;refine ZE [[],[0],[],[0,1,2],[],[4],[],[0,1,2,3,4,5,6],[0,1,2,3,4,5,6,7],[0,1,2,3,4,5,6,7,8],[0,1,2,3,4,5,6,7,8,9]] mixed (by kernel_rfl) ?_;simp [go_sem,F];refine Yl false (UP a0.cells x1 x10 e20) ?_;simp [go_sem,F];refine Yl false (Uh x10 a1.at_ x4 x11 e21) ?_;simp [go_sem,F];refine ⟨Zp (by kernel_rfl), ?_⟩;refine hK19 _ ?_;obtain rfl:=si hM;have hM:=hR1;clear hR1;dsimp only at hM;obtain rfl:=si hM;refine le1 [4,5] [] [] ?_ (cb:=[(4,[cL Zk.c x11])]);exact au
     ·have F:=nf F h18;refine S1 ?_;refine Zj hM (fun h22 hM=> ?_) (fun h22 hM=> ?_)
      ·have F:=nf F h22;exact au
      ·have F:=nf F h22;refine Ze fun K25 hK25=> ?_;refine mj (ι:=Bool) [2,3,4,6,7] [2,3,4,7] [] (fun i=>[(68,oB i)]) hM ?_ ?_
       ·intro e26 hM K28 hK28;exact au
       ·intro x12 hM;(try dsimp only at hM);exact au
   ·rintro ⟨x5,x6,x7,x8⟩ hM;dsimp only at hM;refine Ze fun K36 hK36=> ?_;obtain ⟨x13,e37,hM⟩:=bind_some hM;refine Zv fun K h=> ?_;simp [go_sem,F];refine Yl false (XC k (Zk.mk x4.id x5 x4.kind x6 x7 x8) x13 e37) ?_;simp [go_sem,F];refine h _ ?_;refine Zj hM (fun h38 hM=> ?_) (fun h38 hM=> ?_)
    ·have F:=nf F h38;exact au
    ·have F:=nf F h38;refine Zh ?_;refine hK36 _ ?_;obtain ⟨x14,e39,hM⟩:=bind_some hM;refine Zv fun K h=> ?_;simp [go_sem,F];refine Yl false (Vz a0 x14 e39) ?_;simp [go_sem,F];refine h _ ?_;obtain ⟨x15,e40,hM⟩:=bind_some hM;have F:=Zyn F (Xy e40);have F:=Zyn F (Zlk e40);refine S1 ?_;refine S1 ?_;obtain rfl:=si hM;refine le1 [4,5] [] [] ?_ (cb:=[(4,[cL Zk.c (x14.cells.set x1.toNat (Zk.mk x4.id x5 x4.kind x6 x7 x8))])]);exact au
instance:HC 105 (Ty @Zft):=⟨Zft⟩
theorem JH (k:Nat) (a0:Zd) (a1:YA) (r:Zd×Int) (hM:V6 k a0 a1=some r):Ctr Tryz.prog 53 [.agg (Zd.c a0),.agg (YA.c a1)] true [.agg (Zd.c r.1),.one (.int .i64 r.2)]:=by
 unfold V6 at hM;refine Zn Tryz.func53 Tryz.ntmps53 Tryz.results53 fun N w0 hbad F=> ?_;refine S1 ?_;refine Ze fun K1 hK1=> ?_;refine mj (ι:=Bool) [2,3,4] [2,3,4] [] (fun i=>[(16,oB i)]) hM ?_ ?_
 ·intro e2 hM K4 hK4;exact au
 ·intro x1 hM;(try dsimp only at hM);exact au
instance:HC 53 (Ty @JH):=⟨JH⟩
theorem Xp (k:Nat) (a0:Zd) (a1:Zd) (r:List Int) (hM:QO k a0 a1=some r):Ctr Tryz.prog 54 [.agg (Zd.c a0),.agg (Zd.c a1)] true [.one (.sl (r.map iC))]:=by
 unfold QO at hM;refine Zn Tryz.func54 Tryz.ntmps54 Tryz.results54 fun N w0 hbad F=> ?_;refine S1 ?_;refine S1 ?_;refine mj (ι:=List Int) [] [] [] (fun i=>[(5,oO 576 i.length)]) hM ?_ ?_ (ca:=fun i=>[(576,aT iC i)])
 ·intro e1 hM K3 hK3;refine S1 ?_;refine Zc ?_;refine lp (ι:=(List Int)×Int) [2,11,12] [2] [] (fun i=>[(5,oO 576 i.1.length),(13,oI i.2)]) (fun n i=>YC k a0 a1 n i.1 i.2=some e1) k (([]:List Int),0) hM (by simp [YC]) ?_ (ca:=fun i=>[(576,aT iC i.1)]);intro KL4 nL4 ⟨x2,x3⟩ hL4 hM _;have hM:YC k a0 a1 (nL4+1) x2 x3=some e1:=hM;rw [YC] at hM;refine S1 ?_;refine Ze fun K5 hK5=> ?_;refine Zj hM (fun h6 hM=> ?_) (fun h6 hM=> ?_)
  ·have F:=Zyn (nf F h6) (lT h6);refine Zh ?_;refine hK5 _ ?_;refine mj (ι:=List Int) [2,11,12,13] [2] [] (fun i=>[(5,oO 576 i.length)]) hM ?_ ?_ (ca:=fun i=>[(576,aT iC i)])
   ·intro e7 hM K9 hK9;refine Zc ?_;obtain ⟨x5,e10,hM⟩:=bind_some hM;have F:=Zyn F (Xy e10);refine S1 ?_;obtain ⟨x6,e11,hM⟩:=bind_some hM;refine Zv fun K h=> ?_;simp [go_sem,F];refine Yl false (XD k a0 x5.id x6 e11) ?_;simp [go_sem,F];refine h _ ?_;refine mj (ι:=Bool) [2,5,7,11,12,13] [2,7] [576] (fun i=>[(31,oB i)]) hM ?_ ?_
    ·intro e12 hM K14 hK14;rcases ifM hM with ⟨h15,hM⟩| ⟨h15,hM⟩
     ·have F:=Zyn (nf F h15) (lT h15);refine Zt 9 mixed (by kernel_rfl) (by kernel_rfl) ?_;simp [go_sem,F];exact au
     ·have F:=Zyn (nf F h15) (lF h15);obtain ⟨x8,e16,hM⟩:=bind_some hM;have F:=Zyn F (Xy e16);refine Zt 9 mixed (by kernel_rfl) (by kernel_rfl) ?_;simp [go_sem,F];exact au
    ·intro x7 hM;(try dsimp only at hM);exact au
   ·intro x4 hM;(try dsimp only at hM);exact au
  ·have F:=Zyn (nf F h6) (lF h6);exact au
 ·intro x1 hM;(try dsimp only at hM);exact au
instance:HC 54 (Ty @Xp):=⟨Xp⟩
theorem Zc1 (k:Nat) (a0:List Zq) (a1:Int) (r:List Int) (hM:ZgC k a0 a1=some r):Ctr Tryz.prog 162 [.one (.sl (a0.map Zq.c)),.one (.int .i64 a1)] true [.one (.sl (r.map iC))]:=by
 unfold ZgC at hM;refine Zn Tryz.func162 Tryz.ntmps162 Tryz.results162 fun N w0 hbad F=> ?_;refine S1 ?_;refine S1 ?_;refine mj (ι:=List Int) [] [] [] (fun i=>[(5,oO 448 i.length)]) hM ?_ ?_ (ca:=fun i=>[(448,aT iC i)])
 ·intro e1 hM K3 hK3;refine S1 ?_;refine Zc ?_;refine lp (ι:=(List Int)×Int) [0,1,9] [] [] (fun i=>[(5,oO 448 i.1.length),(10,oI i.2)]) (fun n i=>Wf k a0 a1 n i.1 i.2=some e1) k (([]:List Int),0) hM (by simp [Wf]) ?_ (ca:=fun i=>[(448,aT iC i.1)]);intro KL4 nL4 ⟨x2,x3⟩ hL4 hM _;have hM:Wf k a0 a1 (nL4+1) x2 x3=some e1:=hM;rw [Wf] at hM;refine S1 ?_;refine Ze fun K5 hK5=> ?_;refine Zj hM (fun h6 hM=> ?_) (fun h6 hM=> ?_)
  ·have F:=Zyn (nf F h6) (lT h6);refine Zh ?_;refine hK5 _ ?_;refine mj (ι:=List Int) [0,1,9,10] [] [] (fun i=>[(5,oO 448 i.length)]) hM ?_ ?_ (ca:=fun i=>[(448,aT iC i)])
   ·intro e7 hM K9 hK9;exact au
   ·intro x4 hM;(try dsimp only at hM);exact au
  ·have F:=Zyn (nf F h6) (lF h6);exact au
 ·intro x1 hM;(try dsimp only at hM);exact au
instance:HC 162 (Ty @Zc1):=⟨Zc1⟩
theorem ZfK (k:Nat) (a0:Int) (a20:List Zq) (r:List Int) (hM:Vo k a0 a20=some r):GC Tryz.prog 161 7 [.one (.l (.int .i64 a0)),.one (.box 7 0)] [(7,[.l (.sl (a20.map Zq.c))])] [] (.one (.own 30000 r.length)) [(7,[.l (.sl (a20.map Zq.c))])] [(30000,some ⟨false,r.map iC⟩)]:=by
 unfold Vo at hM;refine GC.Jx (by kernel_rfl) Tryz.func161 rfl Tryz.ntmps161 Tryz.results161 (by simp) fun N w0 hbad=> ?_;have F:=True.intro;simp only [Zct];refine Zpc fun K0 hK0=> ?_;refine S1 ?_;obtain ⟨x1,e1,hM⟩:=bind_some hM;refine Zv fun K h=> ?_;simp [go_sem,F];refine Yl false (Zc1 k a20 a0 x1 e1) ?_;simp [go_sem,F];refine h _ ?_;obtain rfl:=si hM;refine rr [384] [(384,30000)] [3] [7] [384] ?_;exact au
theorem ZcI (k:Nat) (a0:List Zq) (a1:Int) (r:List Int) (hM:KV k a0 a1=some r):Ctr Tryz.prog 107 [.one (.sl (a0.map Zq.c)),.one (.int .i64 a1)] true [.one (.sl (r.map iC))]:=by
 unfold KV at hM;have hM:(ZeM k (fun x=>Vo k x a0) a1).bind (fun x1=>some x1)=some r:=by rw [hM];rfl
 refine Zn Tryz.func107 Tryz.ntmps107 Tryz.results107 fun N w0 hbad F=> ?_;refine S1 ?_;obtain ⟨x1,e1,hM⟩:=bind_some hM;refine Zv fun K h=> ?_;simp [go_sem,F];refine Zsx ?_;simp [go_sem,F];refine Zqc [] (ren []) (ren [(35,2)]) (ren [(30000,448)]) (Zk6 k _ (fun a r h=>ZfK k a a0 r h) a1 x1 e1) ?_;simp [go_sem,F];refine h _ ?_;obtain rfl:=si hM;refine ZmD ?_;simp [go_sem,F]
instance:HC 107 (Ty @ZcI):=⟨ZcI⟩
theorem ZaU (k:Nat) (a0:List Zq) (a1:List Int) (r:List Int) (hM:Vp k a0 a1=some r):Ctr Tryz.prog 58 [.one (.sl (a0.map Zq.c)),.one (.sl (a1.map iC))] true [.one (.sl (r.map iC))]:=by
 unfold Vp at hM;refine Zn Tryz.func58 Tryz.ntmps58 Tryz.results58 fun N w0 hbad F=> ?_;refine S1 ?_;refine S1 ?_;refine mj (ι:=List Int) [] [] [] (fun i=>[(5,oO 512 i.length)]) hM ?_ ?_ (ca:=fun i=>[(512,aT iC i)])
 ·intro e1 hM K3 hK3;refine S1 ?_;refine Zc ?_;refine lp (ι:=(List Int)×Int) [0,9,10] [] [] (fun i=>[(5,oO 512 i.1.length),(11,oI i.2)]) (fun n i=>Qp k a0 a1 n i.1 i.2=some e1) k (([]:List Int),0) hM (by simp [Qp]) ?_ (ca:=fun i=>[(512,aT iC i.1)]);intro KL4 nL4 ⟨x2,x3⟩ hL4 hM _;have hM:Qp k a0 a1 (nL4+1) x2 x3=some e1:=hM;rw [Qp] at hM;refine S1 ?_;refine Ze fun K5 hK5=> ?_;refine Zj hM (fun h6 hM=> ?_) (fun h6 hM=> ?_)
  ·have F:=Zyn (nf F h6) (lT h6);refine Zh ?_;refine hK5 _ ?_;refine mj (ι:=List Int) [0,9,10,11] [] [] (fun i=>[(5,oO 512 i.length)]) hM ?_ ?_ (ca:=fun i=>[(512,aT iC i)])
   ·intro e7 hM K9 hK9;refine Zc ?_;obtain ⟨x5,e10,hM⟩:=bind_some hM;have F:=Zyn F (Xy e10);refine S1 ?_;refine mj (ι:=Bool) [0,5,7,9,10,11] [] [512] (fun i=>[(22,oB i)]) hM ?_ ?_
    ·intro e11 hM K13 hK13;exact au
    ·intro x6 hM;(try dsimp only at hM);exact au
   ·intro x4 hM;(try dsimp only at hM);exact au
  ·have F:=Zyn (nf F h6) (lF h6);exact au
 ·intro x1 hM;(try dsimp only at hM);exact au
instance:HC 58 (Ty @ZaU):=⟨ZaU⟩
theorem JA (k:Nat) (a0:Zz) (a1:YA) (r:Int) (hM:JB k a0 a1=some r):Ctr Tryz.prog 19 [.agg (Zz.c a0),.agg (YA.c a1)] true [.one (.int .i64 r)]:=by
 unfold JB at hM;refine Zn Tryz.func19 Tryz.ntmps19 Tryz.results19 fun N w0 hbad F=> ?_;refine S1 ?_;obtain ⟨x1,e1,hM⟩:=bind_some hM;refine Zv fun K h=> ?_;simp [go_sem,F];refine Yl false (JH k a0.notebook a1 x1 e1) ?_;simp [go_sem,F];refine h _ ?_;obtain ⟨x2,e2,hM⟩:=bind_some hM;refine Zv fun K h=> ?_;simp [go_sem,F];refine Yl false (Vd k a0.notebook x2 e2) ?_;simp [go_sem,F];refine h _ ?_;refine le1 [2,5,7] [2] [] ?_ (cb:=[(5,[cL Zk.c x1.1.cells])]);obtain ⟨x3,e3,hM⟩:=bind_some hM;refine Zv fun K h=> ?_;simp [go_sem,F];refine Yl false (Vd k x1.1 x3 e3) ?_;simp [go_sem,F];refine h _ ?_;refine S1 ?_;refine mj (ι:=List ByteArray) [2,5,8] [2,5] [] (fun i=>[(9,oO 2176 i.length)]) hM ?_ ?_ (ca:=fun i=>[(2176,aT sC i)])
 ·intro e4 hM K6 hK6;refine Ze fun K7 hK7=> ?_;refine le1 [2,5,7,8,9] [2,5] [2176] ?_;obtain ⟨x5,e8,hM⟩:=bind_some hM;obtain ⟨x6,e9,hM⟩:=bind_some hM;obtain ⟨x7,e10,hM⟩:=bind_some hM;obtain ⟨c11,s12⟩:=ZG e10;replace c11:=c11.symm;subst c11;(try simp at s12);have F:=Zyn F s12;refine ZE [[],[0],[],[0,1,2],[],[],[5],[0,1,2,3,4,5,6],[0,1,2,3,4,5,6,7],[0,1,2,3,4,5,6,7,8],[10002432]] mixed (by kernel_rfl) ?_;simp [go_sem,F];refine Yl false (Xp k a0.notebook x1.1 x5 e8) ?_;simp [go_sem,F];refine Yl false (Xp k x1.1 a0.notebook x6 e9) ?_;simp [go_sem,F];refine ⟨Zp (by kernel_rfl), ?_⟩;refine hK7 _ ?_;refine Zc ?_;refine lp (ι:=(List ByteArray)×Int) [2,5,7,8,43,44] [2,5] [] (fun i=>[(9,oO 2176 i.1.length),(45,oI i.2)]) (fun n i=>YP k a0 x1 x2 x3 x5 x6 n i.1 i.2=some e4) k (([]:List ByteArray),0) hM (by simp [YP]) ?_ (ca:=fun i=>[(2176,aT sC i.1),(2432,aT iC (x5++x6))]);intro KL14 nL14 ⟨x8,x9⟩ hL14 hM _;have hM:YP k a0 x1 x2 x3 x5 x6 (nL14+1) x8 x9=some e4:=hM;rw [YP] at hM;refine S1 ?_;refine Ze fun K15 hK15=> ?_;refine Zj hM (fun h16 hM=> ?_) (fun h16 hM=> ?_)
  ·have F:=Zyn (nf F h16) (lT h16);refine Zh ?_;refine hK15 _ ?_;refine mj (ι:=List ByteArray) [2,5,7,8,43,44,45] [2,5] [] (fun i=>[(9,oO 2176 i.length)]) hM ?_ ?_ (ca:=fun i=>[(2176,aT sC i),(2432,aT iC (x5++x6))])
   ·intro e17 hM K19 hK19;refine Zc ?_;obtain ⟨x11,e20,hM⟩:=bind_some hM;have F:=Zyn F (Xy e20);have F:=Zyn F (Zlk e20);have F:=nf F (ZwB e20);have F:=nm F (ZxN iC e20);refine S1 ?_;refine mj (ι:=List ByteArray) [2,5,7,8,11,43,44,45] [2,5] [] (fun i=>[(9,oO 2176 i.length)]) hM ?_ ?_ (ca:=fun i=>[(2176,aT sC i),(2432,aT iC (x5++x6))])
    ·intro e21 hM K23 hK23;obtain ⟨x13,e24,hM⟩:=bind_some hM;refine Zv fun K h=> ?_;simp [go_sem,F];refine Yl false (XD k a0.notebook x11 x13 e24) ?_;simp [go_sem,F];refine h _ ?_;refine mj (ι:=Bool) [2,5,7,8,9,11,12,43,44,45] [2,5] [2176] (fun i=>[(68,oB i)]) hM ?_ ?_ (ca:=fun i=>[(2432,aT iC (x5++x6))])
     ·intro e25 hM K27 hK27;exact au
     ·intro x14 hM;(try dsimp only at hM);exact au
    ·intro x12 hM;(try dsimp only at hM);obtain ⟨x18,e37,hM⟩:=bind_some hM;refine Zv fun K h=> ?_;simp [go_sem,F];refine Yl false (XD k x1.1 x11 x18 e37) ?_;simp [go_sem,F];refine h _ ?_;refine mj (ι:=Bool) [2,5,7,8,9,13,43,44,45] [2,5] [2176] (fun i=>[(95,oB i)]) hM ?_ ?_ (ca:=fun i=>[(2432,aT iC (x5++x6))])
     ·intro e38 hM K40 hK40;exact au
     ·intro x19 hM;(try dsimp only at hM);exact au
   ·intro x10 hM;(try dsimp only at hM);exact au
  ·have F:=Zyn (nf F h16) (lF h16);exact au
 ·intro x4 hM;(try dsimp only at hM);refine S1 ?_;refine mj (ι:=List Int) [8,9] [] [2176] (fun i=>[(14,oO 6720 i.length)]) hM ?_ ?_ (ca:=fun i=>[(6720,aT iC i)])
  ·intro e50 hM K52 hK52;obtain ⟨x24,e53,hM⟩:=bind_some hM;refine Zv fun K h=> ?_;simp [go_sem,F];refine Yl false (Xp k a0.notebook x1.1 x24 e53) ?_;simp [go_sem,F];refine h _ ?_;refine Zc ?_;refine lp (ι:=(List Int)×Int) [5,8,9,109,110] [5] [2176,6976] (fun i=>[(14,oO 6720 i.1.length),(111,oI i.2)]) (fun n i=>Qc k x1 x24 n i.1 i.2=some e50) k (([]:List Int),0) hM (by simp [Qc]) ?_ (ca:=fun i=>[(6720,aT iC i.1)]);intro KL54 nL54 ⟨x25,x26⟩ hL54 hM _;have hM:Qc k x1 x24 (nL54+1) x25 x26=some e50:=hM;rw [Qc] at hM;exact au
  ·intro x23 hM;(try dsimp only at hM);refine mj (ι:=List Int) [8] [] [] (fun i=>[(14,oO 6720 i.length)]) hM ?_ ?_ (ca:=fun i=>[(6720,aT iC i)])
   ·intro e64 hM K66 hK66;refine S1 ?_;refine Zc ?_;refine lp (ι:=(List Int)×Int) [8,9,122,123] [] [2176] (fun i=>[(14,oO 6720 i.1.length),(124,oI i.2)]) (fun n i=>YO k x3 x4 n i.1 i.2=some e64) k (x23,0) hM (by simp [YO]) ?_ (ca:=fun i=>[(6720,aT iC i.1)]);intro KL67 nL67 ⟨x31,x32⟩ hL67 hM _;have hM:YO k x3 x4 (nL67+1) x31 x32=some e64:=hM;rw [YO] at hM;refine S1 ?_;refine Ze fun K68 hK68=> ?_;refine Zj hM (fun h69 hM=> ?_) (fun h69 hM=> ?_)
    ·have F:=Zyn (nf F h69) (lT h69);refine Zh ?_;refine hK68 _ ?_;refine mj (ι:=List Int) [8,9,122,123,124] [] [2176] (fun i=>[(14,oO 6720 i.length)]) hM ?_ ?_ (ca:=fun i=>[(6720,aT iC i)])
     ·intro e70 hM K72 hK72;refine Zc ?_;obtain ⟨x34,e73,hM⟩:=bind_some hM;have F:=Zyn F (Xy e73);refine S1 ?_;refine mj (ι:=Bool) [8,9,14,17,18,122,123,124] [18] [2176,6720] (fun i=>[(19,oB i)]) hM ?_ ?_
      ·intro e74 hM K76 hK76;exact au
      ·intro x35 hM;(try dsimp only at hM);refine mj (ι:=Bool) [8,9,14,17,122,123,124] [] [2176,6720] (fun i=>[(19,oB i)]) hM ?_ ?_
       ·intro e79 hM K81 hK81;obtain ⟨x38,e82,hM⟩:=bind_some hM;refine Zv fun K h=> ?_;simp [go_sem,F];refine Yl false (J2 k x34 x38 e82) ?_;simp [go_sem,F];refine h _ ?_;refine Zc ?_;refine lp (ι:=Bool×Int) [8,9,14,17,122,123,124,140,141] [] [2176,6720,8960] (fun i=>[(19,oB i.1),(142,oI i.2)]) (fun n i=>YN k x4 x38 n i.1 i.2=some e79) k (x35,0) hM (by simp [YN]) ?_;intro KL83 nL83 ⟨x39,x40⟩ hL83 hM _;have hM:YN k x4 x38 (nL83+1) x39 x40=some e79:=hM;rw [YN] at hM;refine S1 ?_;refine Ze fun K84 hK84=> ?_;refine Zj hM (fun h85 hM=> ?_) (fun h85 hM=> ?_)
        ·have F:=Zyn (nf F h85) (lT h85);refine Zh ?_;refine hK84 _ ?_;refine mj (ι:=Bool) [8,9,14,17,122,123,124,140,141,142] [] [2176,6720,8960] (fun i=>[(19,oB i)]) hM ?_ ?_
         ·intro e86 hM K88 hK88;exact au
         ·intro x41 hM;(try dsimp only at hM);exact au
        ·have F:=Zyn (nf F h85) (lF h85);exact au
       ·intro x37 hM;(try dsimp only at hM);exact au
     ·intro x33 hM;(try dsimp only at hM);exact au
    ·have F:=Zyn (nf F h69) (lF h69);exact au
   ·intro x30 hM;(try dsimp only at hM);exact au
instance:HC 19 (Ty @JA):=⟨JA⟩
end Go.Proofs.YtbkllghhcphkaaaGreatDoor
