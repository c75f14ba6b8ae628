import Derived.Test.YtbkllghhcphkaaaGreatDoorJ17
set_option linter.unusedSimpArgs false
set_option linter.unusedVariables false
namespace Go.Proofs.YtbkllghhcphkaaaGreatDoor
open Go.RowKit Am
set_option maxHeartbeats 4000000
set_option maxRecDepth 100000
theorem Jf (k:Nat) (a0:List Int) (r:List Int) (hM:Km k a0=some r):Ctr Tryz.prog 36 [.one (.sl (a0.map iC))] true [.one (.sl (r.map iC))]:=by
 unfold Km at hM;refine Zr Tryz.func36 Tryz.ntmps36 Tryz.results36 fun N w0 hbad F=> ?_;refine S1 ?_;refine Zs fun K h=> ?_;simp [go_sem,F];refine ZmG ?_;simp [go_sem,F];refine h _ ?_;refine S1 ?_;refine mj (ι:=List Int) [] [] [] (fun i=>[(4,oO 512 i.length)]) hM ?_ ?_ (ca:=fun i=>[(512,aT iC i)])
 ·intro e1 hM K3 hK3;refine S1 ?_;refine Zc ?_;refine lp (ι:=(List (Int×Bool))×(List Int)×Int) [3,9,10] [] [] (fun i=>[(4,oO 512 i.2.1.length),(11,oI i.2.2)]) (fun n i=>Wo a0 n i.1 i.2.1 i.2.2=some e1) k (([]:List (Int×Bool)),([]:List Int),0) hM (by simp [Wo]) ?_ (cb:=fun i=>[(7,[.mc (.ib i.1)])]) (ca:=fun i=>[(512,aT iC i.2.1)]);intro KL4 nL4 ⟨x2,x3,x4⟩ hL4 hM _;have hM:Wo a0 (nL4+1) x2 x3 x4=some e1:=hM;rw [Wo] at hM;refine S1 ?_;refine Zg fun K5 hK5=> ?_;refine Zn hM (fun h6 hM=> ?_) (fun h6 hM=> ?_)
  ·have F:=Zwg (nf F h6) (lT h6);refine Zi ?_;refine hK5 _ ?_;refine mj (ι:=(List (Int×Bool))×(List Int)) [3,9,10,11] [] [] (fun i=>[(4,oO 512 i.2.length)]) hM ?_ ?_ (cb:=fun i=>[(7,[.mc (.ib i.1)])]) (ca:=fun i=>[(512,aT iC i.2)])
   ·intro e7 hM K9 hK9;exact au
   ·rintro ⟨x5,x6⟩ hM;dsimp only at hM;exact au
  ·have F:=Zwg (nf F h6) (lF h6);exact au
 ·intro x1 hM;(try dsimp only at hM);exact au
instance:HC 36 (Ty @Jf):=⟨Jf⟩
theorem ZiM {cf cn:Nat} {lx:L} (k:Nat) (step:Int->Option (List Int)) (hs:∀(a:Int) (r:List Int),step a=some r->GC Tryz.prog cf cn [.one (.l (.int .i64 a)),.one (.box cn 0)] [(cn,[.l lx])] [] (.one (.own 30000 r.length)) [(cn,[.l lx])] [(30000,some ⟨false,r.map iC⟩)])
  (a0:Int) (r:List Int) (hM:Zc2 k step a0=some r):GC Tryz.prog 160 35 [.one (.l (.int .i64 a0)),.one (.clo cf [35])] [(35,[.l lx])] [] (.one (.own 30000 r.length)) [(35,[.l lx])] [(30000,some ⟨true,r.map iC⟩)]:=by
 unfold Zc2 at hM;refine GC.UR (by kernel_rfl) Tryz.func160 rfl Tryz.ntmps160 Tryz.results160 (by simp) fun N w0 hbad=> ?_;have F:=True.intro;simp only [ZaX];refine S1 ?_;refine S1 ?_;obtain ⟨x1,e1,hM⟩:=bind_some hM;refine Zs fun K h=> ?_;simp [go_sem,F];refine Zj4 ?_;simp [go_sem,F];refine Zj3 [] (ren []) (ren [(cn,35)]) (ren [(30000,704)]) (hs a0 x1 e1) ?_;simp [go_sem,F];refine h _ ?_;refine ZaF (ZnC (t:=6) (τ:=704) (n:=x1.length) (W:=1) (by simp [go_sem])) ?_;refine mj (ι:=List Int) [] [35] [] (fun i=>[(5,oO 512 i.length)]) hM ?_ ?_ (ca:=fun i=>[(512,aT iC i)])
 ·intro e2 hM K3 hK3
  have hx1:x1.length<=17592186044416:=by
   by_cases h:x1.length<=17592186044416
   ·exact h
   ·rw [if_neg h] at hM;cases hM
  rw [if_pos hx1] at hM;refine Zc ?_;refine lp (ι:=(List Int×List Int)×(List Int×Nat)) [1] [35] [] (fun i=>[(5,oO 512 i.1.1.length),(6,.one (.vw 704 (i.2.1.length+i.1.2.length) i.2.1.length (i.2.1.length+i.1.2.length) 1))]) (fun n i=>WE k step n i.1.1 i.1.2 i.2.2=some e2/\i.2.1.length+i.1.2.length<=i.2.2/\i.2.2<=17592186044416) k (([],x1),([],x1.length)) ⟨hM,by simp,hx1⟩ (by simp [WE]) ?_ (ca:=fun i=>[(512,aT iC i.1.1),(704,aF iC (i.2.1++i.1.2))]);intro KL nL ⟨⟨out,todo⟩,pre,t⟩ hL ⟨hM,ht,ht2⟩ _;have hM:WE k step (nL+1) out todo t=some e2:=hM;have ht:pre.length+todo.length<=t:=ht;have ht2:t<=17592186044416:=ht2;rw [WE] at hM;refine Zg fun K5 hK5=> ?_;refine S1 ?_;refine Zn hM (fun h6 hM=> ?_) (fun h6 hM=> ?_)
  ·have F:=Zwg (nf F h6) (lT h6);refine Zi ?_;refine hK5 _ ?_;refine Zc ?_;obtain ⟨x,e7,hM⟩:=bind_some hM
   obtain ⟨rest,rfl⟩:∃rest,todo=x::rest:=by
    cases todo with
    | nil=>simp [at?] at e7
    | cons y l=>simp [at?] at e7;subst e7;exact ⟨l,rfl⟩
   have hx:(List.map iC pre++iC x::List.map iC rest)[pre.length]? =some (iC x):=by rw [List.getElem?_append_right (by simp)];simp
   have hp:(1:Int)<=(rest.length:Int)+1:=by omega
   have F:=Zwg F (Zwg hx hp);refine S1 ?_;refine S1 ?_;have ht:pre.length+(rest.length+1)<=t:=ht;obtain ⟨pre1,hpre⟩:∃pre1,pre1=pre++[x]:=⟨_,rfl⟩;have hpl:pre1.length=pre.length+1:=by rw [hpre];simp
   refine le1 [1,5,7] [35] [512] ?_ (ch:=[(6,.one (.vw 704 (pre1.length+rest.length) pre1.length (pre1.length+rest.length) 1))]) (ca:=[(704,aF iC (pre1++rest))]) (k:=by
    constructor<;>simp [go_sem,F,hpre]<;>omega)
   obtain ⟨b,e8,hM⟩:=bind_some hM;refine Zs fun K h=> ?_;simp [go_sem,F];refine Qt false (Zar k out x b e8) ?_;simp [go_sem,F];refine h _ ?_;refine Zn hM (fun h9 hM=> ?_) (fun h9 hM=> ?_)
   ·have F:=nf F h9;obtain ⟨o,e10,hM⟩:=bind_some hM;obtain ⟨c20,s21⟩:=Z0 e10;replace c20:=c20.symm;subst c20;(try simp at s21);have F:=Zwg F s21;obtain ⟨ys,e11,hM⟩:=bind_some hM
    have hys:t+ys.length<=17592186044416:=by
     by_cases h:t+ys.length<=17592186044416
     ·exact h
     ·rw [if_neg h] at hM;cases hM
    rw [if_pos hys] at hM;refine S1 ?_;refine ZqS 4 ?_;simp [go_sem,F];refine Zj4 ?_;simp [go_sem,F];refine Zj3 [] (ren []) (ren [(cn,35)]) (ren [(30000,1984)]) (hs x ys e11) ?_;simp [go_sem,F];refine ⟨by omega,by omega, ?_, ?_⟩
    ·exact fr hL [(2048,704)] [1,5,6] [35] [512,2048] ((out++[x],rest++ys),(pre1,t+ys.length)) ⟨hM,by simp;omega,hys⟩
    ·exact fr hL [(2048,704)] [1,5,6] [35] [512,2048] ((out++[x],rest++ys),([],t+ys.length)) ⟨hM,by simp;omega,hys⟩
   ·have F:=nf F h9;refine Zi ?_;exact fs (i:=((out,rest),(pre1,t))) hL ⟨hM,by show pre1.length+rest.length<=t;omega,ht2⟩
  ·have F:=Zwg (nf F h6) (lF h6);refine Zja ?_;obtain rfl:=si hM;exact fs hK3 rfl
 ·intro x2 hM;(try dsimp only at hM);obtain ⟨x3,e3,hM⟩:=bind_some hM;refine Zs fun K h=> ?_;simp [go_sem,F];refine Qt false (Jf k x2 x3 e3) ?_;simp [go_sem,F];refine h _ ?_;obtain rfl:=si hM;refine rr [] [(2176,30000)] [4] [35] [2176] ?_;exact au
theorem Zc4 (a0:ByteArray) (a1:List ByteArray) (a20:List ByteArray) (r:List ByteArray) (hM:Ur a0 a1 a20=some r):GC Tryz.prog 157 9 [.one (.l (.str a0)),.one (.l (.sl (a1.map sC))),.one (.box 9 0)] [(9,[.own 31000 a20.length])] [(31000,some ⟨false,a20.map sC⟩)] (.tup []) [(9,[.own 30000 r.length])] [(30000,some ⟨false,r.map sC⟩)]:=by
 unfold Ur at hM;refine GC.UR (by kernel_rfl) Tryz.func157 rfl Tryz.ntmps157 Tryz.results157 (by simp) fun N w0 hbad=> ?_;have F:=True.intro;simp only [ZaX];refine Zm2 fun K0 hK0=> ?_;obtain ⟨x1,e1,hM⟩:=bind_some hM;obtain ⟨c2,s3⟩:=Z0 e1;replace c2:=c2.symm;subst c2;(try simp at s3);have F:=Zwg F s3;refine Wz ?_;simp [go_sem,F];obtain rfl:=si hM;exact rn hK0 [] [(31000,30000)] [] [9] [] (ca:=[(31000,aF sC (a20++[a0]))])
theorem Zcl:∀(k:Nat),(∀(a1:Za) (a2:List ByteArray) (a20:List ByteArray) (r:List ByteArray) (hM:Z1 k a1 a2 a20=some r),GC Tryz.prog 158 82 [.one (.box 82 0),.agg [.l (.int .i64 a1.kind),.l (.int .i64 a1.n),.l (.str a1.text),.l (.sl (a1.args.map Za.c))],.one (.l (.sl (a2.map sC)))] [(82,[.clo 157 [83],.nf]),(83,[.own 31000 a20.length])] [(31000,some ⟨false,a20.map sC⟩)] (.tup []) [(82,[.clo 157 [83],.nf]),(83,[.own 30000 r.length])] [(30000,some ⟨false,r.map sC⟩)]):=by
 intro k
 induction k with
 | zero=>intro a1 a2 a20 r hM;simp [Z1] at hM
 | succ k ih_i_walker_visit=>
  ·intro a1 a2 a20 r hM;rw [Z1] at hM;refine GC.UR (by kernel_rfl) Tryz.func158 rfl Tryz.ntmps158 Tryz.results158 (by simp) fun N w0 hbad=> ?_;have F:=True.intro;simp only [ZaX];refine Zm2 fun K0 hK0=> ?_;refine S1 ?_;refine mjE (ι:=Unit) [0,2,4] [4,82,83] [31000] (fun i=>[]) hM ?_ ?_
   ·intro e1 hM hR1 K3 hK3;refine mj (ι:=Bool) [0,2,4] [4,82,83] [31000] (fun i=>[(19,oB i)]) hM ?_ ?_
    ·intro e4 hM K6 hK6;exact au
    ·intro x1 hM;(try dsimp only at hM);refine Zn hM (fun h9 hM=> ?_) (fun h9 hM=> ?_)
     ·have F:=nf F h9;refine Zs fun K h=> ?_;simp [go_sem,F];refine ZsD ?_;simp [go_sem,F];refine h _ ?_;refine Zjb (b:=true) (by simp [go_sem,F]) (fun h10=> ?_) (fun h10=> ?_)
      ·skip;refine Zg fun K11 hK11=> ?_;obtain ⟨x3,e12,hM⟩:=bind_some hM;refine ZB 7 mixed (by kernel_rfl) (by kernel_rfl) ?_;simp [go_sem,F];refine Zj4 ?_;simp [go_sem,F];refine Zj3 [] (ren [(31000,31000)]) (ren [(9,83)]) (ren [(30000,2048)]) (Zc4 a1.text a2 a20 x3 e12) ?_;simp [go_sem,F];refine hK11 _ ?_;obtain rfl:=si hM;have hM:=hR1
       clear hR1;dsimp only at hM;obtain rfl:=si hM;refine rr [] [(2048,30000)] [] [82,83] [2048] ?_;exact au
      ·cases h10
     ·have F:=nf F h9;exact au
   ·intro _ hM;dsimp only at hM;refine mj (ι:=Bool) [0,2,4] [4,82,83] [31000] (fun i=>[(6,oB i)]) hM ?_ ?_
    ·intro e13 hM K15 hK15;exact au
    ·intro x4 hM;(try dsimp only at hM);refine mj (ι:=Unit) [0,2,4,6] [4,82,83] [31000] (fun i=>[]) hM ?_ ?_
     ·intro e17 hM K19 hK19;refine mj (ι:=Unit) [0,2,4,6] [4,82,83] [31000] (fun i=>[(48,oB false)]) hM ?_ ?_
      ·intro e20 hM K22 hK22;exact au
      ·intro _ hM;(try dsimp only at hM);exact au
     ·intro _ hM;(try dsimp only at hM);refine S1 ?_;refine Zc ?_;refine lp (ι:=(List ByteArray)×Int) [0,2,4,6,57,58] [4,82] [] (fun i=>[(59,oI i.2)]) (fun n i=>Yh (Z1 k) a1 a2 x4 n i.1 i.2=some r) k (a20,0) hM (by simp [Yh]) ?_ (cb:=fun i=>[(83,[.own 31000 i.1.length])]) (ca:=fun i=>[(31000,aF sC i.1)]);intro KL25 nL25 ⟨x5,x6⟩ hL25 hM _;have hM:Yh (Z1 k) a1 a2 x4 (nL25+1) x5 x6=some r:=hM;rw [Yh] at hM;refine S1 ?_;refine Zg fun K26 hK26=> ?_;refine Zn hM (fun h27 hM=> ?_) (fun h27 hM=> ?_)
      ·have F:=Zwg (nf F h27) (lT h27);refine Zi ?_;refine hK26 _ ?_;refine Zg fun K28 hK28=> ?_;refine Zc ?_;obtain ⟨x7,e29,hM⟩:=bind_some hM;have F:=Zwg F (WZ e29);refine S1 ?_;refine S1 ?_;refine mj (ι:=List ByteArray) [0,2,4,6,8,57,58,59] [4,8,82,83] [31000] (fun i=>[(9,oL sC i)]) hM ?_ ?_
       ·intro e30 hM K32 hK32;refine mj (ι:=Bool) [0,2,4,6,8,9,57,58,59] [4,8,82,83] [31000] (fun i=>[(69,oB i)]) hM ?_ ?_
        ·intro e33 hM K35 hK35;exact au
        ·intro x9 hM;(try dsimp only at hM);refine Zn hM (fun h37 hM=> ?_) (fun h37 hM=> ?_)
         ·have F:=nf F h37;refine le1 [0,2,4,6,8,57,58,59] [4,8,82,83] [31000] ?_;obtain ⟨x10,e38,hM⟩:=bind_some hM;obtain ⟨c39,s40⟩:=Z0 e38;replace c39:=c39.symm;subst c39;(try simp at s40);have F:=Zwg F s40;obtain ⟨x11,e42,hM⟩:=bind_some hM;obtain ⟨c43,s44⟩:=Z0 e42;replace c43:=c43.symm;subst c43;(try simp at s44);have F:=Zwg F s44;refine ZJ [[],[],[0,1],[10004480],[3],[3,4],[0,1,2,3,4,5],[0,1,2,3,4,5,6]] mixed (by kernel_rfl) ?_;simp [go_sem,F];refine ⟨Zq (by kernel_rfl), ?_⟩;exact au
         ·have F:=nf F h37;exact au
       ·intro x8 hM;(try dsimp only at hM);obtain ⟨x12,e46,hM⟩:=bind_some hM;refine Wz ?_;simp [go_sem,F];refine Zob [] (ren [(31000,31000)]) (ren [(82,82),(83,83)]) (ren [(30000,5120)]) (ih_i_walker_visit x7 x8 x5 x12 e46) ?_;simp [go_sem,F];refine hK28 _ ?_;refine Wz ?_;simp [go_sem,F];exact fr hL25 [(5120,31000)] [0,2,4,6,57,58,59] [4,82,83] [5120] (x12,(IntKind.i64.wrap (x6+1))) hM
      ·have F:=Zwg (nf F h27) (lF h27);refine Zja ?_;obtain rfl:=si hM;exact rn hK0 [] [(31000,30000)] [] [82,83] [31000]
theorem Zck (k:Nat):∀(a1:Za) (a2:List ByteArray) (a20:List ByteArray) (r:List ByteArray) (hM:Z1 k a1 a2 a20=some r),GC Tryz.prog 158 82 [.one (.box 82 0),.agg [.l (.int .i64 a1.kind),.l (.int .i64 a1.n),.l (.str a1.text),.l (.sl (a1.args.map Za.c))],.one (.l (.sl (a2.map sC)))] [(82,[.clo 157 [83],.nf]),(83,[.own 31000 a20.length])] [(31000,some ⟨false,a20.map sC⟩)] (.tup []) [(82,[.clo 157 [83],.nf]),(83,[.own 30000 r.length])] [(30000,some ⟨false,r.map sC⟩)]:=(Zcl k)
theorem Zat (k:Nat) (a0:List ByteArray) (r:List ByteArray) (hM:VL k a0=some r):Ctr Tryz.prog 159 [.one (.sl (a0.map sC))] true [.one (.sl (r.map sC))]:=by
 unfold VL at hM;refine Zr Tryz.func159 Tryz.ntmps159 Tryz.results159 fun N w0 hbad F=> ?_;refine S1 ?_;refine S1 ?_;refine mj (ι:=List ByteArray) [] [] [] (fun i=>[(3,oO 384 i.length)]) hM ?_ ?_ (ca:=fun i=>[(384,aT sC i)])
 ·intro e1 hM K3 hK3;refine S1 ?_;refine Zc ?_;refine lp (ι:=(List ByteArray)×Int) [0,7,8] [] [] (fun i=>[(3,oO 384 i.1.length),(9,oI i.2)]) (fun n i=>QG k a0 n i.1 i.2=some e1) k (([]:List ByteArray),0) hM (by simp [QG]) ?_ (ca:=fun i=>[(384,aT sC i.1)]);intro KL4 nL4 ⟨x2,x3⟩ hL4 hM _;have hM:QG k a0 (nL4+1) x2 x3=some e1:=hM;rw [QG] at hM;refine S1 ?_;refine Zg fun K5 hK5=> ?_;refine Zn hM (fun h6 hM=> ?_) (fun h6 hM=> ?_)
  ·have F:=Zwg (nf F h6) (lT h6);refine Zi ?_;refine hK5 _ ?_;refine mj (ι:=List ByteArray) [0,7,8,9] [] [] (fun i=>[(3,oO 384 i.length)]) hM ?_ ?_ (ca:=fun i=>[(384,aT sC i)])
   ·intro e7 hM K9 hK9;exact au
   ·intro x4 hM;(try dsimp only at hM);exact au
  ·have F:=Zwg (nf F h6) (lF h6);exact au
 ·intro x1 hM;(try dsimp only at hM);exact au
instance:HC 159 (Ty @Zat):=⟨Zat⟩
theorem Zaw (k:Nat) (a0:Za) (r:List ByteArray) (hM:Ks k a0=some r):Ctr Tryz.prog 106 [.agg (Za.c a0)] true [.one (.sl (r.map sC))]:=by
 unfold Ks at hM;refine Zr Tryz.func106 Tryz.ntmps106 Tryz.results106 fun N w0 hbad F=> ?_;refine S1 ?_;refine S1 ?_;refine Zs fun K h=> ?_;simp [go_sem,F];refine ZqH ?_;simp [go_sem,F];refine h _ ?_;obtain ⟨x1,e1,hM⟩:=bind_some hM;refine Zs fun K h=> ?_;simp [go_sem,F];refine Zob [] (ren [(31000,320)]) (ren [(82,8),(83,3)]) (ren [(30000,704)]) (Zck k a0 [] ([]:List ByteArray) x1 e1) ?_;simp [go_sem,F];exact au
instance:HC 106 (Ty @Zaw):=⟨Zaw⟩
theorem Zas (k:Nat) (a0:Zm) (r:List ByteArray) (hM:ZaP k a0=some r):Ctr Tryz.prog 57 [.agg (Zm.c a0)] true [.one (.sl (r.map sC))]:=by
 unfold ZaP at hM;refine Zr Tryz.func57 Tryz.ntmps57 Tryz.results57 fun N w0 hbad F=> ?_;exact au
instance:HC 57 (Ty @Zas):=⟨Zas⟩
theorem Zcr (k:Nat) (a0:List Zm) (a1:ByteArray) (r:Int) (hM:V5 k a0 a1=some r):Ctr Tryz.prog 85 [.one (.sl (a0.map Zm.c)),.one (.str a1)] true [.one (.int .i64 r)]:=by
 unfold V5 at hM;refine Zr Tryz.func85 Tryz.ntmps85 Tryz.results85 fun N w0 hbad F=> ?_;exact au
instance:HC 85 (Ty @Zcr):=⟨Zcr⟩
theorem WS (k:Nat) (a0:List Zm) (a1:Int) (r:List Int) (hM:YD k a0 a1=some r):Ctr Tryz.prog 35 [.one (.sl (a0.map Zm.c)),.one (.int .i64 a1)] true [.one (.sl (r.map iC))]:=by
 unfold YD at hM;refine Zr Tryz.func35 Tryz.ntmps35 Tryz.results35 fun N w0 hbad F=> ?_;refine S1 ?_;refine Zg fun K1 hK1=> ?_;refine mj (ι:=Bool) [0,1] [] [] (fun i=>[(16,oB i)]) hM ?_ ?_
 ·intro e2 hM K4 hK4;exact au
 ·intro x1 hM;(try dsimp only at hM);refine Zn hM (fun h6 hM=> ?_) (fun h6 hM=> ?_)
  ·have F:=nf F h6;exact au
  ·have F:=nf F h6;refine Zi ?_;refine hK1 _ ?_;refine S1 ?_;refine mj (ι:=List Int) [] [] [] (fun i=>[(5,oO 1088 i.length)]) hM ?_ ?_ (ca:=fun i=>[(1088,aT iC i)])
   ·intro e7 hM K9 hK9;obtain ⟨x3,e10,hM⟩:=bind_some hM;have F:=Zwg F (WZ e10);obtain ⟨x4,e11,hM⟩:=bind_some hM;refine Zs fun K h=> ?_;simp [go_sem,F];refine Qt false (Zas k x3 x4 e11) ?_;simp [go_sem,F];refine h _ ?_;refine Zc ?_;refine lp (ι:=(List Int)×Int) [0,22,23] [] [1408] (fun i=>[(5,oO 1088 i.1.length),(24,oI i.2)]) (fun n i=>Qk k a0 x4 n i.1 i.2=some e7) k (([]:List Int),0) hM (by simp [Qk]) ?_ (ca:=fun i=>[(1088,aT iC i.1)]);intro KL12 nL12 ⟨x5,x6⟩ hL12 hM _;have hM:Qk k a0 x4 (nL12+1) x5 x6=some e7:=hM;rw [Qk] at hM;refine S1 ?_;refine Zg fun K13 hK13=> ?_;refine Zn hM (fun h14 hM=> ?_) (fun h14 hM=> ?_)
    ·have F:=Zwg (nf F h14) (lT h14);refine Zi ?_;refine hK13 _ ?_;refine mj (ι:=List Int) [0,22,23,24] [] [1408] (fun i=>[(5,oO 1088 i.length)]) hM ?_ ?_ (ca:=fun i=>[(1088,aT iC i)])
     ·intro e15 hM K17 hK17;exact au
     ·intro x7 hM;(try dsimp only at hM);exact au
    ·have F:=Zwg (nf F h14) (lF h14);exact au
   ·intro x2 hM;(try dsimp only at hM);exact au
instance:HC 35 (Ty @WS):=⟨WS⟩
theorem ZeE (k:Nat) (a0:Int) (a20:List Zm) (r:List Int) (hM:VO k a0 a20=some r):GC Tryz.prog 185 7 [.one (.l (.int .i64 a0)),.one (.box 7 0)] [(7,[.l (.sl (a20.map Zm.c))])] [] (.one (.own 30000 r.length)) [(7,[.l (.sl (a20.map Zm.c))])] [(30000,some ⟨false,r.map iC⟩)]:=by
 unfold VO at hM;refine GC.UR (by kernel_rfl) Tryz.func185 rfl Tryz.ntmps185 Tryz.results185 (by simp) fun N w0 hbad=> ?_;have F:=True.intro;simp only [ZaX];refine Zm2 fun K0 hK0=> ?_;refine S1 ?_;obtain ⟨x1,e1,hM⟩:=bind_some hM;refine Zs fun K h=> ?_;simp [go_sem,F];refine Qt false (WS k a20 a0 x1 e1) ?_;simp [go_sem,F];refine h _ ?_;obtain rfl:=si hM;refine rr [384] [(384,30000)] [3] [7] [384] ?_;exact au
theorem Zcx (k:Nat) (a0:List Zm) (a1:Int) (r:List Int) (hM:Zay k a0 a1=some r):Ctr Tryz.prog 135 [.one (.sl (a0.map Zm.c)),.one (.int .i64 a1)] true [.one (.sl (r.map iC))]:=by
 unfold Zay at hM;have hM:(Zc2 k (fun x=>VO k x a0) a1).bind (fun x1=>some x1)=some r:=by rw [hM];rfl
 refine Zr Tryz.func135 Tryz.ntmps135 Tryz.results135 fun N w0 hbad F=> ?_;refine S1 ?_;obtain ⟨x1,e1,hM⟩:=bind_some hM;refine Zs fun K h=> ?_;simp [go_sem,F];refine ZqH ?_;simp [go_sem,F];refine Zob [] (ren []) (ren [(35,2)]) (ren [(30000,448)]) (ZiM k _ (fun a r h=>ZeE k a a0 r h) a1 x1 e1) ?_;simp [go_sem,F];refine h _ ?_;obtain rfl:=si hM;refine Jn ?_;simp [go_sem,F]
instance:HC 135 (Ty @Zcx):=⟨Zcx⟩
theorem Zcs (k:Nat) (a0:List Zm) (a1:Int) (r:Bool) (hM:Vo k a0 a1=some r):Ctr Tryz.prog 79 [.one (.sl (a0.map Zm.c)),.one (.int .i64 a1)] true [.one (.bool r)]:=by
 unfold Vo at hM;refine Zr Tryz.func79 Tryz.ntmps79 Tryz.results79 fun N w0 hbad F=> ?_;exact au
instance:HC 79 (Ty @Zcs):=⟨Zcs⟩
theorem Ug (k:Nat) (a0:List Zm) (a1:Int) (r:Zb×Bool) (hM:YC k a0 a1=some r):Ctr Tryz.prog 31 [.one (.sl (a0.map Zm.c)),.one (.int .i64 a1)] true [.agg (Zb.c r.1),.one (.bool r.2)]:=by
 unfold YC at hM;refine Zr Tryz.func31 Tryz.ntmps31 Tryz.results31 fun N w0 hbad F=> ?_;refine S1 ?_;refine Zg fun K1 hK1=> ?_;refine mj (ι:=Bool) [0,1,4] [4] [] (fun i=>[(14,oB i)]) hM ?_ ?_
 ·intro e2 hM K4 hK4;exact au
 ·intro x1 hM;(try dsimp only at hM);exact au
instance:HC 31 (Ty @Ug):=⟨Ug⟩
theorem KI (k:Nat) (a0:List Zm) (a1:Int) (r:Bool) (hM:QH k a0 a1=some r):Ctr Tryz.prog 81 [.one (.sl (a0.map Zm.c)),.one (.int .i64 a1)] true [.one (.bool r)]:=by
 unfold QH at hM;refine Zr Tryz.func81 Tryz.ntmps81 Tryz.results81 fun N w0 hbad F=> ?_;refine S1 ?_;refine mj (ι:=Bool) [] [] [] (fun i=>[(4,oB i)]) hM ?_ ?_
 ·intro e1 hM K3 hK3;exact au
 ·intro x1 hM;(try dsimp only at hM);exact au
instance:HC 81 (Ty @KI):=⟨KI⟩
set_option maxHeartbeats 4000000
set_option maxRecDepth 100000
theorem Jg (k:Nat) (a0:List Zm) (a1:Int) (r:List Int) (hM:XX k a0 a1=some r):Ctr Tryz.prog 82 [.one (.sl (a0.map Zm.c)),.one (.int .i64 a1)] true [.one (.sl (r.map iC))]:=by
 unfold XX at hM;refine Zr Tryz.func82 Tryz.ntmps82 Tryz.results82 fun N w0 hbad F=> ?_;refine S1 ?_;refine S1 ?_;refine mj (ι:=List Int) [] [] [] (fun i=>[(5,oO 512 i.length)]) hM ?_ ?_ (ca:=fun i=>[(512,aT iC i)])
 ·intro e1 hM K3 hK3;obtain ⟨x2,e4,hM⟩:=bind_some hM;refine Zs fun K h=> ?_;simp [go_sem,F];refine Qt false (WS k a0 a1 x2 e4) ?_;simp [go_sem,F];refine h _ ?_;refine Zc ?_;refine lp (ι:=(List Int)×Int) [0,11,12] [] [704] (fun i=>[(5,oO 512 i.1.length),(13,oI i.2)]) (fun n i=>Z2 k a0 x2 n i.1 i.2=some e1) k (([]:List Int),0) hM (by simp [Z2]) ?_ (ca:=fun i=>[(512,aT iC i.1)]);intro KL5 nL5 ⟨x3,x4⟩ hL5 hM _;have hM:Z2 k a0 x2 (nL5+1) x3 x4=some e1:=hM;rw [Z2] at hM;refine S1 ?_;refine Zg fun K6 hK6=> ?_;refine Zn hM (fun h7 hM=> ?_) (fun h7 hM=> ?_)
  ·have F:=Zwg (nf F h7) (lT h7);refine Zi ?_;refine hK6 _ ?_;refine mj (ι:=List Int) [0,11,12,13] [] [704] (fun i=>[(5,oO 512 i.length)]) hM ?_ ?_ (ca:=fun i=>[(512,aT iC i)])
   ·intro e8 hM K10 hK10;exact au
   ·intro x5 hM;(try dsimp only at hM);exact au
  ·have F:=Zwg (nf F h7) (lF h7);exact au
 ·intro x1 hM;(try dsimp only at hM);exact au
instance:HC 82 (Ty @Jg):=⟨Jg⟩
theorem ZeA (k:Nat) (a0:List Int) (a1:List Int) (r:Bool) (hM:Zbu k a0 a1=some r):Ctr Tryz.prog 34 [.one (.sl (a0.map iC)),.one (.sl (a1.map iC))] true [.one (.bool r)]:=by
 unfold Zbu at hM;refine Zr Tryz.func34 Tryz.ntmps34 Tryz.results34 fun N w0 hbad F=> ?_;refine S1 ?_;refine mjE (ι:=Unit) [] [] [] (fun i=>[]) hM ?_ ?_
 ·intro e1 hM hR1 K3 hK3;refine S1 ?_;refine Zc ?_;refine lp (ι:=Int) [1,7,8] [] [] (fun i=>[(9,oI i)]) (fun n i=>W7 k a0 a1 n i=some e1) k 0 hM (by simp [W7]) ?_;intro KL4 nL4 x1 hL4 hM _;have hM:W7 k a0 a1 (nL4+1) x1=some e1:=hM;rw [W7] at hM;exact au
 ·intro _ hM;dsimp only at hM;exact au
instance:HC 34 (Ty @ZeA):=⟨ZeA⟩
theorem Jv (k:Nat) (a0:List Zm) (r:List Int) (hM:JR k a0=some r):Ctr Tryz.prog 32 [.one (.sl (a0.map Zm.c))] true [.one (.sl (r.map iC))]:=by
 unfold JR at hM;refine Zr Tryz.func32 Tryz.ntmps32 Tryz.results32 fun N w0 hbad F=> ?_;refine S1 ?_;refine S1 ?_;refine Zc ?_;refine lp (ι:=List Int) [0] [] [] (fun i=>[(3,oO 320 i.length)]) (fun n i=>Qx k a0 n i=some r) k ([]:List Int) hM (by simp [Qx]) ?_ (ca:=fun i=>[(320,aT iC i)]);intro KL1 nL1 x1 hL1 hM _;have hM:Qx k a0 (nL1+1) x1=some r:=hM;rw [Qx] at hM;refine Zc ?_;refine S1 ?_;refine mj (ι:=Int) [0,3] [] [320] (fun i=>[(4,oI i)]) hM ?_ ?_
 ·intro e2 hM K4 hK4;refine Zc ?_;refine lp (ι:=Int) [0,3] [] [320] (fun i=>[(4,oI i)]) (fun n i=>YS k a0 x1 n i=some e2) k 0 hM (by simp [YS]) ?_;intro KL5 nL5 x3 hL5 hM _;have hM:YS k a0 x1 (nL5+1) x3=some e2:=hM;rw [YS] at hM;refine Zg fun K6 hK6=> ?_;refine mj (ι:=Bool) [0,3,4] [] [320] (fun i=>[(28,oB i)]) hM ?_ ?_
  ·intro e7 hM K9 hK9;exact au
  ·intro x4 hM;(try dsimp only at hM);exact au
 ·intro x2 hM;(try dsimp only at hM);exact au
instance:HC 32 (Ty @Jv):=⟨Jv⟩
theorem Zhs:∀(k:Nat),(∀(a0:Za) (r:Bool) (hM:Yt k a0=some r),Ctr Tryz.prog 84 [.agg (Za.c a0)] true [.one (.bool r)]):=by
 intro k
 induction k with
 | zero=>intro a0 r hM;simp [Yt] at hM
 | succ k ih_i_isPipe=>
  ·intro a0 r hM;haveI:HC 84 _:=⟨ih_i_isPipe⟩;rw [Yt] at hM;refine Zr Tryz.func84 Tryz.ntmps84 Tryz.results84 fun N w0 hbad F=> ?_;refine S1 ?_;refine Zg fun K1 hK1=> ?_;refine S1 ?_;refine Zn hM (fun h2 hM=> ?_) (fun h2 hM=> ?_)
   ·have F:=nf F h2;exact au
   ·have F:=nf F h2;refine Zi ?_;refine hK1 _ ?_;refine S1 ?_;refine mjE (ι:=Int) [1] [1] [] (fun i=>[(3,oI i)]) hM ?_ ?_
    ·intro e3 hM hR1 K5 hK5;refine S1 ?_;refine Zc ?_;refine mj (ι:=Bool) [1,3,10] [1] [] (fun i=>[(11,oB i)]) hM ?_ ?_
     ·intro e6 hM K8 hK8;exact au
     ·intro x2 hM;(try dsimp only at hM);exact au
    ·intro x1 hM;dsimp only at hM;refine Zg fun K14 hK14=> ?_;refine S1 ?_;refine Zn hM (fun h15 hM=> ?_) (fun h15 hM=> ?_)
     ·have F:=nf F h15;exact au
     ·have F:=nf F h15;refine Zi ?_;refine hK14 _ ?_;refine mjE (ι:=Unit) [] [] [] (fun i=>[]) hM ?_ ?_
      ·intro e16 hM hR1 K18 hK18;refine S1 ?_;refine Zc ?_;refine lp (ι:=Int) [1,3,22,23] [1] [] (fun i=>[(24,oI i)]) (fun n i=>XO (Yt k) a0 x1 n i=some e16) k 0 hM (by simp [XO]) ?_;intro KL19 nL19 x3 hL19 hM _;have hM:XO (Yt k) a0 x1 (nL19+1) x3=some e16:=hM;rw [XO] at hM;refine S1 ?_;refine Zg fun K20 hK20=> ?_;refine Zn hM (fun h21 hM=> ?_) (fun h21 hM=> ?_)
       ·have F:=Zwg (nf F h21) (lT h21);refine Zi ?_;refine hK20 _ ?_;refine mjE (ι:=Unit) [1,3,22,23,24] [1] [] (fun i=>[]) hM ?_ ?_
        ·intro e22 hM hR2 K24 hK24;refine Zc ?_;obtain ⟨x4,e25,hM⟩:=bind_some hM;have F:=Zwg F (WZ e25);refine S1 ?_;refine S1 ?_;refine Zn hM (fun h26 hM=> ?_) (fun h26 hM=> ?_)
         ·have F:=Zwg (nf F h26) (eT h26);exact au
         ·have F:=Zwg (nf F h26) (eF h26);refine mj (ι:=Bool) [1,3,22,23,24] [1] [] (fun i=>[(46,oB i)]) hM ?_ ?_
          ·intro e29 hM K31 hK31;exact au
          ·intro x6 hM;(try dsimp only at hM);exact au
        ·intro _ hM;dsimp only at hM;exact au
       ·have F:=Zwg (nf F h21) (lF h21);exact au
      ·intro _ hM;dsimp only at hM;exact au
theorem Zds (k:Nat):∀(a0:Za) (r:Bool) (hM:Yt k a0=some r),Ctr Tryz.prog 84 [.agg (Za.c a0)] true [.one (.bool r)]:=(Zhs k)
instance:HC 84 (Ty @Zds):=⟨Zds⟩
theorem KK (k:Nat) (a0:Za) (r:Bool) (hM:W8 k a0=some r):Ctr Tryz.prog 33 [.agg (Za.c a0)] true [.one (.bool r)]:=by
 unfold W8 at hM;refine Zr Tryz.func33 Tryz.ntmps33 Tryz.results33 fun N w0 hbad F=> ?_;refine S1 ?_;refine mj (ι:=Bool) [] [] [] (fun i=>[(2,oB i)]) hM ?_ ?_
 ·intro e1 hM K3 hK3;exact au
 ·intro x1 hM;(try dsimp only at hM);exact au
instance:HC 33 (Ty @KK):=⟨KK⟩
theorem XP (k:Nat) (a0:Ze) (r:List Int) (hM:Xt k a0=some r):Ctr Tryz.prog 8 [.agg (Ze.c a0)] true [.one (.sl (r.map iC))]:=by
 unfold Xt at hM;refine Zr Tryz.func8 Tryz.ntmps8 Tryz.results8 fun N w0 hbad F=> ?_;refine S1 ?_;obtain ⟨x1,e1,hM⟩:=bind_some hM;refine Zs fun K h=> ?_;simp [go_sem,F];refine Qt false (Uh k a0 x1 e1) ?_;simp [go_sem,F];refine h _ ?_;refine S1 ?_;refine mj (ι:=List Int) [1,3] [1] [] (fun i=>[(4,oO 960 i.length)]) hM ?_ ?_ (ca:=fun i=>[(960,aT iC i)])
 ·intro e2 hM K4 hK4;refine S1 ?_;refine Zc ?_;refine lp (ι:=(List Int)×Int) [1,3,17] [1] [] (fun i=>[(4,oO 960 i.1.length),(18,oI i.2)]) (fun n i=>ZU k x1 n i.1 i.2=some e2) k (([]:List Int),0) hM (by simp [ZU]) ?_ (ca:=fun i=>[(960,aT iC i.1)]);intro KL5 nL5 ⟨x3,x4⟩ hL5 hM _;have hM:ZU k x1 (nL5+1) x3 x4=some e2:=hM;rw [ZU] at hM;refine S1 ?_;refine Zg fun K6 hK6=> ?_;refine Zn hM (fun h7 hM=> ?_) (fun h7 hM=> ?_)
  ·have F:=Zwg (nf F h7) (lT h7);refine Zi ?_;refine hK6 _ ?_;refine mj (ι:=List Int) [1,3,17,18] [1] [] (fun i=>[(4,oO 960 i.length)]) hM ?_ ?_ (ca:=fun i=>[(960,aT iC i)])
   ·intro e8 hM K10 hK10;refine Zc ?_;refine S1 ?_;obtain ⟨x6,e11,hM⟩:=bind_some hM;refine Zs fun K h=> ?_;simp [go_sem,F];refine Qt false (Ug k x1 x4 x6 e11) ?_;simp [go_sem,F];refine h _ ?_;refine mj (ι:=Bool) [1,3,4,5,17,18] [1] [960] (fun i=>[(32,oB i)]) hM ?_ ?_
    ·intro e12 hM K14 hK14;exact au
    ·intro x7 hM;(try dsimp only at hM);exact au
   ·intro x5 hM;(try dsimp only at hM);exact au
  ·have F:=Zwg (nf F h7) (lF h7);exact au
 ·intro x2 hM;(try dsimp only at hM);refine mj (ι:=List Int) [1] [1] [] (fun i=>[(4,oO 960 i.length)]) hM ?_ ?_ (ca:=fun i=>[(960,aT iC i)])
  ·intro e21 hM K23 hK23;obtain ⟨x10,e24,hM⟩:=bind_some hM;refine Zs fun K h=> ?_;simp [go_sem,F];refine Qt false (Jv k x1 x10 e24) ?_;simp [go_sem,F];refine h _ ?_;refine Zc ?_;refine lp (ι:=(List Int)×Int) [1,3,39,40] [1] [2496] (fun i=>[(4,oO 960 i.1.length),(41,oI i.2)]) (fun n i=>ZT k x1 x10 n i.1 i.2=some e21) k (x2,0) hM (by simp [ZT]) ?_ (ca:=fun i=>[(960,aT iC i.1)]);intro KL25 nL25 ⟨x11,x12⟩ hL25 hM _;have hM:ZT k x1 x10 (nL25+1) x11 x12=some e21:=hM;rw [ZT] at hM;refine S1 ?_;refine Zg fun K26 hK26=> ?_;refine Zn hM (fun h27 hM=> ?_) (fun h27 hM=> ?_)
   ·have F:=Zwg (nf F h27) (lT h27);refine Zi ?_;refine hK26 _ ?_;refine mj (ι:=List Int) [1,3,39,40,41] [1] [2496] (fun i=>[(4,oO 960 i.length)]) hM ?_ ?_ (ca:=fun i=>[(960,aT iC i)])
    ·intro e28 hM K30 hK30;refine Zc ?_;obtain ⟨x14,e31,hM⟩:=bind_some hM;have F:=Zwg F (WZ e31);have F:=Zwg F (ZhY e31);refine S1 ?_;refine mj (ι:=Bool) [1,3,4,9,39,40,41] [1] [960,2496] (fun i=>[(65,oB i)]) hM ?_ ?_
     ·intro e32 hM K34 hK34;exact au
     ·intro x15 hM;(try dsimp only at hM);exact au
    ·intro x13 hM;(try dsimp only at hM);exact au
   ·have F:=Zwg (nf F h27) (lF h27);exact au
  ·intro x9 hM;(try dsimp only at hM);refine S1 ?_;refine mj (ι:=List Int) [] [] [] (fun i=>[(10,oO 4544 i.length)]) hM ?_ ?_ (ca:=fun i=>[(4544,aT iC i)])
   ·intro e46 hM K48 hK48;obtain ⟨x22,e49,hM⟩:=bind_some hM;refine Zs fun K h=> ?_;simp [go_sem,F];refine Qt false (Jf k x9 x22 e49) ?_;simp [go_sem,F];refine h _ ?_;refine Zc ?_;refine lp (ι:=(List Int)×Int) [1,73,74] [1] [4672] (fun i=>[(10,oO 4544 i.1.length),(75,oI i.2)]) (fun n i=>Z7 a0 x22 n i.1 i.2=some e46) k (([]:List Int),0) hM (by simp [Z7]) ?_ (ca:=fun i=>[(4544,aT iC i.1)]);intro KL50 nL50 ⟨x23,x24⟩ hL50 hM _;have hM:Z7 a0 x22 (nL50+1) x23 x24=some e46:=hM;rw [Z7] at hM;exact au
   ·intro x21 hM;(try dsimp only at hM);exact au
instance:HC 8 (Ty @XP):=⟨XP⟩
set_option maxHeartbeats 4000000
set_option maxRecDepth 100000
theorem Zdd (a0:Zk) (a1:Int) (r:Int) (hM:J5 a0 a1=some r):Ctr Tryz.prog 42 [.agg (Zk.c a0),.one (.int .i64 a1)] true [.one (.int .i64 r)]:=by
 unfold J5 at hM;refine Zr Tryz.func42 Tryz.ntmps42 Tryz.results42 fun N w0 hbad F=> ?_;exact au
instance:HC 42 (Ty @Zdd):=⟨Zdd⟩
theorem ZbJ (k:Nat) (a0:List Zk) (a1:Int) (r:Int) (hM:KS k a0 a1=some r):Ctr Tryz.prog 21 [.one (.sl (a0.map Zk.c)),.one (.int .i64 a1)] true [.one (.int .i64 r)]:=by
 unfold KS at hM;refine Zr Tryz.func21 Tryz.ntmps21 Tryz.results21 fun N w0 hbad F=> ?_;refine S1 ?_;refine S1 ?_;refine Zg fun K1 hK1=> ?_;refine S1 ?_;refine Zn hM (fun h2 hM=> ?_) (fun h2 hM=> ?_)
 ·have F:=Zwg (nf F h2) (lT h2);exact au
 ·have F:=Zwg (nf F h2) (lF h2);refine Zi ?_;refine hK1 _ ?_;refine mjE (ι:=Int) [] [] [] (fun i=>[(1,oI i)]) hM ?_ ?_
  ·intro e3 hM hR1 K5 hK5;refine S1 ?_;refine Zc ?_;refine lp (ι:=Int×Int) [0] [] [] (fun i=>[(1,oI i.1),(5,oI i.2)]) (fun n i=>Xy a0 n i.1 i.2=some e3) k ((IntKind.i64.wrap (a1-(a0.length:Int))),0) hM (by simp [Xy]) ?_;intro KL6 nL6 ⟨x2,x3⟩ hL6 hM _;have hM:Xy a0 (nL6+1) x2 x3=some e3:=hM;rw [Xy] at hM;exact au
  ·intro x1 hM;dsimp only at hM;exact au
instance:HC 21 (Ty @ZbJ):=⟨ZbJ⟩
theorem Ua (k:Nat) (a0:Ze) (a1:Int) (r:Int) (hM:VW k a0 a1=some r):Ctr Tryz.prog 5 [.agg (Ze.c a0),.one (.int .i64 a1)] true [.one (.int .i64 r)]:=by
 unfold VW at hM;refine Zr Tryz.func5 Tryz.ntmps5 Tryz.results5 fun N w0 hbad F=> ?_;exact au
instance:HC 5 (Ty @Ua):=⟨Ua⟩
theorem Zdc (a0:Zk) (r:Zk) (hM:J4 a0=some r):Ctr Tryz.prog 52 [.agg (Zk.c a0)] true [.agg (Zk.c r)]:=by
 unfold J4 at hM;refine Zr Tryz.func52 Tryz.ntmps52 Tryz.results52 fun N w0 hbad F=> ?_;exact au
instance:HC 52 (Ty @Zdc):=⟨Zdc⟩
theorem ZbI (k:Nat) (a0:List Zk) (r:List Zk) (hM:KR k a0=some r):Ctr Tryz.prog 29 [.one (.sl (a0.map Zk.c))] true [.one (.sl (r.map Zk.c))]:=by
 unfold KR at hM;refine Zr Tryz.func29 Tryz.ntmps29 Tryz.results29 fun N w0 hbad F=> ?_;refine S1 ?_;obtain ⟨x1,e1,hM⟩:=bind_some hM;obtain ⟨c2,s3⟩:=Zgd e1;replace c2:=c2.symm;subst c2;(try simp at s3);have F:=Zwg F s3;refine S1 ?_;refine mj (ι:=List Zk) [] [] [] (fun i=>[(3,oO 448 i.length)]) hM ?_ ?_ (ca:=fun i=>[(448,aT Zk.c i)])
 ·intro e6 hM K8 hK8;refine S1 ?_;refine Zc ?_;refine lp (ι:=(List Zk)×Int) [0] [] [] (fun i=>[(3,oO 448 i.1.length),(4,oI i.2)]) (fun n i=>Xx a0 n i.1 i.2=some e6) k ((List.replicate ((a0.length:Int).toNat) (Zk.mk 0 0 0 (⟨#[]⟩:ByteArray) (⟨#[]⟩:ByteArray) 0)),0) hM (by simp [Xx]) ?_ (ca:=fun i=>[(448,aT Zk.c i.1)]);intro KL9 nL9 ⟨x3,x4⟩ hL9 hM _;have hM:Xx a0 (nL9+1) x3 x4=some e6:=hM;rw [Xx] at hM;exact au
 ·intro x2 hM;(try dsimp only at hM);exact au
instance:HC 29 (Ty @ZbI):=⟨ZbI⟩
theorem QU (k:Nat) (a0:Ze) (r:Ze) (hM:Xw k a0=some r):Ctr Tryz.prog 7 [.agg (Ze.c a0)] true [.agg (Ze.c r)]:=by
 unfold Xw at hM;refine Zr Tryz.func7 Tryz.ntmps7 Tryz.results7 fun N w0 hbad F=> ?_;exact au
instance:HC 7 (Ty @QU):=⟨QU⟩
theorem VY (k:Nat) (a0:List Int) (a1:List Int) (r:Bool) (hM:J6 k a0 a1=some r):Ctr Tryz.prog 9 [.one (.sl (a0.map iC)),.one (.sl (a1.map iC))] true [.one (.bool r)]:=by
 unfold J6 at hM;refine Zr Tryz.func9 Tryz.ntmps9 Tryz.results9 fun N w0 hbad F=> ?_;refine S1 ?_;refine Zg fun K1 hK1=> ?_;refine S1 ?_;refine Zn hM (fun h2 hM=> ?_) (fun h2 hM=> ?_)
 ·have F:=nf F h2;exact au
 ·have F:=nf F h2;refine Zi ?_;refine hK1 _ ?_;refine mjE (ι:=Unit) [] [] [] (fun i=>[]) hM ?_ ?_
  ·intro e3 hM hR1 K5 hK5;refine S1 ?_;refine Zc ?_;refine lp (ι:=Int) [0,1] [] [] (fun i=>[(5,oI i)]) (fun n i=>X5 a0 a1 n i=some e3) k 0 hM (by simp [X5]) ?_;intro KL6 nL6 x1 hL6 hM _;have hM:X5 a0 a1 (nL6+1) x1=some e3:=hM;rw [X5] at hM;refine Zg fun K7 hK7=> ?_;refine S1 ?_;refine Zn hM (fun h8 hM=> ?_) (fun h8 hM=> ?_)
   ·have F:=Zwg (nf F h8) (lT h8);refine Zi ?_;refine hK7 _ ?_;refine Zg fun K9 hK9=> ?_;refine Zc ?_;refine Zg fun K10 hK10=> ?_;obtain ⟨x2,e11,hM⟩:=bind_some hM;have F:=Zwg F (WZ e11);obtain ⟨x3,e12,hM⟩:=bind_some hM;have F:=Zwg F (WZ e12);refine ZB 8 mixed (by kernel_rfl) (by kernel_rfl) ?_;simp [go_sem,F];exact au
   ·have F:=Zwg (nf F h8) (lF h8);exact au
  ·intro _ hM;dsimp only at hM;exact au
instance:HC 9 (Ty @VY):=⟨VY⟩
theorem KT (a0:Zk) (a1:Zk) (r:Bool) (hM:J7 a0 a1=some r):Ctr Tryz.prog 87 [.agg (Zk.c a0),.agg (Zk.c a1)] true [.one (.bool r)]:=by
 unfold J7 at hM;refine Zr Tryz.func87 Tryz.ntmps87 Tryz.results87 fun N w0 hbad F=> ?_;exact au
instance:HC 87 (Ty @KT):=⟨KT⟩
theorem ZbK (k:Nat) (a0:List Zk) (a1:List Zk) (r:Bool) (hM:KU k a0 a1=some r):Ctr Tryz.prog 37 [.one (.sl (a0.map Zk.c)),.one (.sl (a1.map Zk.c))] true [.one (.bool r)]:=by
 unfold KU at hM;refine Zr Tryz.func37 Tryz.ntmps37 Tryz.results37 fun N w0 hbad F=> ?_;refine S1 ?_;refine Zg fun K1 hK1=> ?_;refine S1 ?_;refine Zn hM (fun h2 hM=> ?_) (fun h2 hM=> ?_)
 ·have F:=nf F h2;exact au
 ·have F:=nf F h2;refine Zi ?_;refine hK1 _ ?_;refine mjE (ι:=Unit) [] [] [] (fun i=>[]) hM ?_ ?_
  ·intro e3 hM hR1 K5 hK5;refine S1 ?_;refine Zc ?_;refine lp (ι:=Int) [0,1] [] [] (fun i=>[(5,oI i)]) (fun n i=>Xz a0 a1 n i=some e3) k 0 hM (by simp [Xz]) ?_;intro KL6 nL6 x1 hL6 hM _;have hM:Xz a0 a1 (nL6+1) x1=some e3:=hM;rw [Xz] at hM;refine Zg fun K7 hK7=> ?_;refine S1 ?_;refine Zn hM (fun h8 hM=> ?_) (fun h8 hM=> ?_)
   ·have F:=Zwg (nf F h8) (lT h8);refine Zi ?_;refine hK7 _ ?_;refine Zg fun K9 hK9=> ?_;refine Zc ?_;refine Zg fun K10 hK10=> ?_;obtain ⟨x2,e11,hM⟩:=bind_some hM;have F:=Zwg F (WZ e11);obtain ⟨x3,e12,hM⟩:=bind_some hM;have F:=Zwg F (WZ e12);obtain ⟨x4,e13,hM⟩:=bind_some hM;refine ZB 8 mixed (by kernel_rfl) (by kernel_rfl) ?_;simp [go_sem,F];refine Qt false (KT x2 x3 x4 e13) ?_;simp [go_sem,F];exact au
   ·have F:=Zwg (nf F h8) (lF h8);exact au
  ·intro _ hM;dsimp only at hM;exact au
instance:HC 37 (Ty @ZbK):=⟨ZbK⟩
theorem Ub (k:Nat) (a0:Ze) (a1:Ze) (r:Bool) (hM:VX k a0 a1=some r):Ctr Tryz.prog 10 [.agg (Ze.c a0),.agg (Ze.c a1)] true [.one (.bool r)]:=by
 unfold VX at hM;refine Zr Tryz.func10 Tryz.ntmps10 Tryz.results10 fun N w0 hbad F=> ?_;exact au
instance:HC 10 (Ty @Ub):=⟨Ub⟩
end Go.Proofs.YtbkllghhcphkaaaGreatDoor
