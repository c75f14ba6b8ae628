import Derived.Test.YtmcfegjoccgpoaaGreatDoorZPkC
set_option linter.unusedSimpArgs false
set_option linter.unusedVariables false
namespace Go.Proofs.YtmcfegjoccgpoaaGreatDoor.Am
open Go.RowKit
def ZvS:Nat->Nat->List UInt8->List UInt8
 | 0,_,j=>j
 | f+1,n,j=>if n=0 then j else ZvS f (n/10) (UInt8.ofNat (48+n%10)::j)
theorem Zq4:∀f n j,(ZvS f n j).length<=j.length+f
 | 0,_,_=>by simp [ZvS]
 | f+1,n,j=>by
  unfold ZvS
  split
  ·omega
  ·have:=Zq4 f (n/10) (UInt8.ofNat (48+n%10)::j);simp only [HL] at this;omega
def ZjX (k:Int):Ma:=if k<=0 then ⟨#[109,48]⟩ else ⟨(109::ZvS k.toNat k.toNat []).toArray⟩
theorem ZrO {k:Int} (h:k<=1099511627776):Fit (ZjX k):=by
 unfold ZjX Fit
 split
 ·decide
 ·have:=Zq4 k.toNat k.toNat [];show (List.toArray _).size<=_;simp only [GI,HL,List.length_nil] at this ⊢;omega
mutual
def qmC:L->Int->L
 | .int k _,m=>.int k m
 | .bool _,m=>.bool (decide (m%3=0))
 | .str _,m=>.str (ZjX m)
 | .sl es,m=>.sl (qmE es m)
 | .void,_=>.void
def qmR:List L->Int->List L
 | [],_=>[]
 | x::xs,m=>qmC x m::qmR xs (m+(qnC x:Nat))
def qmE:List (List L)->Int->List (List L)
 | [],_=>[]
 | e::es,m=>qmR e m::qmE es (m+(qnR e:Nat))
def qnC:L->Nat
 | .int _ _=>1
 | .bool _=>1
 | .str _=>1
 | .sl es=>qnE es
 | .void=>0
def qnR:List L->Nat
 | []=>0
 | x::xs=>qnC x+qnR xs
def qnE:List (List L)->Nat
 | []=>0
 | e::es=>qnR e+qnE es
end
def qvC:L->Int->L
 | .sl es,m=>.sl (qmE es m)
 | x,_=>x
def qwC:L->Nat
 | .sl es=>qnE es
 | _=>0
def qvR:List L->Int->List L
 | [],_=>[]
 | x::j,m=>qvC x m::qvR j (m+(qwC x:Nat))
def qwR:List L->Nat
 | []=>0
 | x::j=>qwC x+qwR j
theorem ZaG:∀(xs:List L) (m:Int),(qmR xs m).length=xs.length
 | [],_=>by simp [qmR]
 | x::xs,m=>by simp [qmR,ZaG xs]
theorem KJ:∀(xs:List (List L)) (m:Int),(qmE xs m).length=xs.length
 | [],_=>by simp [qmE]
 | x::xs,m=>by simp [qmE,KJ xs]
theorem ZhF:∀(xs ys:List L),qnR (xs++ys)=qnR xs+qnR ys
 | [],ys=>by simp [qnR]
 | x::xs,ys=>by simp only [Hm,qnR,ZhF xs];omega
theorem ZhG:∀(xs ys:List (List L)),qnE (xs++ys)=qnE xs+qnE ys
 | [],ys=>by simp [qnE]
 | x::xs,ys=>by simp only [Hm,qnE,ZhG xs];omega
theorem ZhH:∀(xs ys:List L) (m:Int),qmR (xs++ys) m=qmR xs m++qmR ys (m+(qnR xs:Nat))
 | [],ys,m=>by simp [qmR,qnR]
 | x::xs,ys,m=>by
  simp only [Hm,qmR,qnR,ZhH xs];rw [show m+((qnC x+qnR xs:Nat):Int)=m+(qnC x:Nat)+(qnR xs:Nat) from WF]
theorem ZhI:∀(xs ys:List (List L)) (m:Int),qmE (xs++ys) m=qmE xs m++qmE ys (m+(qnE xs:Nat))
 | [],ys,m=>by simp [qmE,qnE]
 | x::xs,ys,m=>by
  simp only [Hm,qmE,qnE,ZhI xs];rw [show m+((qnR x+qnE xs:Nat):Int)=m+(qnR x:Nat)+(qnE xs:Nat) from WF]
def Zfn (e:List L) (m:Int) (i:Nat):List L:=qmR (e.take i) m++e.drop i
theorem Zti (e:List L) (m:Int) (i:Nat):(Zfn e m i).length=e.length:=by
 simp only [Zfn,Hp,ZaG,Hg,HR];omega
theorem ZrI (e:List L) (m:Int):Zfn e m 0=e:=by simp [Zfn,qmR]
theorem ZnU (e:List L) (m:Int):Zfn e m e.length=qmR e m:=by simp [Zfn]
theorem Zvd {e:List L} {m:Int} {i:Nat} {x:L} (h:e[i]? =some x):(Zfn e m i)[i]? =some x:=by
 have j:=(Hh.1 h).1;unfold Zfn;rw [Ge (by rw [ZaG,Hg];omega),ZaG,Hg,Hw WF,Gz,GP]
 simpa using h
theorem ZrJ {e:List L} {m:Int} {i:Nat} {x:L} (h:e[i]? =some x):(Zfn e m i).set i (qmC x (m+(qnR (e.take i):Nat)))=Zfn e m (i+1):=by
 obtain ⟨j,k⟩:=Hh.1 h;unfold Zfn;rw [GS _ _ (by rw [ZaG,Hg];omega),ZaG,Hg,Hw WF,Gz,Ho j,List.set_cons_zero,Gm j,ZhH,k];simp [qmR]
theorem ZqD {e:List L} {i:Nat} {x:L} (h:e[i]? =some x):qnR (e.take (i+1))=qnR (e.take i)+qnC x:=by
 obtain ⟨j,k⟩:=Hh.1 h;rw [Gm j,ZhF,k];simp [qnR]
theorem Zwr (e:List L) (i:Nat):qnR (e.take i)<=qnR e:=by
 have:=ZhF (e.take i) (e.drop i);rw [Hn] at this;omega
theorem Zjb {es:List (List L)} {j:Nat} {e:List L} (h:es[j]? =some e):qnE (es.take (j+1))=qnE (es.take j)+qnR e:=by
 obtain ⟨k,l⟩:=Hh.1 h;rw [Gm k,ZhG,l];simp [qnE]
theorem ZqE (e:List (List L)) (i:Nat):qnE (e.take i)<=qnE e:=by
 have:=ZhG (e.take i) (e.drop i);rw [Hn] at this;omega
def ZnW (es:List (List L)) (k:Int) (j:Nat) (e:List L) (i:Nat):List (List L):=qmE (es.take j) k++Zfn e (k+(qnE (es.take j):Nat)) i::es.drop (j+1)
def ZkR (es:List (List L)) (k:Int) (j:Nat):List (List L):=qmE (es.take j) k++es.drop j
theorem ZnT {es:List (List L)} {k:Int} {j:Nat} {e:List L} (h:es[j]? =some e):ZkR es k j=ZnW es k j e 0:=by
 obtain ⟨l,m⟩:=Hh.1 h;unfold ZkR ZnW;rw [ZrI,Ho l,m]
theorem ZnV {es:List (List L)} {k:Int} {j:Nat} {e:List L} (h:es[j]? =some e):ZnW es k j e e.length=ZkR es k (j+1):=by
 obtain ⟨l,m⟩:=Hh.1 h;unfold ZkR ZnW;rw [ZnU,Gm l,ZhI,m];simp [qmE]
theorem Ztg (es:List (List L)) (k:Int):ZkR es k es.length=qmE es k:=by simp [ZkR]
theorem Ztj (es:List (List L)) (k:Int) {j:Nat} (e:List L) (i:Nat) (hj:j<es.length):(ZnW es k j e i)[j]? =some (Zfn e (k+(qnE (es.take j):Nat)) i):=by
 unfold ZnW;rw [Ge (by rw [KJ,Hg];omega),KJ,Hg,Hw WF,Gz];rfl
theorem Zve (es:List (List L)) (k:Int) {j:Nat} (e:List L) (i l:Nat) (hj:j<es.length):(ZnW es k j e i).set j (Zfn e (k+(qnE (es.take j):Nat)) l)=ZnW es k j e l:=by
 unfold ZnW;rw [GS _ _ (by rw [KJ,Hg];omega),KJ,Hg,Hw WF,Gz,List.set_cons_zero]
section
variable {w w' w0:World}
theorem RpL.Zz4:∀{xs:List L} {vs:List Value} {F:List Nat} {i:Nat} {x:L},RpL w xs vs F->xs[i]? =some x->
  ∃u k s j,F=k++(s++j)/\vs[i]? =some u/\Rp w x u s/\∀(w':World) (r:L) (m:Value) (l:List Nat),Rp w' r m l->Sm w w' (k++j)->RpL w' (xs.set i r) (vs.set i m) (k++(l++j))
 | [],_,_,_,_,_,p=>by simp at p
 | y::xs,_,_,0,_,h,p=>by
  simp only [RpL] at h;obtain ⟨v,o,k,j,rfl,rfl,A,B⟩:=h;obtain rfl:y=_:=by simpa using p
  refine ⟨v,[],k,j,rfl,rfl,A,λw' r m l t z=> ?_⟩;simp only [List.set_cons_zero,RpL];exact ⟨m,o,l,j,rfl,rfl,t,B.keep z⟩
 | y::xs,_,_,i+1,_,h,p=>by
  simp only [RpL] at h;obtain ⟨I,o,F0,J,rfl,rfl,A,B⟩:=h;obtain ⟨u,k,s,j,rfl,t,z,E⟩:=B.Zz4 (i:=i) (by simpa using p);refine ⟨u,F0++k,s,j,Ha,by simpa using t,z,λw' r m l G C=> ?_⟩;simp only [List.set_cons_succ,RpL];rw [Hx] at C;exact ⟨I,o.set i m,F0,k++(l++j),rfl,Ha,A.keep C.left,E w' r m l G C.right⟩
theorem RpE.Zz4 {es:List (List L)} {vs:List Value} {F:List Nat} (h:RpE w es vs F) {W j i:Nat} {el:List L} {x:L} (S:∀e∈es,e.length=W) (hj:es[j]? =some el) (hi:el[i]? =some x):
  ∃u k C z,F=k++(C++z)/\vs[j*W+i]? =some u/\Rp w x u C/\∀(w':World) (p:L) (E:Value) (m:List Nat),Rp w' p E m->Sm w w' (k++z)->RpE w' (es.set j (el.set i p)) (vs.set (j*W+i) E) (k++(m++z)):=by
 obtain ⟨I,T⟩:=Hh.1 hj;have G:es=es.take j++el::es.drop (j+1):=by rw [<-T,List.getElem_cons_drop,Hn]
 rw [G] at h;obtain ⟨J,v2,k,z,rfl,rfl,M,O⟩:=h.split;simp only [RpE] at O;obtain ⟨ve,v3,Fe,r,rfl,rfl,Q,R⟩:=O
 have l1:J.length=j*W:=by
  rw [M.len,ZT (W:=W) (λx U=>S x (HP U)),Hg,Hw WF]
 obtain ⟨u,A,C,B,rfl,P,X,Y⟩:=Q.Zz4 hi;have s:=(Hh.1 P).1;refine ⟨u,k++A,C,B++r,Ha, ?_,X,λw' p E m Z o=> ?_⟩
 ·rw [Ge WF,show j*W+i-J.length=i from WF,Gq s];exact P
 ·have q3:Sm w w' k:=⟨o.1,λb l=>o.2 b (by simp [l])⟩;have q4:Sm w w' (A++B):=⟨o.1,λb l=>o.2 b (by rcases He.1 l with l| l<;>simp [l])⟩;have q5:Sm w w' r:=⟨o.1,λb l=>o.2 b (by simp [l])⟩
  have t:es.set j (el.set i p)=es.take j++el.set i p::es.drop (j+1):=by
   rw [GY,if_pos I]
  rw [t,show k++A++(m++(B++r))=k++((A++(m++B))++r) from Ha,GS _ _ WF,show j*W+i-J.length=i from WF,List.set_append_left _ _ s];refine RpE.append (M.keep q3) ?_;simp only [RpE];exact ⟨_,v3,_,r,rfl,rfl,Y w' p E m Z q4,R.keep q5⟩
theorem Chg.refl (F:List Nat) (w:World):Chg F w w:=⟨rfl,rfl,rfl,ZEN _,λ_ _ _=>rfl⟩
theorem Chg.trans {F:List Nat} (h:Chg F w0 w) (k:Chg F w w'):Chg F w0 w':=
 ⟨k.os.trans h.os,k.tape.trans h.tape,k.output.trans h.output,HA h.size k.size,λb l j=>(k.block b (HM l h.size) j).trans (h.block b l j)⟩
theorem Chg.sub {F G:List Nat} (h:Chg F w w') (m:∀b∈F,b∈G):Chg G w w':=⟨h.os,h.tape,h.output,h.size,λb l k=>h.block b l λj=>k (m b j)⟩
theorem Chg.set {F:List Nat} (w:World) {p:Addr} (hp:p.block∈F) (u:Value):Chg F w (w.setCell p u):=
 ⟨rfl,rfl,rfl,by simp [World.setCell],λb _ j=>Below.heap_setCell _ _ _ _ (λe=>j (e▸hp))⟩
theorem Chg.below {F:List Nat} (h:Below w.heap.size w w'):Chg F w w':=⟨h.os,h.tape,h.output,h.size,λb j _=>h.block b j⟩
theorem XT.set {b:Nat} (k:XT w b) (p:Addr) (u:Value):XT (w.setCell p u) b:=by
 obtain ⟨j,t,e⟩:=k
 by_cases l:b=p.block
 ·subst l
  by_cases m:p.spot.isSome=true
  ·exact ⟨j,t,by simp [World.setCell,Array.getElem?_modify,e,m]⟩
  ·exact ⟨j.setIfInBounds p.off u,t,by simp [World.setCell,Array.getElem?_modify,e,m]⟩
 ·exact ⟨j,t,(Below.heap_setCell _ _ _ _ l).trans e⟩
theorem XT.chg {F:List Nat} {b:Nat} (k:XT w b) (h:Chg F w w') (l:b∉F):XT w' b:=by
 obtain ⟨j,t,e⟩:=k;exact ⟨j,t,(h.block b (GX.1 e).1 l).trans e⟩
theorem Chg.sm {F G:List Nat} (h:Chg F w w') (hl:∀b∈G,b<w.heap.size) (k:∀b∈G,b∉F):Sm w w' G:=⟨h.size,λb j=>h.block b (hl b j) (k b j)⟩
def WR (w0:World) (E:List (List L)) (v:Value) (F:List Nat) (w:World):Prop:=Rp w (.sl E) v F/\(∀q∈F,XT w q)/\Chg F w0 w
theorem WR.below {E:List (List L)} {v:Value} {F:List Nat} (h:WR w0 E v F w) (j:Below w.heap.size w w'):WR w0 E v F w':=
 ⟨h.1.keep ⟨j.size,λb l=>j.block b (h.1.lt b l)⟩,λq hq=>by
  obtain ⟨k,t,e⟩:=h.2.1 q hq;exact ⟨k,t,(j.block q (h.1.lt q hq)).trans e⟩,h.2.2.trans (Chg.below j)⟩
theorem WR.cell {E:List (List L)} {A:Option Addr} {n c:Nat} {F:List Nat} (h:WR w0 E (.slice A n c) F w) (hn:F.Nodup) {W j i:Nat} {el:List L} {x:L} (hW:∀e∈E,e.length=W) (hj:E[j]? =some el) (hi:el[i]? =some x):
  ∃b off u k,A=some ⟨b,off,none⟩/\w.cell? ⟨b,off+(j*W+i),none⟩=some u/\w.frozen? ⟨b,off+(j*W+i),none⟩=false/\Rp w x u k/\k.Nodup/\b∉k/\(∀q∈k,XT w q)/\
   (∀(p:L) (r:Value),k=[]->(∀w',Rp w' p r [])->WR w0 (E.set j (el.set i p)) (.slice A n c) F (w.setCell ⟨b,off+(j*W+i),none⟩ r))/\
   (∀(w':World) (p:L),Rp w' p u k->(∀q∈k,XT w' q)->Chg k w w'->WR w0 (E.set j (el.set i p)) (.slice A n c) F w'):=by
 obtain ⟨Q,G,h3⟩:=h;have U:=Q.lt;simp only [Rp] at Q;obtain ⟨A',c',e1,e2,e3,e4⟩:=Q;injection e1 with a1 a2 a3
 subst a1 a2 a3;rcases e4 with ⟨rfl,_⟩| ⟨b,off,xs,Fs,rfl,O,rfl,P,g3⟩
 ·simp at hj
 obtain ⟨u,s,k,B,rfl,Z,k2,k3⟩:=g3.Zz4 hW hj hi;obtain ⟨n1,n2⟩:=Gf.1 hn;obtain ⟨n3,n4,n5⟩:=HZ.1 n2;obtain ⟨n6,n7,n8⟩:=HZ.1 n4;have o:=P _ _ Z
 have R:∀q∈s++B,q∉k:=λq hq I=>by
  rcases He.1 hq with hq| hq
  ·exact n5 q hq q (HW _ I) rfl
  ·exact n8 q I q hq rfl
 have S:b∉s++B:=λl=>n1 (by rcases He.1 l with l| l<;>simp [l]);obtain ⟨M,t,ec⟩:=G b Ha;refine ⟨b,off,u,k,rfl,o,frozen_of_row w b _ M t ec,k2,n6,λl=>n1 (by simp [l]),λq hq=>G q (by simp [hq]),λp r I X=> ?_,λw' p X hp C=> ?_⟩
 ·subst I;have Y:Sm w (w.setCell ⟨b,off+(j*W+i),none⟩ r) (s++B):=⟨by simp [World.setCell],λq hq=>Below.heap_setCell _ _ _ _ λe=>S (by rw [<-show q=b from e];exact hq)⟩;refine ⟨?_,λq hq=>(G q hq).set _ _,h3.trans (Chg.set w Ha r)⟩;simp only [Rp,Gy];refine ⟨_,_,rfl,e2,e3,.inr ⟨b,off,xs.set (j*W+i) r,s++([]++B),rfl,by simpa [World.setCell] using O,rfl,λm z J=> ?_,k3 _ p r [] (X _) Y⟩⟩
  by_cases l:m=j*W+i
  ·subst l;rw [List.getElem?_set_self (Hh.1 Z).1] at J;obtain rfl:=ZEI J;exact World.cell?_setCell_same w ⟨b,off+(j*W+i),none⟩ _ o
  ·rw [List.getElem?_set_ne (λe=>l e.symm)] at J;rw [World.cell?_setCell_other _ _ _ _ (λe=>by injection e with _ e;omega)];exact P m z J
 ·have T:b∉k:=λl=>n1 (by simp [l]);refine ⟨?_,λq hq=> ?_,h3.trans (C.sub λq hq=>by simp [hq])⟩
  ·simp only [Rp,Gy];refine ⟨_,_,rfl,e2,e3,.inr ⟨b,off,xs,s++(k++B),rfl,HM O C.size,rfl,P.keep (C.block b O T), ?_⟩⟩;have:=k3 w' p u k X (C.sm (λq hq=>U q (by rcases He.1 hq with hq| hq<;>simp [hq])) R);obtain ⟨hl,he⟩:=Hh.1 Z;rw [<-he,List.set_getElem_self] at this;exact this
  ·by_cases l:q∈k
   ·exact hp q l
   ·exact (G q hq).chg C l
end
end Go.Proofs.YtmcfegjoccgpoaaGreatDoor.Am
