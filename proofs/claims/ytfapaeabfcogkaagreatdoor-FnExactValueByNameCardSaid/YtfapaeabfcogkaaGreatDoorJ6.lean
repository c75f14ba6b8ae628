import Derived.Test.YtfapaeabfcogkaaGreatDoorJ4
set_option linter.unusedSimpArgs false
set_option linter.unusedVariables false
namespace Go.Proofs.YtfapaeabfcogkaaGreatDoor.Am
open Go.RowKit
def Zhp (n:Nat) (us:List Value):Act:={ tmps:=us.toArray++Array.replicate (n-us.toArray.size) undef,defers:=[]}
def Zef:Nat→List V→List (Nat×V)
 | _,[]=>[]
 | i,v::vs=>(i,v)::Zef (i+1) vs
def GC (P:Program) (f n:Nat) (vs:List V) (bx:List (Nat×List CV)) (ar:List (Nat×Option Arr)) (r:V) (bo:List (Nat×List CV)) (ao:List (Nat×Option Arr)):Prop:=
 W5 P f=true∧vs.length≤n∧∀(N:Nat→Prop) (w0:Bs) (e:Env) (us:List Value) (w:World),us.length=vs.length→Bok N w0→ZN N w0 e ⟨n,Zef 0 vs,bx,ar⟩ (Zhp n us) w→
  Calls P f us.toArray w fun ex w'=>∃e' u,ex= .returned u∧r.rel e' ⟨n,[],bo,ao⟩ w' u∧ZN N w0 e' ⟨n,[],bo,ao⟩ (Zhp n []) w'
theorem Zgi:∀{vs:List V} {i t:Nat} {v:V},(Zef i vs).lookup t=some v→∃j,t=i+j∧vs[j]? =some v
 | [],_,_,_,h=>by simp [Zef] at h
 | x::vs,i,t,v,h=>by
  simp only [Zef,lookup_cons] at h
  split at h
  ·rename_i ht;exact ⟨0,by omega,by simpa using h⟩
  ·obtain ⟨j,h1,h2⟩:=Zgi h
   exact ⟨j+1,by omega,by simpa using h2⟩
theorem Zm3 {n:Nat} {us:List Value} {j:Nat} {u:Value} (h:us[j]? =some u):(Zhp n us).tmps.getD j undef=u:=by
 have hj:=(List.getElem?_eq_some_iff.1 h).1
 simp only [Zhp]
 rw [Array.getD_eq_getD_getElem?,Array.getElem?_append_left (by simpa using hj)]
 simp [h]
def mtC (α β:Nat→Nat):CV→CV→Prop
 | .l x,.l y=>x=y
 | .l x,.kept _ y=>x=y
 | .l x,.nil=>x= .sl []
 | .nil,.nil=>True
 | .np,.np=>True
 | .adr xs,.adr ys=>xs=ys
 | .own i n,.own τ m=>α i=τ∧n=m∧τ<1000000
 | .own i n,.nil=>2000000≤α i∧n=0
 | .box i o,.box k o'=>β i=k∧o=o'
 | _,_=>False
def mtL (α β:Nat→Nat):List CV→List CV→Prop
 | [],[]=>True
 | c::cs,d::ds=>mtC α β c d∧mtL α β cs ds
 | _,_=>False
def mtV (α β:Nat→Nat):V→V→Prop
 | .one c,.one d=>mtC α β c d
 | .agg cs,.agg ds=>mtL α β cs ds
 | _,_=>False
def ZnL (α β:Nat→Nat):List V→List V→Prop
 | [],[]=>True
 | v::vs,u::us=>mtV α β v u∧ZnL α β vs us
 | _,_=>False
def rnC (γ β:Nat→Nat):CV→CV
 | .own i n=>.own (γ i) n
 | .box i o=>.box (β i) o
 | .l x=>.l x
 | .nil=>.nil
 | .np=>.np
 | .adr ls=>.adr ls
 | .kept _ x=>.l x
 | _=>.any
def clC (bx:List (Nat×List CV)) (ar:List (Nat×Option Arr)):CV→Prop
 | .own i _=>(ar.lookup i).isSome=true
 | .box i _=>(bx.lookup i).isSome=true
 | _=>True
def clO (bx:List (Nat×List CV)) (ar:List (Nat×Option Arr)):CV→Prop
 | .own i _=>∃A,ar.lookup i=some (some A)
 | .box i _=>(bx.lookup i).isSome=true
 | .l _| .nil| .np| .adr _| .kept _ _| .any=>True
 | _=>False
def clV (bx:List (Nat×List CV)) (ar:List (Nat×Option Arr)):V→Prop
 | .one c=>clC bx ar c
 | .agg cs=>∀c∈cs,clC bx ar c
 | _=>False
def rnV (γ β:Nat→Nat):V→V
 | .one c=>.one (rnC γ β c)
 | .agg cs=>.agg (cs.map (rnC γ β))
 | .tup ps=>.tup (ps.map fun p=>(p.1,p.2.map (rnC γ β)))
 | .dead=>.dead
def Zsd (bo:List (Nat×List CV)) (ao:List (Nat×Option Arr)):V→Prop
 | .one c=>clO bo ao c
 | .agg cs=>∀c∈cs,clO bo ao c
 | .tup ps=>∀p∈ps,∀c∈p.2,clO bo ao c
 | .dead=>True
structure GM (σ:St) (n:Nat) (α β γ:Nat→Nat) (bx:List (Nat×List CV)) (ar:List (Nat×Option Arr)) (bo:List (Nat×List CV)) (ao:List (Nat×Option Arr)):Prop where
 b1:∀i cs,bx.lookup i=some cs→n≤i∧∃ds,σ.bx.lookup (β i)=some ds∧mtL α β cs ds
 b2:∀i cs j ds,bo.lookup i=some cs→bo.lookup j=some ds→β i=β j→i=j
 a1:∀i A,ar.lookup i=some A→i<1000000∧((α i<1000000∧∃C,(∃B,A=some B∧B.fr=false∧B.es=C.es)∧σ.ar.lookup (α i)=some (some C))∨(2000000≤α i∧A=some ⟨false,[]⟩∧(σ.ar.lookup (α i)=none∨σ.ar.lookup (α i)=some none)))
 a2:∀i A j B,ar.lookup i=some A→ar.lookup j=some B→α i=α j→i=j
 c1:∀i cs,bo.lookup i=some cs→(∃cs',bx.lookup i=some cs')∨(i<n∧σ.bx.lookup (β i)=none∧β i<σ.nt)
 c2:∀i cs,bx.lookup i=some cs→∃cs',bo.lookup i=some cs'
 d1:∀i A,ao.lookup i=some (some A)→i<1000000∧γ i<1000000∧σ.ar.lookup (γ i)=none
 d2:∀i A j B,ao.lookup i=some (some A)→ao.lookup j=some (some B)→γ i=γ j→i=j
 e1:∀i cs,bx.lookup i=some cs→∀c∈cs,clC bx ar c
 e2:∀i cs,bo.lookup i=some cs→∀c∈cs,clO bo ao c
mutual
theorem Ow.within {N M:Nat→Prop} {w:World}:∀{x:L} {v:Value} {F:List Nat},Ow N w x v F→(∀b∈F,M b)→Ow M w x v F
 | .int _ _,_,_,h,_=>by simp only [Ow] at h ⊢;exact h
 | .bool _,_,_,h,_=>by simp only [Ow] at h ⊢;exact h
 | .str _,_,_,h,_=>by simp only [Ow] at h ⊢;exact h
 | .void,_,_,h,_=>by simp only [Ow] at h ⊢;exact h
 | .sl _,_,_,h,hm=>by
  simp only [Ow] at h ⊢
  obtain ⟨A,c,h1,h2,h4⟩:=h
  refine ⟨A,c,h1,h2, ?_⟩
  rcases h4 with h4| ⟨b,t,cur,Fs,W,e1,e2,e3,e4,e5,e6,e7,rfl,e9⟩
  ·exact .inl h4
  ·exact .inr ⟨b,t,cur,Fs,W,e1,hm _ (by simp),e3,e4,e5,e6,e7,rfl,OwE.within e9 fun x hx=>hm x (by simp [hx])⟩
theorem OwL.within {N M:Nat→Prop} {w:World}:∀{xs:List L} {vs:List Value} {F:List Nat},OwL N w xs vs F→(∀b∈F,M b)→OwL M w xs vs F
 | [],_,_,h,_=>by simp only [OwL] at h ⊢;exact h
 | _::_,_,_,h,hm=>by
  simp only [OwL] at h ⊢
  obtain ⟨v,vs',F1,F2,h0,rfl,h1,h2⟩:=h
  exact ⟨v,vs',F1,F2,h0,rfl,Ow.within h1 fun x hx=>hm x (by simp [hx]),OwL.within h2 fun x hx=>hm x (by simp [hx])⟩
theorem OwE.within {N M:Nat→Prop} {w:World}:∀{es:List (List L)} {vs:List Value} {F:List Nat},OwE N w es vs F→(∀b∈F,M b)→OwE M w es vs F
 | [],_,_,h,_=>by simp only [OwE] at h ⊢;exact h
 | _::_,_,_,h,hm=>by
  simp only [OwE] at h ⊢
  obtain ⟨v1,v2,F1,F2,h0,rfl,h1,h2⟩:=h
  exact ⟨v1,v2,F1,F2,h0,rfl,OwL.within h1 fun x hx=>hm x (by simp [hx]),OwE.within h2 fun x hx=>hm x (by simp [hx])⟩
end
section
variable {e:Env} {σ:St} {w:World} {N:Nat→Prop} {w0:Bs} {a:Act} {P:Program}
variable {n:Nat} {α β γ:Nat→Nat} {bx bo:List (Nat×List CV)} {ar ao:List (Nat×Option Arr)}
def ob (v:Value):List Nat:=match v.ownBlock with
 | some b=>[b]
 | none=>[]
theorem ZoE {v:Value} {b:Nat}:b∈ob v↔v.ownBlock=some b:=by
 unfold ob
 cases v.ownBlock<;>simp [eq_comm]
def rh (e:Env) (τ:Nat):Value:=if 2000000≤τ then .slice none 0 0 else e.ρ τ
def Zlk (e:Env) (α β:Nat→Nat) (bx:List (Nat×List CV)) (ar:List (Nat×Option Arr)) (b:Nat):Prop:=
 (∃i cs,bx.lookup i=some cs∧b=e.β (β i))∨∃i A,ar.lookup i=some A∧(rh e (α i)).ownBlock=some b
def Zqt (e:Env) (α β:Nat→Nat) (bx:List (Nat×List CV)) (ar:List (Nat×Option Arr)) (b:Nat):Prop:=Zlk e α β bx ar b
def ZlP (e:Env) (σ:St) (α β:Nat→Nat) (bx:List (Nat×List CV)) (ar:List (Nat×Option Arr)):Env:=
 ⟨fun i=>e.β (β i),fun i=>rh e (α i),fun i=>ob (rh e (α i)),fun b=>Mut e σ b∧¬Zlk e α β bx ar b⟩
def bsG (e:Env) (σ:St) (w:World) (α β:Nat→Nat) (bx:List (Nat×List CV)) (ar:List (Nat×Option Arr)):Bs:=
 ⟨w,fun b=>Mut e σ b∧¬Zlk e α β bx ar b,fun i=>e.β (β i),fun b=>w.heap.size≤b∨Zqt e α β bx ar b⟩
theorem GM.got (g:GM σ n α β γ bx ar bo ao) {i b:Nat} {A:Option Arr} (hA:ar.lookup i=some A) (hb:(rh e (α i)).ownBlock=some b):α i<1000000∧(e.ρ (α i)).ownBlock=some b∧∃C,σ.ar.lookup (α i)=some (some C):=by
 rcases (g.a1 i A hA).2 with ⟨h1,C,_,h2⟩| ⟨h1,_⟩
 ·rw [rh,if_neg (by omega)] at hb
  exact ⟨h1,hb,C,h2⟩
 ·rw [rh,if_pos h1] at hb
  simp [Value.ownBlock] at hb
theorem GM.mut (g:GM σ n α β γ bx ar bo ao) (h:ZN N w0 e σ a w) {tm:List (Nat×V)} {b:Nat} (hm:Mut (ZlP e σ α β bx ar) ⟨n,tm,bx,ar⟩ b):Mut e σ b:=by
 rcases hm with h0| ⟨i,cs,h1,h2⟩| ⟨i,A,h1,h2⟩
 ·exact h0.1
 ·obtain ⟨_,ds,h3,_⟩:=g.b1 i cs h1
  exact .inr (.inl ⟨_,ds,h3,h2⟩)
 ·obtain ⟨_,h4,B,h3⟩:=g.got h1 h2
  exact .inr (.inr ⟨_,B,h3,h4⟩)
theorem GM.rel (g:GM σ n α β γ bx ar bo ao) (h:ZN N w0 e σ a w) {tm:List (Nat×V)} {c d:CV} {v:Value} (hr:d.rel e σ w v) (hc:mtC α β c d)
  (hA:∀i m,c= .own i m→∃A,ar.lookup i=some A) (hB:∀i m,c= .box i m→∃cs,bx.lookup i=some cs):c.rel (ZlP e σ α β bx ar) ⟨n,tm,bx,ar⟩ w v:=by
 unfold mtC at hc
 split at hc
 ·subst hc
  obtain ⟨F,h1,h2⟩:=hr
  exact ⟨F,h1,fun b hb hm=>h2 b hb (g.mut h hm)⟩
 ·subst hc
  obtain ⟨_,F,h1,h2⟩:=hr
  exact ⟨F,h1,fun b hb hm=>h2 b hb (g.mut h hm)⟩
 ·subst hc
  have hv:v= .slice none 0 0:=hr
  subst hv
  refine ⟨[], ?_,by simp⟩
  simp only [Rp];exact ⟨none,0,rfl,Nat.le_refl _,by omega,.inl (by simp)⟩
 ·exact hr
 ·exact hr
 ·subst hc
  obtain ⟨b,off,vs,F,h1,h2,h3,h4,h5,h6⟩:=hr
  exact ⟨b,off,vs,F,h1,h2,h3,h4,fun hm=>h5 (g.mut h hm),fun x hx hm=>h6 x hx (g.mut h hm)⟩
 ·rename_i i n' τ m
  obtain ⟨rfl,rfl,hlt⟩:=hc
  obtain ⟨A,hA'⟩:=hA i _ rfl
  rcases (g.a1 i A hA').2 with ⟨_,C,⟨B,rfl,_,hes⟩,h3⟩| ⟨h1,_⟩
  ·obtain ⟨A2,k1,k2,k3⟩:=hr
   rw [h3] at k1
   obtain rfl:=Option.some.inj k1
   refine ⟨_,hA',fun B' hB'=> ?_,k3⟩
   obtain rfl:=Option.some.inj hB'
   show n'≤B.es.length∧(B.es.length=n'→v=rh e (α i))
   rw [hes,rh,if_neg (by omega)]
   exact k2 C rfl
  ·omega
 ·rename_i i n'
  obtain ⟨h1,rfl⟩:=hc
  have hv:v= .slice none 0 0:=hr
  subst hv
  obtain ⟨A,hA'⟩:=hA i _ rfl
  rcases (g.a1 i A hA').2 with ⟨h2,_⟩| ⟨_,rfl,_⟩
  ·omega
  ·refine ⟨_,hA',fun B hB=> ?_,none,0,rfl,by omega⟩
   obtain rfl:=Option.some.inj hB
   refine ⟨Nat.le_refl _,fun _=> ?_⟩
   show _=rh e (α i)
   rw [rh,if_pos h1]
 ·rename_i i o k o'
  obtain ⟨rfl,rfl⟩:=hc
  obtain ⟨cs,hcs⟩:=hB i _ rfl
  exact ⟨⟨cs,hcs⟩,hr.2⟩
 ·exact hc.elim
theorem GM.Yk (g:GM σ n α β γ bx ar bo ao) (h:ZN N w0 e σ a w) {tm:List (Nat×V)}:∀{cs ds:List CV} {vs:List Value},Am.Yk e σ w ds vs→mtL α β cs ds→(∀c∈cs,clC bx ar c)→Am.Yk (ZlP e σ α β bx ar) ⟨n,tm,bx,ar⟩ w cs vs
 | [],[],_,hr,_,_=>hr
 | [],_::_,_,_,hc,_=>by simp [mtL] at hc
 | _::_,[],_,_,hc,_=>by simp [mtL] at hc
 | c::cs,d::ds,vs,hr,hc,hcl=>by
  simp only [Am.Yk] at hr ⊢
  obtain ⟨v,vs',h0,h1,h2⟩:=hr
  simp only [mtL] at hc
  refine ⟨v,vs',h0,g.rel h h1 hc.1 (fun i m e'=> ?_) (fun i m e'=> ?_),g.Yk h h2 hc.2 fun c hc=>hcl c (List.mem_cons_of_mem _ hc)⟩
  ·have:=hcl c (by simp);rw [e'] at this;exact Option.isSome_iff_exists.1 this
  ·have:=hcl c (by simp);rw [e'] at this;exact Option.isSome_iff_exists.1 this
theorem ZgW:∀{vs us:List V},ZnL α β vs us→vs.length=us.length∧∀(j:Nat) (v:V),vs[j]? =some v→∃u,us[j]? =some u∧mtV α β v u
 | [],[],_=>⟨rfl,by simp⟩
 | [],_::_,h=>by simp [ZnL] at h
 | _::_,[],h=>by simp [ZnL] at h
 | v::vs,u::us,h=>by
  simp only [ZnL] at h
  obtain ⟨h1,h2⟩:=ZgW h.2
  refine ⟨by simp [h1],fun j x hx=> ?_⟩
  cases j with
  | zero=>simp at hx;subst hx;exact ⟨u,by simp,h.1⟩
  | succ j=>obtain ⟨y,k1,k2⟩:=h2 j x (by simpa using hx);exact ⟨y,by simpa using k1,k2⟩
theorem GM.ZsQ (g:GM σ n α β γ bx ar bo ao) (h:ZN N w0 e σ a w) {tm:List (Nat×V)} {x y:V} {v:Value} (hr:y.rel e σ w v) (hc:mtV α β x y) (hcl:clV bx ar x):x.rel (ZlP e σ α β bx ar) ⟨n,tm,bx,ar⟩ w v:=by
 cases x<;>cases y<;>simp only [mtV] at hc
 ·exact g.rel h hr hc (fun i m e'=>by rw [e'] at hcl;exact Option.isSome_iff_exists.1 hcl) (fun i m e'=>by rw [e'] at hcl;exact Option.isSome_iff_exists.1 hcl)
 ·obtain ⟨vs,h0,h1⟩:=hr
  exact ⟨vs,h0,g.Yk h h1 hc hcl⟩
theorem GM.enter (g:GM σ n α β γ bx ar bo ao) (h:ZN N w0 e σ a w) {us:List Value} {vs vs':List V} (hl:us.length=vs'.length) (hv:∀(j:Nat) (v:V),vs'[j]? =some v→∃u,us[j]? =some u∧v.rel e σ w u) (hm:ZnL α β vs vs') (hcl:∀v∈vs,clV bx ar v) (hn:vs.length≤n):
  ZN (fun b=>w.heap.size≤b∨Zlk e α β bx ar b) (bsG e σ w α β bx ar) (ZlP e σ α β bx ar) ⟨n,Zef 0 vs,bx,ar⟩ (Zhp n us) w:=by
 obtain ⟨hl2,hm2⟩:=ZgW hm
 have key:∀κ,live ⟨n,Zef 0 vs,bx,ar⟩ κ→(∀b,tpB (ZlP e σ α β bx ar) κ b→Zqt e α β bx ar b)∧(∀b∈blk (ZlP e σ α β bx ar) κ,Zlk e α β bx ar b)∧¬ZfT κ:=by
  intro κ hk
  cases κ with
  | b i=>
   obtain ⟨cs,hcs⟩:=hk
   exact ⟨fun b hb=>.inl ⟨i,cs,hcs,hb⟩,fun b hb=>.inl ⟨i,cs,hcs,by simpa [blk,ZlP] using hb⟩,fun hd=>hd.elim⟩
  | a i=>
   obtain ⟨A,hA⟩:=hk
   have h1:=(g.a1 i _ hA).1
   refine ⟨fun b hb=>.inr ⟨i,_,hA, ?_⟩,fun b hb=>.inr ⟨i,_,hA,ZoE.1 hb⟩,fun hd=>by have:1000000≤i:=hd;omega⟩
   rcases hb with hb| ⟨hb,_⟩
   ·exact hb
   ·omega
 have key2:∀κ b,live ⟨n,Zef 0 vs,bx,ar⟩ κ→b∈blk (ZlP e σ α β bx ar) κ→∃κ0,live σ κ0∧b∈blk e κ0∧((∃i,κ= .b i∧κ0= .b (β i))∨∃i,κ= .a i∧κ0= .a (α i)):=by
  intro κ b hk hb
  cases κ with
  | b i=>
   obtain ⟨cs,hcs⟩:=hk
   obtain ⟨_,ds,h3,_⟩:=g.b1 i cs hcs
   exact ⟨.b (β i),⟨ds,h3⟩,hb,.inl ⟨i,rfl,rfl⟩⟩
  | a i=>
   obtain ⟨A,hA⟩:=hk
   obtain ⟨_,h4,C,h3⟩:=g.got hA (ZoE.1 hb)
   exact ⟨.a (α i),⟨C,h3⟩,((h.ar _ C h3).own h4).1,.inr ⟨i,rfl,rfl⟩⟩
 have tG:∀b,Zqt e α β bx ar b→w0.tch b:=by
  rintro b (⟨i,cs,h1,rfl⟩| ⟨i,A,h1,h2⟩)
  ·obtain ⟨_,ds,h3,_⟩:=g.b1 i cs h1
   exact h.tp (.b (β i)) _ ⟨ds,h3⟩ rfl
  ·obtain ⟨_,h4,B,h3⟩:=g.got h1 h2
   exact h.tp (.a (α i)) b ⟨B,h3⟩ (.inl h4)
 refine ⟨by simp [Zhp];omega,rfl,fun t x ht=> ?_,fun i cs hi=> ?_,fun i A hA=> ?_,fun κ κ' hk hk' hne=> ?_,⟨?_,rfl,rfl,rfl,Nat.le_refl _,fun _ _ _=>rfl,fun b hb=>.inl hb⟩,⟨fun _ h=>h,fun b hb=>⟨?_,fun κ hk hbk=> ?_⟩⟩,fun κ hk hd=> ?_,fun _ _ _ _=>rfl,fun b hb=> ?_,fun κ b hk hb=> ?_⟩
 ·obtain ⟨j,rfl,hj⟩:=Zgi ht
  obtain ⟨y,h1,h2⟩:=hm2 j x hj
  obtain ⟨u,h3,h4⟩:=hv j y h1
  rw [Nat.zero_add,Zm3 h3]
  exact g.ZsQ h h4 h2 (hcl x (List.mem_of_getElem? hj))
 ·obtain ⟨_,ds,h3,h4⟩:=g.b1 i cs hi
  obtain ⟨_,cur,ty,k2,k3⟩:=h.bx _ ds h3
  exact ⟨.inr (.inl ⟨i,cs,hi,rfl⟩),cur,ty,k2,g.Yk h k3 h4 (g.e1 i cs hi)⟩
 ·rcases (g.a1 i _ hA).2 with ⟨hlt,C,⟨B,hB,hf,hes⟩,h3⟩| ⟨h1,hB,_⟩
  ·skip
   obtain rfl:=Option.some.inj hB
   obtain ⟨f,es⟩:=A
   simp only at hf hes
   subst hf hes
   obtain ⟨p,c,hvv,hc,h4| ⟨b,t,cur,Fs,W,rfl,q2,q3,q4,q5,q6,q7,q8⟩⟩:=h.ar _ C h3
   ·exact ⟨p,c,(show rh e (α i)=e.ρ (α i) from if_neg (by omega)).trans hvv,hc,.inl ⟨h4.1,h4.2.1,h4.2.2.1,by simp [ZlP,ob,rh,show ¬2000000≤α i by omega,hvv,h4.2.1,Value.ownBlock]⟩⟩
   ·have ho:(e.ρ (α i)).ownBlock=some b:=by rw [hvv];rfl
    have hr:rh e (α i)=e.ρ (α i):=if_neg (by omega)
    refine ⟨_,c,hr.trans hvv,hc,.inr ⟨b,t,cur,Fs,W,rfl,.inr (.inr ⟨i,_,hA,by rw [hr];exact ho⟩),q3,q4,q5,q6,q7,.inr ⟨rfl,by simp [ZlP,ob,hr,ho], ?_⟩⟩⟩
    rcases q8 with ⟨g1,g2,g3,g4⟩| ⟨g1,g2,g3,g4⟩
    ·refine ⟨g4.rp,fun x hx hm=>h.inner h3 hlt (by simp [g2,hx]) ?_ (g.mut h hm)⟩
     rw [ho]
     intro e'
     obtain rfl:=Option.some.inj e'
     rw [g2] at g3
     exact (List.nodup_cons.1 g3).1 hx
    ·exact ⟨g3,fun x hx hm=>g4 x hx (g.mut h hm)⟩
  ·obtain rfl:=Option.some.inj hB
   have hr:rh e (α i)= .slice none 0 0:=if_pos h1
   exact ⟨none,0,hr,by omega,.inl ⟨rfl,rfl,rfl,by simp [ZlP,ob,hr,Value.ownBlock]⟩⟩
 ·intro b hb hb'
  obtain ⟨κ0,k1,k2,k6⟩:=key2 κ b hk hb
  obtain ⟨κ1,l1,l2,l6⟩:=key2 κ' b hk' hb'
  refine h.sep κ0 κ1 k1 l1 (fun heq=>hne ?_) b k2 l2
  rcases k6 with ⟨i,rfl,rfl⟩| ⟨i,rfl,rfl⟩<;>rcases l6 with ⟨j,rfl,rfl⟩| ⟨j,rfl,rfl⟩
  ·obtain ⟨cs,hcs⟩:=hk
   obtain ⟨ds,hds⟩:=hk'
   obtain ⟨cs',hcs'⟩:=g.c2 i cs hcs
   obtain ⟨ds',hds'⟩:=g.c2 j ds hds
   injection heq with heq
   rw [g.b2 i cs' j ds' hcs' hds' heq]
  ·cases heq
  ·cases heq
  ·obtain ⟨A,hA⟩:=hk
   obtain ⟨B,hB⟩:=hk'
   injection heq with heq
   rw [g.a2 i _ j _ hA hB heq]
 ·obtain ⟨G,hG,hn'⟩:=h.fr.glb
  refine ⟨G,hG,fun b hb hm=> ?_⟩
  rcases hm with hm| hm
  ·have:=hG.1 b hb;omega
  ·exact hn' b hb (tG b hm)
 ·rcases h.ZoC hb.1 with k| k
  ·exact (h.bad.2 b k).1
  ·exact k.1
 ·exact absurd ((key κ hk).2.1 b hbk) hb.2
 ·exact absurd hd (key κ hk).2.2
 ·rcases hb with hb| hb
  ·exact .inl hb
  ·exact .inr hb
 ·exact .inr ((key κ hk).1 b hb)
theorem Jo {B C:Type} (φ:Nat→Nat) (f:B→C):∀{l:List (Nat×B)},(∀i j,(l.lookup i).isSome=true→(l.lookup j).isSome=true→φ i=φ j→i=j)→∀{k:Nat} {c:C},(l.map fun p=>(φ p.1,f p.2)).lookup k=some c↔∃i x,l.lookup i=some x∧k=φ i∧c=f x
 | [],_,k,c=>by simp
 | (j,y)::l,inj,k,c=>by
  have inj':∀i j,(l.lookup i).isSome=true→(l.lookup j).isSome=true→φ i=φ j→i=j:=fun i i' hi hi' he=>inj i i' (by rw [lookup_cons];split<;>simp [*]) (by rw [lookup_cons];split<;>simp [*]) he
  have ih:=Jo (l:=l) φ f inj' (k:=k) (c:=c)
  simp only [List.map_cons,lookup_cons]
  by_cases hk:k=φ j
  ·rw [if_pos hk]
   refine ⟨fun h=>⟨j,y,by simp,hk,(Option.some.inj h).symm⟩, ?_⟩
   rintro ⟨i,x,h1,h2,rfl⟩
   have hij:i=j:=inj i j (by rw [lookup_cons,h1];rfl) (by rw [lookup_cons,if_pos rfl];rfl) (by rw [←h2,hk])
   rw [if_pos hij] at h1
   rw [Option.some.inj h1]
  ·rw [if_neg hk,ih]
   refine ⟨fun ⟨i,x,h1,h2,h3⟩=>⟨i,x,by rw [if_neg (fun e=>hk (by rw [h2,e]))];exact h1,h2,h3⟩,fun ⟨i,x,h1,h2,h3⟩=>⟨i,x,by rw [if_neg (fun e=>hk (by rw [h2,e]))] at h1;exact h1,h2,h3⟩⟩
theorem Un {B C:Type} (φ:Nat→Nat) (f:B→C) {l:List (Nat×B)} {k:Nat} (h:(l.map fun p=>(φ p.1,f p.2)).lookup k=none):∀i x,l.lookup i=some x→k≠φ i:=by
 induction l with
 | nil=>simp
 | cons p l ih=>
  obtain ⟨j,y⟩:=p
  simp only [List.map_cons,lookup_cons] at h
  split at h
  ·cases h
  ·rename_i hk
   intro i x hi
   rw [lookup_cons] at hi
   split at hi
   ·rename_i hij;rw [hij];exact hk
   ·exact ih h i x hi
theorem Jp {B:Type} (l r:List (Nat×B)) (k:Nat):(l++r).lookup k=match l.lookup k with | some x=>some x| none=>r.lookup k:=by
 induction l with
 | nil=>rfl
 | cons p l ih=>
  obtain ⟨j,y⟩:=p
  simp only [List.cons_append,lookup_cons]
  split
  ·rfl
  ·exact ih
def gT (γ β:Nat→Nat) (dst:Option Nat) (r:V):List (Nat×V):=
 match dst with
 | some d=>[(d,rnV γ β r)]
 | none=>[]
def ZfR (α β γ:Nat→Nat) (dst:Option Nat) (r:V) (bo:List (Nat×List CV)) (ao ar:List (Nat×Option Arr)):Eff:=
 ⟨True,gT γ β dst r,bo.map fun p=>(β p.1,p.2.map (rnC γ β)),(ao.map fun p=>(γ p.1,p.2))++ar.map fun p=>(α p.1,none)⟩
theorem GM.bok (g:GM σ n α β γ bx ar bo ao) (h:ZN N w0 e σ a w):Bok (fun b=>w.heap.size≤b∨Zlk e α β bx ar b) (bsG e σ w α β bx ar):=by
 refine ⟨fun b hb hn=> ?_,fun b hn=> ?_⟩
 ·rcases hn with hn| hn
  ·have:b<w.heap.size:=by
    rcases h.ZoC hb.1 with k| k
    ·exact (h.bad.2 b k).1
    ·exact k.1
   omega
  ·exact hb.2 hn
 ·exact hn
open Classical in
theorem GM.Ztb (g:GM σ n α β γ bx ar bo ao) (h:ZN N w0 e σ a w) {w':World} {e2:Env} {r:V} {u:Value} (h2:ZN (fun b=>w.heap.size≤b∨Zlk e α β bx ar b) (bsG e σ w α β bx ar) e2 ⟨n,[],bo,ao⟩ (Zhp n []) w') (hz:r.rel e2 ⟨n,[],bo,ao⟩ w' u)
  (hrc:Zsd bo ao r) (hao:∀i A,ao.lookup i=some A→∃B,A=some B) {dst:Option Nat} (hd:∀d,dst=some d→d<σ.nt):
  ∃e3,ZN N w0 e3 (σ.app (ZfR α β γ dst r bo ao ar)) (a.put dst u) w':=by
 let e3:Env:=⟨fun k=>if h:∃i cs,bo.lookup i=some cs∧β i=k then e2.β h.choose else e.β k,fun τ=>if h:∃i A,ao.lookup i=some (some A)∧γ i=τ then e2.ρ h.choose else e.ρ τ,fun τ=>if h:∃i A,ao.lookup i=some (some A)∧γ i=τ then e2.φ h.choose else e.φ τ,e.bad⟩
 obtain ⟨σ3,hσ3⟩:∃σ3,σ3=σ.app (ZfR α β γ dst r bo ao ar):=⟨_,rfl⟩
 have hβ:∀i cs,bo.lookup i=some cs→e3.β (β i)=e2.β i:=fun i cs hi=>by
  have hx:∃j cs,bo.lookup j=some cs∧β j=β i:=⟨i,cs,hi,rfl⟩
  show (if h:∃j cs,bo.lookup j=some cs∧β j=β i then e2.β h.choose else e.β (β i))=_
  rw [dif_pos hx]
  obtain ⟨cs',h1,h3⟩:=hx.choose_spec
  rw [g.b2 _ _ _ _ h1 hi h3]
 have hβ':∀k,(∀i cs,bo.lookup i=some cs→β i≠k)→e3.β k=e.β k:=fun k hk=>dif_neg fun ⟨i,cs,h1,h3⟩=>hk i cs h1 h3
 have hγ:∀i A,ao.lookup i=some (some A)→e3.ρ (γ i)=e2.ρ i∧e3.φ (γ i)=e2.φ i:=fun i A hi=>by
  have hx:∃j A,ao.lookup j=some (some A)∧γ j=γ i:=⟨i,A,hi,rfl⟩
  obtain ⟨B,h1,h3⟩:=hx.choose_spec
  have hc:=g.d2 _ _ _ _ h1 hi h3
  refine ⟨?_, ?_⟩
  ·show (if h:∃j A,ao.lookup j=some (some A)∧γ j=γ i then e2.ρ h.choose else e.ρ (γ i))=_
   rw [dif_pos hx,hc]
  ·show (if h:∃j A,ao.lookup j=some (some A)∧γ j=γ i then e2.φ h.choose else e.φ (γ i))=_
   rw [dif_pos hx,hc]
 have hγ':∀τ,(∀i A,ao.lookup i=some (some A)→γ i≠τ)→e3.ρ τ=e.ρ τ∧e3.φ τ=e.φ τ:=fun τ hτ=>⟨dif_neg fun ⟨i,A,h1,h3⟩=>hτ i A h1 h3,dif_neg fun ⟨i,A,h1,h3⟩=>hτ i A h1 h3⟩
 have nog:∀i A τ B,ao.lookup i=some (some A)→σ.ar.lookup τ=some B→γ i≠τ:=fun i A τ B h1 h3 he=>by
  have:=(g.d1 i A h1).2.2
  rw [he,h3] at this;cases this
 have injb:∀i j,(bo.lookup i).isSome=true→(bo.lookup j).isSome=true→β i=β j→i=j:=fun i j hi hj he=>by
  obtain ⟨x,hx⟩:=Option.isSome_iff_exists.1 hi
  obtain ⟨y,hy⟩:=Option.isSome_iff_exists.1 hj
  exact g.b2 i x j y hx hy he
 have injo:∀i j,(ao.lookup i).isSome=true→(ao.lookup j).isSome=true→γ i=γ j→i=j:=fun i j hi hj he=>by
  obtain ⟨x,hx⟩:=Option.isSome_iff_exists.1 hi
  obtain ⟨y,hy⟩:=Option.isSome_iff_exists.1 hj
  obtain ⟨x',rfl⟩:=hao i x hx
  obtain ⟨y',rfl⟩:=hao j y hy
  exact g.d2 i x' j y' hx hy he
 have inja:∀i j,(ar.lookup i).isSome=true→(ar.lookup j).isSome=true→α i=α j→i=j:=fun i j hi hj he=>by
  obtain ⟨x,hx⟩:=Option.isSome_iff_exists.1 hi
  obtain ⟨y,hy⟩:=Option.isSome_iff_exists.1 hj
  exact g.a2 i x j y hx hy he
 have bx3:σ3.bx=(bo.map fun p=>(β p.1,p.2.map (rnC γ β)))++σ.bx:=by rw [hσ3];rfl
 have ar3:σ3.ar=(ao.map fun p=>(γ p.1,p.2))++((ar.map fun p=>(α p.1,none))++σ.ar):=by rw [hσ3];simp [St.app,ZfR]
 have L1:∀k cs,σ3.bx.lookup k=some cs→(∃i cs',bo.lookup i=some cs'∧k=β i∧cs=cs'.map (rnC γ β))∨((∀i cs',bo.lookup i=some cs'→k≠β i)∧σ.bx.lookup k=some cs):=fun k cs hk=>by
  rw [bx3,Jp] at hk
  split at hk
  ·rename_i x hx
   obtain rfl:=Option.some.inj hk
   exact .inl ((Jo β _ injb).1 hx)
  ·rename_i hx
   exact .inr ⟨Un β _ hx,hk⟩
 have L1':∀i cs',bo.lookup i=some cs'→σ3.bx.lookup (β i)=some (cs'.map (rnC γ β)):=fun i cs' hi=>by
  rw [bx3,Jp,(Jo β _ injb).2 ⟨i,cs',hi,rfl,rfl⟩]
 have L1'':∀k cs,σ.bx.lookup k=some cs→∃cs',σ3.bx.lookup k=some cs':=fun k cs hk=>by
  rw [bx3,Jp]
  split
  ·exact ⟨_,rfl⟩
  ·exact ⟨cs,hk⟩
 have L2:∀τ B,σ3.ar.lookup τ=some (some B)→(∃i,ao.lookup i=some (some B)∧τ=γ i)∨((∀i A,ao.lookup i=some A→τ≠γ i)∧(∀i A,ar.lookup i=some A→τ≠α i)∧σ.ar.lookup τ=some (some B)):=fun τ B hτ=>by
  rw [ar3,Jp] at hτ
  split at hτ
  ·rename_i x hx
   obtain rfl:=Option.some.inj hτ
   obtain ⟨i,y,h1,h3,rfl⟩:=(Jo γ (fun x=>x) injo).1 hx
   exact .inl ⟨i,h1,h3⟩
  ·rename_i hx
   rw [Jp] at hτ
   split at hτ
   ·rename_i y hy
    obtain ⟨i,z,h1,h3,h4⟩:=(Jo α (fun _=>(none:Option Arr)) inja).1 hy
    rw [h4] at hτ;cases hτ
   ·rename_i hy
    exact .inr ⟨Un γ (fun x=>x) hx,Un α (fun _=>(none:Option Arr)) hy,hτ⟩
 have L2':∀i A,ao.lookup i=some (some A)→σ3.ar.lookup (γ i)=some (some A):=fun i A hi=>by
  rw [ar3,Jp,(Jo γ (fun x=>x) injo).2 ⟨i,some A,hi,rfl,rfl⟩]
 have L2'':∀τ A,σ.ar.lookup τ=some A→σ3.ar.lookup τ=some none∨(σ3.ar.lookup τ=some A∧∀i A,ar.lookup i=some A→τ≠α i):=fun τ A hA=>by
  rw [ar3,Jp]
  split
  ·rename_i x hx
   obtain ⟨i,y,h1,h3,rfl⟩:=(Jo γ (fun x=>x) injo).1 hx
   obtain ⟨B,rfl⟩:=hao i _ h1
   exact absurd h3.symm (nog i B τ A h1 hA)
  ·rw [Jp]
   split
   ·rename_i y hy
    obtain ⟨i,z,h1,h3,rfl⟩:=(Jo α (fun _=>(none:Option Arr)) inja).1 hy
    exact .inl rfl
   ·rename_i hy
    exact .inr ⟨hA,Un α (fun _=>(none:Option Arr)) hy⟩
 have nga:∀τ A,σ.ar.lookup τ=some A→∀i B,ao.lookup i=some (some B)→γ i≠τ:=fun τ A hA i B hi=>nog i B τ A hi hA
 have gN:∀b,Zlk e α β bx ar b→b<w.heap.size∧N b:=by
  rintro b (⟨i,cs,h1,rfl⟩| ⟨i,A,h1,h3⟩)
  ·obtain ⟨_,ds,h3,_⟩:=g.b1 i cs h1
   exact h.Ym (κ:=.b (β i)) ⟨ds,h3⟩ _ (by simp [blk])
  ·obtain ⟨_,h5,B,h4⟩:=g.got h1 h3
   exact h.Ym (κ:=.a (α i)) ⟨B,h4⟩ b ((h.ar _ B h4).own h5).1
 have N1:∀b,(w.heap.size≤b∨Zlk e α β bx ar b)→N b:=fun b hb=>hb.elim (fun hb=>h.tn b (h.fr.new b (Nat.le_trans h.fr.size hb))) fun hb=>(gN b hb).2
 have tG:∀b,Zqt e α β bx ar b→Mut e σ b∧w0.tch b:=by
  rintro b (⟨i,cs,h1,rfl⟩| ⟨i,A,h1,h3⟩)
  ·obtain ⟨_,ds,h3,_⟩:=g.b1 i cs h1
   exact ⟨.inr (.inl ⟨_,ds,h3,rfl⟩),h.tp (.b (β i)) _ ⟨ds,h3⟩ rfl⟩
  ·obtain ⟨_,h5,B,h4⟩:=g.got h1 h3
   exact ⟨.inr (.inr ⟨_,B,h4,h5⟩),h.tp (.a (α i)) b ⟨B,h4⟩ (.inl h5)⟩
 have T1:∀b,(bsG e σ w α β bx ar).tch b→w0.tch b:=fun b hb=>hb.elim (fun hb=>h.fr.new b (Nat.le_trans h.fr.size hb)) fun hb=>(tG b hb).2
 have same:∀b,b<w.heap.size→¬Zqt e α β bx ar b→w'.heap[b]? =w.heap[b]? :=fun b hb ht=>h2.fr.block b hb fun hm=>hm.elim (fun hm=>absurd (show w.heap.size≤b from hm) (by omega)) ht
 have apart:∀κ,live σ κ→(∀i cs,bx.lookup i=some cs→κ≠.b (β i))→(∀i A,ar.lookup i=some A→κ≠.a (α i))→∀b∈blk e κ,¬Zlk e α β bx ar b∧¬Zqt e α β bx ar b:=by
  intro κ hk n1 n2 b hb
  have k1:¬Zlk e α β bx ar b:=by
   rintro (⟨i,cs,h1,rfl⟩| ⟨i,A,h1,h3⟩)
   ·obtain ⟨_,ds,h3,_⟩:=g.b1 i cs h1
    exact h.sep κ (.b (β i)) hk ⟨ds,h3⟩ (n1 i cs h1) _ hb (by simp [blk])
   ·obtain ⟨_,h5,B,h4⟩:=g.got h1 h3
    exact h.sep κ (.a (α i)) hk ⟨B,h4⟩ (n2 i A h1) b hb ((h.ar _ B h4).own h5).1
  exact ⟨k1,k1⟩
 have bxo:∀k,(∀i cs',bo.lookup i=some cs'→k≠β i)→∀i cs,bx.lookup i=some cs→Key.b k≠.b (β i):=fun k hk i cs hi he=>by
  obtain ⟨cs',h3⟩:=g.c2 i cs hi
  injection he with he
  exact hk i cs' h3 he
 have M:∀b,Mut e3 σ3 b→Mut e2 ⟨n,[],bo,ao⟩ b:=by
  intro b hm
  have old:Mut e σ b→¬Zlk e α β bx ar b→Mut e2 ⟨n,[],bo,ao⟩ b:=fun k1 k2=>.inl (h2.bad.1 b ⟨k1,k2⟩)
  rcases hm with h0| ⟨k,cs,k1,k2⟩| ⟨τ,B,k1,k2⟩
  ·refine old (.inl h0) ?_
   rintro (⟨i,cs,q1,rfl⟩| ⟨i,A,q1,q3⟩)
   ·obtain ⟨_,ds,q3,_⟩:=g.b1 i cs q1
    exact (h.bad.2 _ h0).2 (.b (β i)) ⟨ds,q3⟩ (by simp [blk])
   ·obtain ⟨q5,q6,B,q4⟩:=g.got q1 q3
    have:1000000≤α i:=(h.bad.2 b h0).2 (.a (α i)) ⟨B,q4⟩ ((h.ar _ B q4).own q6).1
    omega
  ·rcases L1 k cs k1 with ⟨i,cs',q1,rfl,_⟩| ⟨q1,q2⟩
   ·rw [hβ i cs' q1] at k2
    exact .inr (.inl ⟨i,cs',q1,k2⟩)
   ·rw [hβ' k fun i cs' hi he=>q1 i cs' hi he.symm] at k2
    exact old (.inr (.inl ⟨k,cs,q2,k2⟩)) (apart (.b k) ⟨cs,q2⟩ (bxo k q1) (fun i A _ he=>by cases he) b (by simp [blk,k2])).1
  ·rcases L2 τ B k1 with ⟨i,q1,rfl⟩| ⟨q1,q2,q3⟩
   ·rw [(hγ i B q1).1] at k2
    exact .inr (.inr ⟨i,B,q1,k2⟩)
   ·rw [(hγ' τ (nga τ _ q3)).1] at k2
    exact old (.inr (.inr ⟨τ,B,q3,k2⟩)) (apart (.a τ) ⟨B,q3⟩ (fun i cs _ he=>by cases he) (fun i A hi he=>by injection he with he;exact q2 i A hi he) b ((h.ar τ B q3).own k2).1).1
 have C:∀c v,c.rel e2 ⟨n,[],bo,ao⟩ w' v→clO bo ao c→(rnC γ β c).rel e3 σ3 w' v:=by
  intro c v hr hc
  cases c<;>simp only [clO] at hc<;>try exact hc.elim
  ·obtain ⟨F,k1,k2⟩:=hr
   exact ⟨F,k1,fun b hb hm=>k2 b hb (M b hm)⟩
  ·exact hr
  ·rename_i i m
   obtain ⟨A,hA⟩:=hc
   obtain ⟨A2,k1,k2,k3⟩:=hr
   have k1':ao.lookup i=some A2:=k1
   rw [hA] at k1'
   obtain rfl:=Option.some.inj k1'
   exact ⟨some A,L2' i A hA,fun B hB=>by rw [(hγ i A hA).1];exact k2 B hB,k3⟩
  ·rename_i i o
   obtain ⟨cs,hcs⟩:=Option.isSome_iff_exists.1 hc
   refine ⟨⟨_,L1' i cs hcs⟩, ?_⟩
   rw [hβ i cs hcs];exact hr.2
  ·obtain ⟨b,off,vs,F,k1,k2,k3,k4,k5,k6⟩:=hr
   exact ⟨b,off,vs,F,k1,k2,k3,k4,fun hm=>k5 (M b hm),fun x hx hm=>k6 x hx (M x hm)⟩
  ·exact hr
  ·obtain ⟨_,F,k1,k2⟩:=hr
   exact ⟨F,k1,fun b hb hm=>k2 b hb (M b hm)⟩
  ·exact hr
 have CL:∀(cs:List CV) (vs:List Value),Am.Yk e2 ⟨n,[],bo,ao⟩ w' cs vs→(∀c∈cs,clO bo ao c)→Am.Yk e3 σ3 w' (cs.map (rnC γ β)) vs:=by
  intro cs
  induction cs with
  | nil=>intro vs hr _;exact hr
  | cons c cs ih=>
   intro vs hr hc
   simp only [Am.Yk,List.map_cons] at hr ⊢
   obtain ⟨v,vs',k0,k1,k2⟩:=hr
   exact ⟨v,vs',k0,C c v k1 (hc c (by simp)),ih vs' k2 fun x hx=>hc x (by simp [hx])⟩
 have CP:∀(ps:List (Bool×List CV)) (vs:List Value),YA e2 ⟨n,[],bo,ao⟩ w' ps vs→(∀p∈ps,∀c∈p.2,clO bo ao c)→YA e3 σ3 w' (ps.map fun p=>(p.1,p.2.map (rnC γ β))) vs:=by
  intro ps
  induction ps with
  | nil=>intro vs hr _;exact hr
  | cons p ps ih=>
   intro vs hr hc
   obtain ⟨b,cs⟩:=p
   simp only [YA,List.map_cons] at hr ⊢
   obtain ⟨v,vs',k0,k1,k2⟩:=hr
   refine ⟨v,vs',k0, ?_,ih vs' k2 fun x hx=>hc x (by simp [hx])⟩
   cases b
   ·obtain ⟨c,rfl,k3⟩:=k1
    exact ⟨rnC γ β c,rfl,C c v k3 (hc (false,[c]) (by simp) c (by simp))⟩
   ·obtain ⟨us,rfl,k3⟩:=k1
    exact ⟨us,rfl,CL cs us k3 (hc (true,cs) (by simp))⟩
 have CR:r.rel e2 ⟨n,[],bo,ao⟩ w' u→Zsd bo ao r→(rnV γ β r).rel e3 σ3 w' u:=by
  intro hr hc
  cases r with
  | one c=>exact C c u hr hc
  | agg cs=>
   obtain ⟨us,hu,hr⟩:=hr
   exact ⟨us,hu,CL cs us hr hc⟩
  | tup ps=>
   obtain ⟨us,hu,hr⟩:=hr
   exact ⟨us,hu,CP ps us hr hc⟩
  | dead=>exact hr
 rw [←hσ3]
 have nt3:σ3.nt=σ.nt:=by rw [hσ3];rfl
 have tm3:σ3.tm=gT γ β dst r++σ.tm:=by rw [hσ3];rfl
 have pin2:∀i cs,bo.lookup i=some cs→∀cs0,bx.lookup i=some cs0→e2.β i=e.β (β i):=fun i cs hi cs0 h0=>h2.pn i cs hi (g.b1 i cs0 h0).1
 have bold:∀i cs,bo.lookup i=some cs→∀ds,σ.bx.lookup (β i)=some ds→e3.β (β i)=e.β (β i):=fun i cs hi ds hds=>by
  rw [hβ i cs hi]
  rcases g.c1 i cs hi with ⟨cs',h3⟩| ⟨_,h3,_⟩
  ·exact pin2 i cs hi cs' h3
  ·rw [h3] at hds;cases hds
 have mt:∀b,b<w.heap.size→Mut e3 σ3 b→Mut e σ b:=by
  intro b hb hm
  have tt:(bsG e σ w α β bx ar).tch b→Mut e σ b:=fun k=>k.elim (fun k=>absurd (show w.heap.size≤b from k) (by omega)) fun k=>(tG b k).1
  rcases hm with h0| ⟨k,cs,k1,k2⟩| ⟨τ,B,k1,k2⟩
  ·exact .inl h0
  ·rcases L1 k cs k1 with ⟨i,cs',q1,rfl,_⟩| ⟨q1,q2⟩
   ·rw [hβ i cs' q1] at k2
    exact tt (h2.tp (.b i) b ⟨cs',q1⟩ k2.symm)
   ·rw [hβ' k fun i cs' hi he=>q1 i cs' hi he.symm] at k2
    exact .inr (.inl ⟨k,cs,q2,k2⟩)
  ·rcases L2 τ B k1 with ⟨i,q1,rfl⟩| ⟨q1,q2,q3⟩
   ·rw [(hγ i B q1).1] at k2
    exact tt (h2.tp (.a i) b ⟨B,q1⟩ (.inl k2))
   ·rw [(hγ' τ (nga τ _ q3)).1] at k2
    exact .inr (.inr ⟨τ,B,q3,k2⟩)
 have up:Up e σ w e3 σ3 w':=by
  refine ⟨h2.fr.size,fun b hb hm=>same b hb fun k=>hm (tG b k).1,mt,fun k cs hk=>⟨L1'' k cs hk, ?_⟩,fun τ A hA=> ?_,fun τ hτ ⟨B,hB⟩ _=> ?_⟩
  ·by_cases hx:∃i cs',bo.lookup i=some cs'∧β i=k
   ·obtain ⟨i,cs',h3,rfl⟩:=hx
    exact bold i cs' h3 cs hk
   ·exact hβ' k fun i cs' hi he=>hx ⟨i,cs',hi,he⟩
  ·rcases L2'' τ A hA with k| ⟨k,_⟩
   ·exact ⟨none,k,fun _ hx=>by cases hx⟩
   ·exact ⟨A,k,fun B' hB=>⟨B',hB,Nat.le_refl _,fun _=>(hγ' τ (nga τ A hA)).1⟩⟩
  ·refine ⟨(hγ' τ (nga τ _ hB)).1,fun b hb=>same b ?_ ?_⟩
   ·exact (h.Ym (κ:=.a τ) ⟨B,hB⟩ b ((h.ar τ B hB).own hb).1).1
   ·exact (apart (.a τ) ⟨B,hB⟩ (fun i cs _ he=>by cases he) (fun i A hi he=>by
    injection he with he
    rcases (g.a1 i A hi).2 with ⟨hx,_⟩| ⟨_,_,hx| hx⟩
    ·omega
    ·rw [←he,hB] at hx;cases hx
    ·rw [←he,hB] at hx;cases hx) b ((h.ar τ B hB).own hb).1).2
 have oa:∀τ A,σ.ar.lookup τ=some (some A)→(∀i A,ar.lookup i=some A→τ≠α i)→∀b∈e.φ τ,w'.heap[b]? =w.heap[b]? :=fun τ A hA hn b hb=>
  same b (h.Ym (κ:=.a τ) ⟨A,hA⟩ b hb).1 (apart (.a τ) ⟨A,hA⟩ (fun i cs _ he=>by cases he) (fun i B hi he=>by injection he with he;exact hn i B hi he) b hb).2
 refine ⟨e3,h.ZlM up (fun κ=>match κ with | .b k=>∃i cs,bo.lookup i=some cs∧k=β i| .a τ=>∃i A,ao.lookup i=some (some A)∧τ=γ i) (by rw [YQ,nt3];exact h.nt) (by rw [Yf];exact h.df)
  (fun t v ht=> ?_) (fun k cs hk hK=> ?_) (fun τ A hA hK=> ?_) (fun k cs hk hK=> ?_) (fun τ A hA hK=> ?_) (fun κ hl hK b hb=> ?_) (fun κ κ' hl hl' hne hK hK'=> ?_) ?_ (fun _ h=>h) (fun b hb=>.inl hb) (fun κ hl hK hd=> ?_) (fun k cs hk hK hle=> ?_) (fun κ b hl hK hb=> ?_) nt3⟩
 ·rw [tm3] at ht
  cases dst with
  | none=>exact .inl ⟨by simpa [gT] using ht,rfl⟩
  | some d=>exact Zal (by rw [h.nt];exact hd d rfl) (CR hz hrc) t v ht
 ·rcases L1 k cs hk with ⟨i,cs',q1,q2,_⟩| ⟨q1,q2⟩
  ·exact absurd ⟨i,cs',q1,q2⟩ hK
  ·refine ⟨q2,same _ (h.Ym (κ:=.b k) ⟨cs,q2⟩ _ (by simp [blk])).1 ?_⟩
   exact (apart (.b k) ⟨cs,q2⟩ (bxo k q1) (fun i A _ he=>by cases he) _ (by simp [blk])).2
 ·rcases L2 τ A hA with ⟨i,q1,q2⟩| ⟨q1,q2,q3⟩
  ·exact absurd ⟨i,A,q1,q2⟩ hK
  ·exact ⟨q3,(hγ' τ (nga τ _ q3)).1,(hγ' τ (nga τ _ q3)).2,oa τ A q3 q2⟩
 ·obtain ⟨i,cs',q1,rfl⟩:=hK
  rw [L1' i cs' q1] at hk
  obtain rfl:=Option.some.inj hk
  rw [hβ i cs' q1]
  obtain ⟨k1,cur,ty,k2,k3⟩:=h2.bx i cs' q1
  exact ⟨N1 _ k1,cur,ty,k2,CL _ _ k3 (g.e2 i cs' q1)⟩
 ·obtain ⟨i,A',q1,rfl⟩:=hK
  rw [L2' i A' q1] at hA
  obtain rfl:=Option.some.inj (Option.some.inj hA)
  rw [(hγ i A' q1).1,(hγ i A' q1).2]
  have nin:∀b∈e2.φ i,N b:=fun b hb=>N1 b (h2.Ym (κ:=.a i) ⟨A',q1⟩ b hb).2
  obtain ⟨p,c,hv,hc,k| ⟨b,t,cur,Fs,W,q2,q3,q4,q5,q6,q7,q8,q9⟩⟩:=h2.ar i A' q1
  ·exact ⟨p,c,hv,hc,.inl k⟩
  ·refine ⟨p,c,hv,hc,.inr ⟨b,t,cur,Fs,W,q2,N1 b q3,q4,q5,q6,q7,q8, ?_⟩⟩
   rcases q9 with ⟨g1,g2,g3,g4⟩| ⟨g1,g2,g3,g4⟩
   ·exact .inl ⟨g1,g2,g3,g4.within fun x hx=>nin x (by rw [g2];exact List.mem_cons_of_mem _ hx)⟩
   ·exact .inr ⟨g1,g2,g3,fun x hx hm=>g4 x hx (M x hm)⟩
 ·have hN:w.heap.size≤b∨Zlk e α β bx ar b:=by
   cases κ with
   | b k=>
    obtain ⟨i,cs',q1,rfl⟩:=hK
    refine (h2.Ym (κ:=.b i) ⟨cs',q1⟩ b ?_).2
    simp only [blk,hβ i cs' q1] at hb ⊢;exact hb
   | a τ=>
    obtain ⟨i,A,q1,rfl⟩:=hK
    refine (h2.Ym (κ:=.a i) ⟨A,q1⟩ b ?_).2
    simp only [blk,(hγ i A q1).2] at hb ⊢;exact hb
  rcases hN with k| ⟨i,cs,k1,k2⟩| ⟨i,A,k1,k2⟩
  ·exact .inr (.inr k)
  ·obtain ⟨_,ds,h3,_⟩:=g.b1 i cs k1
   obtain ⟨cs',h4⟩:=g.c2 i cs k1
   exact .inr (.inl ⟨.b (β i),.inr ⟨i,cs',h4,rfl⟩,⟨ds,h3⟩,by simp [blk,k2],fun h=>h.elim⟩)
  ·obtain ⟨k3,k4,B,h3⟩:=g.got k1 k2
   refine .inr (.inl ⟨.a (α i),.inl ?_,⟨B,h3⟩,((h.ar _ B h3).own k4).1,fun h=>absurd (show 1000000≤α i from h) (by omega)⟩)
   rintro ⟨C',hC⟩
   rcases L2'' (α i) _ h3 with k| ⟨_,k⟩
   ·rw [k] at hC;cases hC
   ·exact k i A k1 rfl
 ·have back:∀κ,(match κ with | .b k=>∃i cs,bo.lookup i=some cs∧k=β i| .a τ=>∃i A,ao.lookup i=some (some A)∧τ=γ i)→∃κ2,live ⟨n,[],bo,ao⟩ κ2∧blk e3 κ=blk e2 κ2∧((∃i,κ2= .b i∧κ= .b (β i))∨∃i,κ2= .a i∧κ= .a (γ i)):=by
   intro κ hK
   cases κ with
   | b k=>
    obtain ⟨i,cs',q1,rfl⟩:=hK
    exact ⟨.b i,⟨cs',q1⟩,by simp only [blk,hβ i cs' q1],.inl ⟨i,rfl,rfl⟩⟩
   | a τ=>
    obtain ⟨i,A,q1,rfl⟩:=hK
    exact ⟨.a i,⟨A,q1⟩,(hγ i A q1).2,.inr ⟨i,rfl,rfl⟩⟩
  obtain ⟨κ2,l1,l2,l3⟩:=back κ hK
  obtain ⟨κ3,m1,m2,m3⟩:=back κ' hK'
  rw [l2,m2]
  refine h2.sep κ2 κ3 l1 m1 fun he=>hne ?_
  subst he
  rcases l3 with ⟨i,rfl,rfl⟩| ⟨i,rfl,rfl⟩<;>rcases m3 with ⟨j,hj,rfl⟩| ⟨j,hj,rfl⟩<;>first | (cases hj;done)| (cases hj;rfl)
 ·exact ⟨h.fr.gl,h2.fr.os.trans h.fr.os,h2.fr.tape.trans h.fr.tape,h2.fr.output.trans h.fr.output,Nat.le_trans h.fr.size h2.fr.size,fun b hb hn=>(h2.fr.block b (Nat.lt_of_lt_of_le hb h.fr.size) fun k=>hn (T1 b k)).trans (h.fr.block b hb hn),h.fr.new⟩
 ·cases κ with
  | b k=>exact hd.elim
  | a τ=>
   obtain ⟨i,A,q1,rfl⟩:=hK
   have:1000000≤γ i:=hd
   have:=(g.d1 i A q1).2.1
   omega
 ·obtain ⟨i,cs',q1,rfl⟩:=hK
  rcases g.c1 i cs' q1 with ⟨cs0,h3⟩| ⟨_,_,h3⟩
  ·obtain ⟨_,ds,h4,_⟩:=g.b1 i cs0 h3
   rw [bold i cs' q1 ds h4]
   exact h.pn (β i) ds h4 (nt3▸hle)
  ·rw [nt3] at hle;omega
 ·cases κ with
  | b k=>
   obtain ⟨i,cs',q1,rfl⟩:=hK
   refine T1 b (h2.tp (.b i) b ⟨cs',q1⟩ ?_)
   simp only [tpB,hβ i cs' q1] at hb ⊢;exact hb
  | a τ=>
   obtain ⟨i,A,q1,rfl⟩:=hK
   refine T1 b (h2.tp (.a i) b ⟨A,q1⟩ ?_)
   rcases hb with hb| ⟨hb,_⟩
   ·exact .inl (by rw [←(hγ i A q1).1];exact hb)
   ·have:=(g.d1 i A q1).2.1;omega
theorem GM.le {σ':St} (g:GM σ n α β γ bx ar bo ao) {dst:Option Nat} {r:V} (k:LeB σ σ' (ZfR α β γ dst r bo ao ar)) (hao:∀i A,ao.lookup i=some A→∃B,A=some B):GM σ' n α β γ bx ar bo ao:=by
 have mem:∀{B:Type} {l:List (Nat×B)} {i:Nat} {x:B},l.lookup i=some x→(i,x)∈l:=by
  intro B l i x hx
  induction l with
  | nil=>simp at hx
  | cons p l ih=>
   obtain ⟨j,y⟩:=p
   rw [lookup_cons] at hx
   split at hx
   ·rename_i hij;subst hij;rw [Option.some.inj hx];simp
   ·exact List.mem_cons_of_mem _ (ih hx)
 refine ⟨fun i cs hi=> ?_,g.b2,fun i A hA=> ?_,g.a2,fun i cs hi=> ?_,g.c2,fun i A hA=> ?_,g.d2,g.e1,g.e2⟩
 ·obtain ⟨h1,ds,h2,h3⟩:=g.b1 i cs hi
  exact ⟨h1,ds,k.bx _ _ h2,h3⟩
 ·obtain ⟨h1,h2⟩:=g.a1 i A hA
  refine ⟨h1, ?_⟩
  rcases h2 with ⟨h2,B,h3,h4⟩| ⟨h2,h3,h4⟩
  ·exact .inl ⟨h2,B,h3,k.ar _ _ h4⟩
  ·refine .inr ⟨h2,h3, ?_⟩
   rcases h4 with h4| h4
   ·exact .inl (k.fa (α i,none) (List.mem_append_right _ (List.mem_map_of_mem (f:=fun p=>(α p.1,(none:Option Arr))) (mem hA))) h4)
   ·exact .inr (k.ar _ _ h4)
 ·rcases g.c1 i cs hi with h1| ⟨h1,h2,h3⟩
  ·exact .inl h1
  ·exact .inr ⟨h1,k.fb (β i,cs.map (rnC γ β)) (List.mem_map_of_mem (f:=fun p=>(β p.1,p.2.map (rnC γ β))) (mem hi)) h2,k.nt▸h3⟩
 ·obtain ⟨h1,h2,h3⟩:=g.d1 i A hA
  exact ⟨h1,h2,k.fa (γ i,some A) (List.mem_append_left _ (List.mem_map_of_mem (f:=fun p=>(γ p.1,p.2)) (mem hA))) h3⟩
theorem GC.call {f:Nat} {vs0 vs:List V} {r:V} (c:GC P f n vs0 bx ar r bo ao) (g:GM σ n α β γ bx ar bo ao) (hm:ZnL α β vs0 vs) (hcl:∀v∈vs0,clV bx ar v) (hrc:Zsd bo ao r) (hao:∀i A,ao.lookup i=some A→∃B,A=some B) {dst:Option Nat} (hd:∀d,dst=some d→d<σ.nt):
  Znb P σ dst f vs (ZfR α β γ dst r bo ao ar):=by
 refine ⟨c.1,fun p hp=> ?_,fun σ' k N w0 e a w us h hl hv=> ?_⟩
 ·cases dst with
  | none=>simp [ZfR,gT] at hp
  | some d=>simp [ZfR,gT] at hp;rw [hp]
 ·have g':=g.le k hao
  have hlen:=(ZgW hm).1
  have hs:=g'.enter h hl hv hm hcl c.2.1
  refine (c.2.2 _ _ _ us w (by omega) (g'.bok h) hs).mono fun ex w' hR=> ?_
  obtain ⟨e2,u,k1,k2,k3⟩:=hR
  obtain ⟨e3,k4⟩:=g'.Ztb h k3 k2 hrc hao (dst:=dst) (fun d hd'=>k.nt▸hd d hd')
  exact ⟨u,e3,k1,k4⟩
end
def toP:V→Option (Bool×List CV)
 | .one c=>some (false,[c])
 | .agg cs=>some (true,cs)
 | _=>none
def Znp:List V→Option (List (Bool×List CV))
 | []=>some []
 | v::vs=>match toP v,Znp vs with
  | some p,some ps=>some (p::ps)
  | _,_=>none
def Zoy:List V→Option V
 | [v]=>some v
 | vs=>(Znp vs).map .tup
def Zqq (σ' σ:St):Prop:=Zqu σ' σ σ'.tm∧ZqB σ' σ σ'.bx∧ZqD σ σ'.ar
def Zpk (n:Nat) (r:V) (bo:List (Nat×List CV)) (ao:List (Nat×Option Arr)) (σ:St):Option V→Prop
 | some x=>0<n∧n=σ.nt∧Zqq ⟨n,[(0,r)],bo,ao⟩ ⟨n,(0,x)::σ.tm,σ.bx,σ.ar⟩
 | none=>False
def Zpl (P:Program) (rv:Array ResultVar) (n:Nat) (r:V) (bo:List (Nat×List CV)) (ao:List (Nat×Option Arr)) (σ:St):Prop:=Zpk n r bo ao σ ((ZcI P σ rv.toList).bind Zoy)
def Zr9 (P:Program) (rv:Array ResultVar) (n:Nat) (r:V) (bo:List (Nat×List CV)) (ao:List (Nat×Option Arr)):Exit→St→Prop
 | .normal,σ=>Zpl P rv n r bo ao σ
 | .ret,σ=>Zpl P rv n r bo ao σ
 | _,_=>False
section
variable {e:Env} {σ:St} {w:World} {N:Nat→Prop} {w0:Bs} {a:Act} {P:Program}
theorem ZjT:∀{vs:List V} {us:List Value} {ps:List (Bool×List CV)},UX e σ w vs us→Znp vs=some ps→YA e σ w ps us
 | [],us,ps,h,hp=>by
  simp only [Znp,Option.some.injEq] at hp
  subst hp
  simpa [UX,YA] using h
 | v::vs,us,ps,h,hp=>by
  simp only [UX] at h
  obtain ⟨u,us',rfl,h1,h2⟩:=h
  simp only [Znp] at hp
  split at hp
  ·rename_i p qs hq hqs
   obtain rfl:=Option.some.inj hp
   have ih:=ZjT h2 hqs
   refine ⟨u,us',rfl, ?_,ih⟩
   cases v<;>simp [toP] at hq<;>subst hq
   ·exact ⟨_,rfl,h1⟩
   ·exact h1
  ·cases hp
theorem Znz {vs:List V} {us:List Value} {x:V} (h:UX e σ w vs us) (hx:Zoy vs=some x):x.rel e σ w (ZiN us):=by
 have gen:∀ps,Znp vs=some ps→us.length=vs.length→vs.length≠1→(V.tup ps).rel e σ w (ZiN us):=by
  intro ps hps hl h1
  refine ⟨us, ?_,ZjT h hps⟩
  match us,hl with
  | [],_=>rfl
  | [_],hl=>exact absurd hl.symm h1
  | _::_::_,_=>rfl
 have len:∀{vs:List V} {us:List Value},UX e σ w vs us→us.length=vs.length:=by
  intro vs
  induction vs with
  | nil=>intro us h;simp only [UX] at h;simp [h]
  | cons v vs ih=>intro us h;simp only [UX] at h;obtain ⟨u,us',rfl,_,h2⟩:=h;simp [ih h2]
 match vs,h,hx,gen with
 | [],h,hx,gen=>
  simp only [Zoy,Znp,Option.map_some,Option.some.injEq] at hx
  subst hx
  exact gen [] rfl (len h) (by simp)
 | [v],h,hx,gen=>
  simp only [Zoy,Option.some.injEq] at hx
  subst hx
  simp only [UX] at h
  obtain ⟨u,us',rfl,h1,rfl⟩:=h
  exact h1
 | v::v2::vs,h,hx,gen=>
  simp only [Zoy] at hx
  obtain ⟨ps,h1,rfl⟩:=Option.map_eq_some_iff.1 hx
  exact gen ps h1 (len h) (by simp)
theorem GC.ZbP {f:Nat} {fn:Func} {c:Code} {nt:Nat} {rv:Array ResultVar} (hok:W5 P f=true) (hf:P.funcs[f]? =some fn) (hb:fn.body=some c) (hnt:fn.ntmps=nt) (hrv:fn.results=rv) {vs:List V} {bx bo:List (Nat×List CV)} {ar ao:List (Nat×Option Arr)} {r:V} (hvs:vs.length≤nt)
  (h:∀N w0,Bok N w0→AW P N w0 c (Zr9 P rv nt r bo ao) ⟨nt,Zef 0 vs,bx,ar⟩):GC P f nt vs bx ar r bo ao:=by
 subst hnt hrv
 refine ⟨hok,hvs,fun N w0 e us w hl hbk hs=> ?_⟩
 refine calls_of_wp hf hb ?_
 refine Code.wp_mono (fun ex a' w' hq=> ?_) (h N w0 hbk _ _ ⟨e,hs⟩)
 obtain ⟨σ',h1,e',h2⟩:=hq
 have fin:Zpl P fn.results fn.ntmps r bo ao σ'→a'.defers=[]∧∃v,(results fn a'.tmps).run P w'= .ok v w'∧∃e2 u,Ending.returned v= .returned u∧r.rel e2 ⟨fn.ntmps,[],bo,ao⟩ w' u∧ZN N w0 e2 ⟨fn.ntmps,[],bo,ao⟩ (Zhp fn.ntmps []) w':=by
  intro ho
  unfold Zpl Zpk at ho
  split at ho
  ·rename_i x hx
   obtain ⟨h0,hn,k1,k2,k3⟩:=ho
   obtain ⟨vs',hvs',hT⟩:=Option.bind_eq_some_iff.1 hx
   obtain ⟨zs,g1,g2⟩:=UT (P:=P) h2 hvs'
   have hp:=h2.put (d:=0) (by omega) (Znz g2 hT)
   have hp':ZN N w0 e' ⟨fn.ntmps,(0,x)::σ'.tm,σ'.bx,σ'.ar⟩ (a'.put (some 0) (ZiN zs)) w':=by rw [hn];exact hp
   obtain ⟨e3,hs3⟩:=(show Zbc ⟨fn.ntmps,[(0,r)],bo,ao⟩ ⟨fn.ntmps,(0,x)::σ'.tm,σ'.bx,σ'.ar⟩ from ⟨rfl,k1,k2,k3⟩).into N w0 _ w' ⟨e',hp'⟩
   have u:=ZoZ e3 ⟨fn.ntmps,[(0,r)],bo,ao⟩ w' [] fn.ntmps
   refine ⟨h2.df,_,g1,e3,_,rfl, ?_,by simp [Zhp],rfl,fun t v ht=>by simp at ht,fun k cs hk=> ?_,fun τ A hA=>(hs3.ar τ A hA).up u (fun _ _=>rfl),hs3.sep,hs3.fr,hs3.bad,hs3.dk,hs3.pn,hs3.tn,hs3.tp⟩
   ·have q:=hs3.tm 0 r (by simp)
    rw [ZaS a' 0 _ (by rw [h2.nt];omega)] at q
    exact q.up u
   ·obtain ⟨q1,cur,ty,q2,q3⟩:=hs3.bx k cs hk
    exact ⟨q1,cur,ty,q2,q3.up u⟩
  ·exact ho.elim
 cases ex with
 | normal=>exact fin h1
 | ret=>exact fin h1
 | _=>exact h1.elim
end
def Zho {A:Type} (p:A→Prop):List A→Prop
 | []=>True
 | x::xs=>p x∧Zho p xs
def ndP {B:Type} (f:Nat→Nat):List (Nat×B)→Prop
 | []=>True
 | x::xs=>Zho (fun y=>f x.1≠f y.1) xs∧ndP f xs
theorem QC {A:Type} {p:A→Prop}:∀{l:List A},Zho p l→∀x∈l,p x
 | [],_,x,h=>by cases h
 | y::l,h,x,hx=>by
  rcases List.mem_cons.1 hx with rfl| hx
  ·exact h.1
  ·exact QC h.2 x hx
theorem Vj {B:Type}:∀{l:List (Nat×B)} {i:Nat} {x:B},l.lookup i=some x→(i,x)∈l
 | [],_,_,h=>by simp at h
 | (j,y)::l,i,x,h=>by
  rw [lookup_cons] at h
  split at h
  ·rename_i hij;subst hij;rw [Option.some.inj h];simp
  ·exact List.mem_cons_of_mem _ (Vj h)
theorem ZgV {B:Type} {f:Nat→Nat}:∀{l:List (Nat×B)},ndP f l→∀{i j:Nat} {x y:B},l.lookup i=some x→l.lookup j=some y→f i=f j→i=j
 | [],_,_,_,_,_,h,_,_=>by simp at h
 | (t,z)::l,h,i,j,x,y,hi,hj,he=>by
  rw [lookup_cons] at hi hj
  split at hi<;>split at hj
  ·rename_i h1 h2;rw [h1,h2]
  ·rename_i h1 h2;exact absurd (h1▸he) (QC h.1 _ (Vj hj))
  ·rename_i h1 h2;exact absurd (h2▸he).symm (QC h.1 _ (Vj hi))
  ·exact ZgV h.2 hi hj he
def Zbd (σ:St) (mv:List Nat):CV→Option (CV×List Nat×Prop)
 | .box k o=>some (.box k o,[],True)
 | .nil=>some (.nil,[],True)
 | .own τ n=>if τ∈mv then some (.own τ n,[],True) else (frC σ (.own τ n)).map fun r=>(.l r.1,r.2)
 | c=>(frC σ c).map fun r=>(.l r.1,r.2)
def Zda (σ:St) (mv:List Nat):List CV→Option (List CV×List Nat×Prop)
 | []=>some ([],[],True)
 | v::vs=>match Zbd σ mv v,Zda σ mv vs with
  | some (x,t,p),some (xs,u,q)=>some (x::xs,t++u,p∧q)
  | _,_=>none
def Zed (σ:St) (mv:List Nat):V→Option (V×List Nat×Prop)
 | .one c=>(Zbd σ mv c).map fun r=>(.one r.1,r.2)
 | .agg cs=>(Zda σ mv cs).map fun r=>(.agg r.1,r.2)
 | _=>none
def Jg (σ:St) (mv:List Nat):List V→Option (List V×List Nat×Prop)
 | []=>some ([],[],True)
 | v::vs=>match Zed σ mv v,Jg σ mv vs with
  | some (x,t,p),some (xs,u,q)=>some (x::xs,t++u,p∧q)
  | _,_=>none
def Zts (bx:List (Nat×List CV)) (ar:List (Nat×Option Arr)):V→Prop
 | .one c=>clC bx ar c
 | .agg cs=>Zho (clC bx ar) cs
 | _=>False
def Zoc (bo:List (Nat×List CV)) (ao:List (Nat×Option Arr)):V→Prop
 | .one c=>clO bo ao c
 | .agg cs=>Zho (clO bo ao) cs
 | .tup ps=>Zho (fun p=>Zho (clO bo ao) p.2) ps
 | .dead=>True
def bxO (α β:Nat→Nat) (cs:List CV):Option (List CV)→Prop
 | some ds=>mtL α β cs ds
 | none=>False
def arO (τ:Nat):Option Arr→Option (Option Arr)→Prop
 | some B,some (some C)=>τ<1000000∧B.fr=false∧B.es=C.es
 | some B,_=>2000000≤τ∧B.fr=false∧B.es=[]
 | _,_=>False
def dO (n:Nat):Option Nat→Prop
 | some d=>d<n
 | none=>True
def Ztl (σ:St) (n:Nat) (α β γ:Nat→Nat) (dst:Option Nat) (vs0:List V) (bx:List (Nat×List CV)) (ar:List (Nat×Option Arr)) (r:V) (bo:List (Nat×List CV)) (ao:List (Nat×Option Arr)) (vs:List V):Prop:=
 Zho (fun p=>n≤p.1∧bxO α β p.2 (σ.bx.lookup (β p.1))∧(bo.lookup p.1).isSome=true∧Zho (clC bx ar) p.2) bx∧
 ndP β bo∧
 Zho (fun p=>p.1<1000000∧arO (α p.1) p.2 (σ.ar.lookup (α p.1))) ar∧
 ndP α ar∧
 Zho (fun p=>((bx.lookup p.1).isSome=true∨(p.1<n∧σ.bx.lookup (β p.1)=none∧β p.1<σ.nt))∧Zho (clO bo ao) p.2) bo∧
 Zho (fun p=>p.1<1000000∧γ p.1<1000000∧σ.ar.lookup (γ p.1)=none∧p.2.isSome=true) ao∧
 ndP γ ao∧ZnL α β vs0 vs∧Zho (Zts bx ar) vs0∧Zoc bo ao r∧dO σ.nt dst
def gcK (σ:St) (dst:Option Nat) (n:Nat) (α β γ:Nat→Nat) (vs0:List V) (bx:List (Nat×List CV)) (ar:List (Nat×Option Arr)) (r:V) (bo:List (Nat×List CV)) (ao:List (Nat×Option Arr)) (Z:Eff→Prop):Option (List V×List Nat×Prop)→Prop
 | some (vs',τs,p)=>p∧Ztl (σ.frz τs) n α β γ dst vs0 bx ar r bo ao vs'∧Z ⟨True,gT γ β dst r,bo.map fun p=>(β p.1,p.2.map (rnC γ β)),((ao.map fun p=>(γ p.1,p.2))++ar.map fun p=>(α p.1,none))++τs.map fun τ=>(τ,none)⟩
 | none=>False
section
variable {e:Env} {σ σ':St} {w:World} {N:Nat→Prop} {w0:Bs} {a:Act} {P:Program}
variable {n:Nat} {α β γ:Nat→Nat} {bx bo:List (Nat×List CV)} {ar ao:List (Nat×Option Arr)}
theorem ZqH (τs:List Nat):Up e σ w e (σ.frz τs) w:=⟨Nat.le_refl _,fun _ _ _=>rfl,fun b _ hm=>Zfl hm,fun k cs hk=>⟨⟨cs,hk⟩,rfl⟩,fun τ A hA=>by
 rw [Za5]
 split
 ·exact ⟨none,rfl,fun B hB=>by cases hB⟩
 ·exact ⟨A,hA,fun B hB=>⟨B,hB,Nat.le_refl _,fun _=>rfl⟩⟩,fun τ _ _ _=>⟨rfl,fun _ _=>rfl⟩⟩
theorem ZhQ (h:ZN N w0 e σ a w) {mv:List Nat} {v v':CV} {u:Value} (hr:v.rel e σ w u) {ts:List Nat} {p:Prop} (ht:Zbd σ mv v=some (v',ts,p)) (hp:p) {τs:List Nat} (hs:∀τ∈ts,τ∈τs):v'.rel e (σ.frz τs) w u:=by
 unfold Zbd at ht
 split at ht
 ·simp only [Option.some.injEq,Prod.mk.injEq] at ht
  obtain ⟨rfl,rfl,rfl⟩:=ht
  exact hr
 ·simp only [Option.some.injEq,Prod.mk.injEq] at ht
  obtain ⟨rfl,rfl,rfl⟩:=ht
  exact hr
 ·split at ht
  ·simp only [Option.some.injEq,Prod.mk.injEq] at ht
   obtain ⟨rfl,rfl,rfl⟩:=ht
   exact hr.up (ZqH τs)
  ·obtain ⟨⟨x,t,q⟩,h1,h2⟩:=Option.map_eq_some_iff.1 ht
   simp only [Prod.mk.injEq] at h2
   obtain ⟨rfl,rfl,rfl⟩:=h2
   exact Zhf h hr h1 hp hs
 ·obtain ⟨⟨x,t,q⟩,h1,h2⟩:=Option.map_eq_some_iff.1 ht
  simp only [Prod.mk.injEq] at h2
  obtain ⟨rfl,rfl,rfl⟩:=h2
  exact Zhf h hr h1 hp hs
theorem ZhP (h:ZN N w0 e σ a w) {mv τs:List Nat}:∀{vs vs':List CV} {us:List Value},Yk e σ w vs us→∀{ts:List Nat} {p:Prop},Zda σ mv vs=some (vs',ts,p)→p→(∀τ∈ts,τ∈τs)→Yk e (σ.frz τs) w vs' us
 | [],vs',us,hr,ts,p,ht,hp,hs=>by
  simp only [Zda,Option.some.injEq,Prod.mk.injEq] at ht
  obtain ⟨rfl,rfl,rfl⟩:=ht
  exact hr
 | v::vs,vs',us,hr,ts,p,ht,hp,hs=>by
  simp only [Zda] at ht
  split at ht
  ·rename_i x t q xs u q' h1 h2
   simp only [Option.some.injEq,Prod.mk.injEq] at ht
   obtain ⟨rfl,rfl,rfl⟩:=ht
   simp only [Yk] at hr ⊢
   obtain ⟨v1,vs1,h0,k1,k2⟩:=hr
   exact ⟨v1,vs1,h0,ZhQ h k1 h1 hp.1 fun τ hτ=>hs τ (List.mem_append_left _ hτ),ZhP h k2 h2 hp.2 fun τ hτ=>hs τ (List.mem_append_right _ hτ)⟩
  ·cases ht
theorem ZlX (h:ZN N w0 e σ a w) {mv:List Nat} {v v':V} {u:Value} (hr:v.rel e σ w u) {ts:List Nat} {p:Prop} (ht:Zed σ mv v=some (v',ts,p)) (hp:p) {τs:List Nat} (hs:∀τ∈ts,τ∈τs):v'.rel e (σ.frz τs) w u:=by
 unfold Zed at ht
 split at ht
 ·obtain ⟨⟨x,t,q⟩,h1,h2⟩:=Option.map_eq_some_iff.1 ht
  simp only [Prod.mk.injEq] at h2
  obtain ⟨rfl,rfl,rfl⟩:=h2
  exact ZhQ h hr h1 hp hs
 ·obtain ⟨⟨x,t,q⟩,h1,h2⟩:=Option.map_eq_some_iff.1 ht
  simp only [Prod.mk.injEq] at h2
  obtain ⟨rfl,rfl,rfl⟩:=h2
  obtain ⟨us,hu,hr⟩:=hr
  exact ⟨us,hu,ZhP h hr h1 hp hs⟩
 ·cases ht
theorem Zrt (σ:St) (tm:List (Nat×V)) (c:CV):frC ⟨σ.nt,tm,σ.bx,σ.ar⟩ c=frC σ c:=by cases c<;>rfl
theorem ZjQ (σ:St) (mv:List Nat) (tm:List (Nat×V)) (c:CV):Zbd ⟨σ.nt,tm,σ.bx,σ.ar⟩ mv c=Zbd σ mv c:=by
 unfold Zbd
 split<;>simp only [Zrt]
theorem ZjO (σ:St) (mv:List Nat) (tm:List (Nat×V)):∀(cs:List CV),Zda ⟨σ.nt,tm,σ.bx,σ.ar⟩ mv cs=Zda σ mv cs
 | []=>rfl
 | c::cs=>by simp only [Zda,ZjQ,ZjO σ mv tm cs]
theorem Znn (σ:St) (mv:List Nat) (tm:List (Nat×V)) (v:V):Zed ⟨σ.nt,tm,σ.bx,σ.ar⟩ mv v=Zed σ mv v:=by
 unfold Zed
 split<;>simp only [ZjQ,ZjO]
theorem ZoH (k:Le σ σ') {c:CV} {y:L×List Nat×Prop} (h1:frC σ c=some y):frC σ' c=some y:=by
 have q:=k.frV (c:=.one c) (r:=(.one y.1,y.2)) (by simp only [frV,h1];rfl)
 simp only [frV] at q
 obtain ⟨z,h3,h4⟩:=Option.map_eq_some_iff.1 q
 simp only [Prod.mk.injEq,DV.one.injEq] at h4
 rw [h3];exact congrArg some (Prod.ext h4.1 h4.2)
theorem ZjR (k:Le σ σ') {mv:List Nat} {v:CV} {x:CV×List Nat×Prop} (h:Zbd σ mv v=some x):Zbd σ' mv v=some x:=by
 unfold Zbd at h ⊢
 split at h
 ·exact h
 ·exact h
 ·split at h
  ·rename_i hm;rw [if_pos hm];exact h
  ·rename_i hm;rw [if_neg hm]
   obtain ⟨y,h1,h2⟩:=Option.map_eq_some_iff.1 h
   rw [ZoH k h1,←h2];rfl
 ·obtain ⟨y,h1,h2⟩:=Option.map_eq_some_iff.1 h
  rw [ZoH k h1,←h2];rfl
theorem ZjP (k:Le σ σ') {mv:List Nat}:∀{vs:List CV} {x:List CV×List Nat×Prop},Zda σ mv vs=some x→Zda σ' mv vs=some x
 | [],_,h=>h
 | v::vs,x,h=>by
  simp only [Zda] at h ⊢
  split at h
  ·rename_i h1 h2
   rw [ZjR k h1,ZjP k h2];exact h
  ·cases h
theorem Zno (k:Le σ σ') {mv:List Nat} {v:V} {x:V×List Nat×Prop} (h:Zed σ mv v=some x):Zed σ' mv v=some x:=by
 unfold Zed at h ⊢
 split at h
 ·obtain ⟨y,h1,h2⟩:=Option.map_eq_some_iff.1 h
  rw [ZjR k h1,←h2];rfl
 ·obtain ⟨y,h1,h2⟩:=Option.map_eq_some_iff.1 h
  rw [ZjP k h1,←h2];rfl
 ·cases h
theorem ZfY {mv:List Nat}:∀{vs vs':List V} {ts:List Nat} {p:Prop},Jg σ mv vs=some (vs',ts,p)→vs'.length=vs.length∧(p→∀(j:Nat) (v':V),vs'[j]? =some v'→∃v t q,vs[j]? =some v∧Zed σ mv v=some (v',t,q)∧q∧∀τ∈t,τ∈ts)
 | [],vs',ts,p,h=>by
  simp only [Jg,Option.some.injEq,Prod.mk.injEq] at h
  obtain ⟨rfl,rfl,rfl⟩:=h
  simp
 | v::vs,vs',ts,p,h=>by
  simp only [Jg] at h
  split at h
  ·rename_i x t q xs u q' h1 h2
   simp only [Option.some.injEq,Prod.mk.injEq] at h
   obtain ⟨rfl,rfl,rfl⟩:=h
   obtain ⟨k1,k2⟩:=ZfY h2
   refine ⟨by simp [k1],fun hp j v' hj=> ?_⟩
   cases j with
   | zero=>simp at hj;subst hj;exact ⟨v,t,q,by simp,h1,hp.1,fun τ hτ=>List.mem_append_left _ hτ⟩
   | succ j=>
    obtain ⟨v2,t2,q2,g1,g2,g3,g4⟩:=k2 hp.2 j v' (by simpa using hj)
    exact ⟨v2,t2,q2,by simpa using g1,g2,g3,fun τ hτ=>List.mem_append_right _ (g4 τ hτ)⟩
  ·cases h
theorem Zog {f:Nat} {dst:Option Nat} {vs0 vs:List V} {r:V} {Z:Eff→Prop} (mv:List Nat) (α β γ:Nat→Nat) (c:GC P f n vs0 bx ar r bo ao) (hx:gcK σ dst n α β γ vs0 bx ar r bo ao Z (Jg σ mv vs)):XBy P σ dst f (some vs) Z:=by
 unfold gcK at hx
 split at hx
 ·rename_i vs' τs p ht
  obtain ⟨hp,⟨o1,o2,o3,o4,o5,o6,o7,o8,o9,o10,o11⟩,hz⟩:=hx
  have g:GM (σ.frz τs) n α β γ bx ar bo ao:=by
   refine ⟨fun i cs hi=> ?_,fun i cs j ds hi hj=>ZgV o2 hi hj,fun i A hA=> ?_,fun i A j B hi hj=>ZgV o4 hi hj,fun i cs hi=> ?_,fun i cs hi=> ?_,fun i A hA=> ?_,fun i A j B hi hj=>ZgV o7 hi hj,fun i cs hi c hc=> ?_,fun i cs hi c hc=> ?_⟩
   ·obtain ⟨h1,h2,_⟩:=QC o1 _ (Vj hi)
    unfold bxO at h2
    split at h2
    ·rename_i ds hds;exact ⟨h1,ds,hds,h2⟩
    ·exact h2.elim
   ·obtain ⟨h1,h3⟩:=QC o3 _ (Vj hA)
    refine ⟨h1, ?_⟩
    simp only at h3
    cases A with
    | none=>simp [arO] at h3
    | some B=>
     cases hC:(σ.frz τs).ar.lookup (α i) with
     | none=>rw [hC] at h3;exact .inr ⟨h3.1,by obtain ⟨f,es⟩:=B;obtain ⟨_,h4,h5⟩:=h3;simp only at h4 h5;rw [h4,h5],.inl rfl⟩
     | some C=>
      cases C with
      | none=>rw [hC] at h3;exact .inr ⟨h3.1,by obtain ⟨f,es⟩:=B;obtain ⟨_,h4,h5⟩:=h3;simp only at h4 h5;rw [h4,h5],.inr rfl⟩
      | some C=>rw [hC] at h3;exact .inl ⟨h3.1,C,⟨B,rfl,h3.2.1,h3.2.2⟩,rfl⟩
   ·rcases (QC o5 _ (Vj hi)).1 with h1| h1
    ·exact .inl (Option.isSome_iff_exists.1 h1)
    ·exact .inr h1
   ·exact Option.isSome_iff_exists.1 (QC o1 _ (Vj hi)).2.2.1
   ·obtain ⟨h1,h2,h3,_⟩:=QC o6 _ (Vj hA)
    exact ⟨h1,h2,h3⟩
   ·exact QC (QC o1 _ (Vj hi)).2.2.2 c hc
   ·exact QC (QC o5 _ (Vj hi)).2 c hc
  have hcl:∀v∈vs0,clV bx ar v:=fun v hv=>by
   have:=QC o9 v hv
   cases v with
   | one c=>exact this
   | agg cs=>exact fun c hc=>QC this c hc
   | _=>exact this.elim
  have hrc:Zsd bo ao r:=by
   cases r with
   | one c=>exact o10
   | agg cs=>exact fun c hc=>QC o10 c hc
   | tup ps=>exact fun p hp c hc=>QC (QC o10 p hp) c hc
   | dead=>trivial
  have hao:∀i A,ao.lookup i=some A→∃B,A=some B:=fun i A hA=>Option.isSome_iff_exists.1 (QC o6 _ (Vj hA)).2.2.2
  have hd:∀d,dst=some d→d<(σ.frz τs).nt:=fun d hd=>by subst hd;exact o11
  have H:=c.call g o8 hcl hrc hao hd
  refine ⟨vs,⟨True,gT γ β dst r,bo.map fun p=>(β p.1,p.2.map (rnC γ β)),((ao.map fun p=>(γ p.1,p.2))++ar.map fun p=>(α p.1,none))++τs.map fun τ=>(τ,none)⟩,rfl,.hand _ ⟨H.1,H.2.1,fun σ' k N w0 e a w us h hl hv=> ?_⟩,hz⟩
  have k':LeB (σ.frz τs) (σ'.frz τs) (ZfR α β γ dst r bo ao ar):=by
   refine ⟨k.nt,k.bx,fun τ A hA=> ?_,k.fb,fun p hp hn=> ?_⟩
   ·rw [Za5] at hA ⊢
    split at hA
    ·rename_i hm;rw [if_pos hm];exact hA
    ·rename_i hm;rw [if_neg hm];exact k.ar τ A hA
   ·rw [Za5] at hn ⊢
    split at hn
    ·cases hn
    ·rename_i hm;rw [if_neg hm];exact k.fa p (List.mem_append_left _ hp) hn
  obtain ⟨l1,l2⟩:=ZfY ht
  have kl:Le ⟨σ.nt,[],σ.bx,σ.ar⟩ σ':=⟨k.nt,fun t v h=>by simp at h,k.bx,k.ar⟩
  refine (H.2.2 (σ'.frz τs) k' N w0 e a w us (h.frz τs) (by omega) fun j v' hj=> ?_).mono fun ex w' hR=> ?_
  ·obtain ⟨v,t,q,g1,g2,g3,g4⟩:=l2 hp j v' hj
   obtain ⟨u,h1,h2⟩:=hv j v g1
   exact ⟨u,h1,ZlX h h2 (Zno kl ((Znn σ mv [] v).trans g2)) g3 g4⟩
  ·obtain ⟨u,e',h1,h2⟩:=hR
   refine ⟨u,e',h1, ?_⟩
   have he:(σ'.frz τs).app (ZfR α β γ dst r bo ao ar)=σ'.app ⟨True,gT γ β dst r,bo.map fun p=>(β p.1,p.2.map (rnC γ β)),((ao.map fun p=>(γ p.1,p.2))++ar.map fun p=>(α p.1,none))++τs.map fun τ=>(τ,none)⟩:=by
    simp [St.app,ZfR,St.frz,List.append_assoc]
   rw [←he];exact h2
 ·exact hx.elim
end
def ZjS (rs:List DV):List (Nat×Option Arr):=(Vr 900000 rs).2.map fun p=>(p.1,some ⟨false,p.2.es⟩)
def TP (P:Program) (f n:Nat) (d1:List DV) (cs:List L) (d2:List DV) (rs:List DV) (cs':List L):Prop:=
 GC P f n (d1.map inV++.one (.box (n+d1.length) 0)::d2.map inV) [(n+d1.length,cs.map .l)] [] (ZcH (Vr 900000 rs).1) [(n+d1.length,cs'.map .l)] (ZjS rs)
def TC (P:Program) (f n:Nat) (ds rs:List DV):Prop:=GC P f n (ds.map inV) [] [] (ZcH (Vr 900000 rs).1) [] (ZjS rs)
def ZrZ (σ:St) (n:Nat) (d1:List DV) (cs:List L) (d2:List DV) (rs:List DV) (cs':List L) (Z:Eff→Prop) (vs:List V):List V→Option Nat→Prop
 | .one (.box k 0)::_,some d=>gcK σ (some d) n (fun i=>i) (fun _=>k) (fun i=>64*d+(i-900000)) (d1.map inV++.one (.box (n+d1.length) 0)::d2.map inV) [(n+d1.length,cs.map .l)] [] (ZcH (Vr 900000 rs).1) [(n+d1.length,cs'.map .l)] (ZjS rs) Z (Jg σ [] vs)
 | _,_=>False
def ZqO (σ:St) (n:Nat) (ds rs:List DV) (Z:Eff→Prop) (vs:List V):Option Nat→Prop
 | some d=>gcK σ (some d) n (fun i=>i) (fun i=>i) (fun i=>64*d+(i-900000)) (ds.map inV) [] [] (ZcH (Vr 900000 rs).1) [] (ZjS rs) Z (Jg σ [] vs)
 | none=>False
def toV:Bool×List CV→V
 | (true,cs)=>.agg cs
 | (false,[c])=>.one c
 | (false,_)=>.dead
def mvA (dm:List DV):List (Nat×Option Arr):=(Vr 910000 dm).2.map fun p=>(p.1,some ⟨false,p.2.es⟩)
def slN:Nat→List CV→List Nat
 | _,[]=>[]
 | k,.own τ _::cs=>τ::slN (k+1) cs
 | k,.nil::cs=>(2000000+k)::slN (k+1) cs
 | k,_::cs=>slN k cs
def vcs:V→List CV
 | .one c=>[c]
 | .agg cs=>cs
 | _=>[]
def TM (P:Program) (f n:Nat) (ds dm rs:List DV):Prop:=
 GC P f n (ds.map inV++(Vr 910000 dm).1.map toV) [] (mvA dm) (ZcH (Vr 900000 rs).1) [] (ZjS rs)
def TQ (P:Program) (f n:Nat) (d1:List DV) (cs:List L) (d2 dm rs:List DV) (cs':List L):Prop:=
 GC P f n (d1.map inV++.one (.box (n+d1.length) 0)::(d2.map inV++(Vr 910000 dm).1.map toV)) [(n+d1.length,cs.map .l)] (mvA dm) (ZcH (Vr 900000 rs).1) [(n+d1.length,cs'.map .l)] (ZjS rs)
def ZrY (σ:St) (n:Nat) (ds dm rs:List DV) (Z:Eff→Prop) (vs:List V) (mv:List Nat):Option Nat→Prop
 | some d=>gcK σ (some d) n (fun i=>mv.getD (i-910000) 0) (fun i=>i) (fun i=>64*d+(i-900000)) (ds.map inV++(Vr 910000 dm).1.map toV) [] (mvA dm) (ZcH (Vr 900000 rs).1) [] (ZjS rs) Z (Jg σ mv vs)
 | _=>False
def ZrX (σ:St) (n:Nat) (d1:List DV) (cs:List L) (d2 dm rs:List DV) (cs':List L) (Z:Eff→Prop) (vs:List V) (mv:List Nat):List V→Option Nat→Prop
 | .one (.box k 0)::_,some d=>gcK σ (some d) n (fun i=>mv.getD (i-910000) 0) (fun _=>k) (fun i=>64*d+(i-900000)) (d1.map inV++.one (.box (n+d1.length) 0)::(d2.map inV++(Vr 910000 dm).1.map toV)) [(n+d1.length,cs.map .l)] (mvA dm) (ZcH (Vr 900000 rs).1) [(n+d1.length,cs'.map .l)] (ZjS rs) Z (Jg σ mv vs)
 | _,_=>False
section
variable {P:Program} {σ:St}
theorem ZtH {f n:Nat} {dst:Option Nat} {d1 d2 rs:List DV} {cs cs':List L} {vs:List V} {Z:Eff→Prop} (c:TP P f n d1 cs d2 rs cs') (hx:ZrZ σ n d1 cs d2 rs cs' Z vs (vs.drop d1.length) dst):XBy P σ dst f (some vs) Z:=by
 unfold ZrZ at hx
 split at hx
 ·exact Zog [] _ _ _ c hx
 ·exact hx.elim
theorem ZrI {f n:Nat} {dst:Option Nat} {ds rs:List DV} {vs:List V} {Z:Eff→Prop} (c:TC P f n ds rs) (hx:ZqO σ n ds rs Z vs dst):XBy P σ dst f (some vs) Z:=by
 unfold ZqO at hx
 split at hx
 ·exact Zog [] _ _ _ c hx
 ·exact hx.elim
theorem ZtI {f n:Nat} {dst:Option Nat} {ds dm rs:List DV} {vs:List V} {Z:Eff→Prop} (c:TM P f n ds dm rs) (hx:ZrY σ n ds dm rs Z vs (slN 0 ((vs.drop ds.length).flatMap vcs)) dst):XBy P σ dst f (some vs) Z:=by
 unfold ZrY at hx
 split at hx
 ·exact Zog _ _ _ _ c hx
 ·exact hx.elim
theorem ZtG {f n:Nat} {dst:Option Nat} {d1 d2 dm rs:List DV} {cs cs':List L} {vs:List V} {Z:Eff→Prop} (c:TQ P f n d1 cs d2 dm rs cs') (hx:ZrX σ n d1 cs d2 dm rs cs' Z vs (slN 0 ((vs.drop (d1.length+1+d2.length)).flatMap vcs)) (vs.drop d1.length) dst):XBy P σ dst f (some vs) Z:=by
 unfold ZrX at hx
 split at hx
 ·exact Zog _ _ _ _ c hx
 ·exact hx.elim
theorem Zir:∀{ds:List DV} {i:Nat},Zef i (ds.map inV)=Zfb i ds
 | [],_=>rfl
 | d::ds,i=>by simp only [List.map_cons,Zef,Zfb];rw [Zir]
theorem ZqG {f:Nat} {fn:Func} {c:Code} {nt:Nat} {rv:Array ResultVar} (hf:P.funcs[f]? =some fn) (hnt:fn.ntmps=nt) (hrv:fn.results=rv) {ds rs:List DV}
  (h:∀N w0,Bok N w0→True→AW P N w0 c (Zr9 P rv nt (ZcH (Vr 900000 rs).1) [] (ZjS rs)) ⟨nt,Zfb 0 ds,[],[]⟩) (hok:W5 P f=true:=by kernel_rfl) (hb:fn.body=some c:=by rfl) (hds:ds.length≤nt:=by simp):TC P f nt ds rs:=
 GC.ZbP hok hf hb hnt hrv (by simpa using hds) fun N w0 hbk=>by
  rw [Zir];exact h N w0 hbk trivial
end
section
variable {α β γ:Nat→Nat} {bx bo:List (Nat×List CV)} {ar ao:List (Nat×Option Arr)} {x y:L} {v:Value} {i j n m o:Nat} {ls:List L} {cs ds:List CV} {c d:CV} {σ:St} {mv:List Nat}
theorem Zs8:mtC α β (.l x) (.l y)=(x=y):=rfl
theorem Zs7:mtC α β (.l x) (.kept v y)=(x=y):=rfl
theorem Zs6:mtC α β (.l x) .nil=(x= .sl []):=rfl
theorem Zs5:mtC α β .nil .nil=True:=rfl
theorem Zs4:mtC α β .np .np=True:=rfl
theorem Zs3 {ks:List L}:mtC α β (.adr ls) (.adr ks)=(ls=ks):=rfl
theorem Zs2:mtC α β (.own i n) (.own j m)=(α i=j∧n=m∧j<1000000):=rfl
theorem Zs0:mtC α β (.own i n) .nil=(2000000≤α i∧n=0):=rfl
theorem Zs1 {o':Nat}:mtC α β (.box i o) (.box j o')=(β i=j∧o=o'):=rfl
theorem ZsZ:mtV α β (.one c) (.one d)=mtC α β c d:=rfl
theorem ZsY:mtV α β (.agg cs) (.agg ds)=mtL α β cs ds:=rfl
theorem ZsO:rnC γ β (.l x)= .l x:=rfl
theorem ZsN:rnC γ β .nil= .nil:=rfl
theorem ZsM:rnC γ β .np= .np:=rfl
theorem ZsL:rnC γ β (.adr ls)= .adr ls:=rfl
theorem ZsK:rnC γ β (.own i n)= .own (γ i) n:=rfl
theorem ZsJ:rnC γ β (.box i o)= .box (β i) o:=rfl
theorem ZsI:rnC γ β (.kept v x)= .l x:=rfl
theorem ZsH:rnV γ β (.one c)= .one (rnC γ β c):=rfl
theorem ZsG:rnV γ β (.agg cs)= .agg (cs.map (rnC γ β)):=rfl
theorem ZsF {ps:List (Bool×List CV)}:rnV γ β (.tup ps)= .tup (ps.map fun p=>(p.1,p.2.map (rnC γ β))):=rfl
theorem ZtE:clC bx ar (.l x)=True:=rfl
theorem ZtD:clC bx ar .nil=True:=rfl
theorem ZtC:clC bx ar .np=True:=rfl
theorem ZtB:clC bx ar (.adr ls)=True:=rfl
theorem ZtA:clC bx ar (.own i n)=((ar.lookup i).isSome=true):=rfl
theorem Ztz:clC bx ar (.box i o)=((bx.lookup i).isSome=true):=rfl
theorem Zty:clO bo ao (.l x)=True:=rfl
theorem Ztx:clO bo ao .nil=True:=rfl
theorem Ztw:clO bo ao .np=True:=rfl
theorem Ztv:clO bo ao (.adr ls)=True:=rfl
theorem Ztu:clO bo ao (.own i n)=∃A,ao.lookup i=some (some A):=rfl
theorem Ztt:clO bo ao (.box i o)=((bo.lookup i).isSome=true):=rfl
theorem ZrH:Zts bx ar (.one c)=clC bx ar c:=rfl
theorem ZrG:Zts bx ar (.agg cs)=Zho (clC bx ar) cs:=rfl
theorem Zqa:Zoc bo ao (.one c)=clO bo ao c:=rfl
theorem Zp9:Zoc bo ao (.agg cs)=Zho (clO bo ao) cs:=rfl
theorem Zp8 {ps:List (Bool×List CV)}:Zoc bo ao (.tup ps)=Zho (fun p=>Zho (clO bo ao) p.2) ps:=rfl
theorem Zo6:Zbd σ mv (.box i o)=some (.box i o,[],True):=rfl
theorem Zo5:Zbd σ mv (.own i n)=if i∈mv then some (.own i n,[],True) else (frC σ (.own i n)).map fun r=>(.l r.1,r.2):=rfl
theorem Zo4:Zbd σ mv (.l x)=some (.l x,[],True):=rfl
theorem Zo3:Zbd σ mv (.kept v x)=some (.l x,[],True):=rfl
theorem Zo2:Zbd σ mv .nil=some (.nil,[],True):=rfl
theorem Zo1:Zed σ mv (.one c)=(Zbd σ mv c).map fun r=>(.one r.1,r.2):=rfl
theorem Zo0:Zed σ mv (.agg cs)=(Zda σ mv cs).map fun r=>(.agg r.1,r.2):=rfl
theorem Zsp:toV (true,cs)= .agg cs:=rfl
theorem Zso:toV (false,[c])= .one c:=rfl
theorem Zsx:slN i []=[]:=rfl
theorem Zsw:slN i (.own j n::cs)=j::slN (i+1) cs:=rfl
theorem Zsv:slN i (.nil::cs)=(2000000+i)::slN (i+1) cs:=rfl
theorem Zsu:slN i (.l x::cs)=slN i cs:=rfl
theorem Zst:slN i (.kept v x::cs)=slN i cs:=rfl
theorem Zsm:vcs (.one c)=[c]:=rfl
theorem Zsl:vcs (.agg cs)=cs:=rfl
theorem ZtK:bxO α β cs (some ds)=mtL α β cs ds:=rfl
theorem ZtJ:bxO α β cs none=False:=rfl
theorem ZtP {B C:Arr}:arO n (some B) (some (some C))=(n<1000000∧B.fr=false∧B.es=C.es):=rfl
theorem ZtO {B:Arr}:arO n (some B) none=(2000000≤n∧B.fr=false∧B.es=[]):=rfl
theorem ZtN {B:Arr}:arO n (some B) (some none)=(2000000≤n∧B.fr=false∧B.es=[]):=rfl
theorem ZwA:dO n (some m)=(m<n):=rfl
theorem Zwz:dO n none=True:=rfl
theorem Zq3 {v:V}:Zoy [v]=some v:=rfl
theorem Zq2:Zoy []=some (.tup []):=rfl
theorem Zq1 {v u:V} {vs:List V}:Zoy (v::u::vs)=(Znp (v::u::vs)).map .tup:=rfl
theorem Zsr:toP (.one c)=some (false,[c]):=rfl
theorem Zsq:toP (.agg cs)=some (true,cs):=rfl
theorem Zwa {r:V}:gT γ β (some i) r=[(i,rnV γ β r)]:=rfl
theorem Zpj {r x:V}:Zpk n r bo ao σ (some x)=(0<n∧n=σ.nt∧Zqq ⟨n,[(0,r)],bo,ao⟩ ⟨n,(0,x)::σ.tm,σ.bx,σ.ar⟩):=rfl
theorem Ztm {dst:Option Nat} {vs0 vs':List V} {r:V} {Z:Eff→Prop} {τs:List Nat} {p:Prop}:gcK σ dst n α β γ vs0 bx ar r bo ao Z (some (vs',τs,p))=(p∧Ztl (σ.frz τs) n α β γ dst vs0 bx ar r bo ao vs'∧Z ⟨True,gT γ β dst r,bo.map fun p=>(β p.1,p.2.map (rnC γ β)),((ao.map fun p=>(γ p.1,p.2))++ar.map fun p=>(α p.1,none))++τs.map fun τ=>(τ,none)⟩):=rfl
theorem Zry {P:Program} {rv:Array ResultVar} {r:V}:Zr9 P rv n r bo ao .normal σ=Zpl P rv n r bo ao σ:=rfl
theorem Zrx {P:Program} {rv:Array ResultVar} {r:V}:Zr9 P rv n r bo ao .ret σ=Zpl P rv n r bo ao σ:=rfl
theorem ZqM {d1 d2 rs:List DV} {ls ls':List L} {Z:Eff→Prop} {vs l:List V} {k:Nat}:ZrZ σ n d1 ls d2 rs ls' Z vs (.one (.box k 0)::l) (some m)=gcK σ (some m) n (fun i=>i) (fun _=>k) (fun i=>64*m+(i-900000)) (d1.map inV++.one (.box (n+d1.length) 0)::d2.map inV) [(n+d1.length,ls.map .l)] [] (ZcH (Vr 900000 rs).1) [(n+d1.length,ls'.map .l)] (ZjS rs) Z (Jg σ [] vs):=rfl
theorem ZqN {ds rs:List DV} {Z:Eff→Prop} {vs:List V}:ZqO σ n ds rs Z vs (some m)=gcK σ (some m) n (fun i=>i) (fun i=>i) (fun i=>64*m+(i-900000)) (ds.map inV) [] [] (ZcH (Vr 900000 rs).1) [] (ZjS rs) Z (Jg σ [] vs):=rfl
theorem ZqL {ds0 dm rs:List DV} {Z:Eff→Prop} {vs:List V}:ZrY σ n ds0 dm rs Z vs mv (some m)=gcK σ (some m) n (fun i=>mv.getD (i-910000) 0) (fun i=>i) (fun i=>64*m+(i-900000)) (ds0.map inV++(Vr 910000 dm).1.map toV) [] (mvA dm) (ZcH (Vr 900000 rs).1) [] (ZjS rs) Z (Jg σ mv vs):=rfl
theorem ZqK {d1 d2 dm rs:List DV} {ls ls':List L} {Z:Eff→Prop} {vs l:List V} {k:Nat}:ZrX σ n d1 ls d2 dm rs ls' Z vs mv (.one (.box k 0)::l) (some m)=gcK σ (some m) n (fun i=>mv.getD (i-910000) 0) (fun _=>k) (fun i=>64*m+(i-900000)) (d1.map inV++.one (.box (n+d1.length) 0)::(d2.map inV++(Vr 910000 dm).1.map toV)) [(n+d1.length,ls.map .l)] (mvA dm) (ZcH (Vr 900000 rs).1) [(n+d1.length,ls'.map .l)] (ZjS rs) Z (Jg σ mv vs):=rfl
end
attribute [go_sem] Zs8 Zs7 Zs6 Zs5 Zs4 Zs3 Zs2 Zs1 Zs0 ZsZ ZsY mtL ZnL ZsO ZsN ZsM ZsL ZsK ZsJ ZsI ZsH ZsG ZsF ZtE ZtD ZtC ZtB ZtA Ztz Zty Ztx Ztw Ztv Ztu Ztt ZrH ZrG Zqa Zp9 Zp8 Zo6 Zo5 Zo4 Zo3 Zo2 Zda Zo1 Zo0 Jg Zsp Zso Zsx Zsw Zsv Zsu Zst Zsm Zsl mvA Zef ZtK ZtJ ZtP ZtO ZtN ZwA Zwz Zq3 Zq2 Zq1 Zsr Zsq Znp Zwa Zpj Zpl Ztm Ztl Zry Zrx ZqM ZqN ZqL ZqK ZjS Zho ndP Zqq St.frz
end Go.Proofs.YtfapaeabfcogkaaGreatDoor.Am
namespace Go.Proofs.YtfapaeabfcogkaaGreatDoor.Am
open Go.RowKit
abbrev Ty {p:Prop} (_:p):Prop:=p
class HC (f:Nat) (T:outParam Prop):Prop where h:T
def oI (n:Int):V:=.one (.l (.int .i64 n))
def oB (b:Bool):V:=.one (.l (.bool b))
def oS (s:ByteArray):V:=.one (.l (.str s))
def oL {α:Type} (c:α→List L) (xs:List α):V:=.one (.l (.sl (xs.map c)))
def oO (τ n:Nat):V:=.one (.own τ n)
def oX (k:Nat):V:=.one (.box k 0)
def oT (ls:List L):V:=.agg (ls.map CV.l)
def bT (ls:List L):List CV:=ls.map CV.l
def cI (n:Int):CV:=.l (.int .i64 n)
def cB (b:Bool):CV:=.l (.bool b)
def cS (s:ByteArray):CV:=.l (.str s)
def cL {α:Type} (c:α→List L) (xs:List α):CV:=.l (.sl (xs.map c))
def aT {α:Type} (c:α→List L) (xs:List α):Option Arr:=some ⟨true,xs.map c⟩
def aF {α:Type} (c:α→List L) (xs:List α):Option Arr:=some ⟨false,xs.map c⟩
def pk {α:Type} (l:List (Nat×α)):List Nat→List (Nat×α)
 | []=>[]
 | t::ts=>match l.lookup t with | some v=>(t,v)::pk l ts| none=>pk l ts
def pkO {α:Type} (l:List (Nat×α)) (ts:List Nat) (t:Nat):Option α→List (Nat×α)
 | some v=>(t,v)::pk l ts
 | none=>pk l ts
theorem Zq6 {α:Type} (l:List (Nat×α)):pk l []=[]:=rfl
theorem Zpi {α:Type} (l:List (Nat×α)) (t:Nat) (ts:List Nat):pk l (t::ts)=pkO l ts t (l.lookup t):=by
 rw [pk];cases l.lookup t<;>rfl
def St.of (σ:St) (ts ks τs:List Nat) (ch:List (Nat×V)) (cb:List (Nat×List CV)) (ca:List (Nat×Option Arr)):St:=⟨σ.nt,ch++pk σ.tm ts,cb++pk σ.bx ks,ca++pk σ.ar τs⟩
attribute [go_sem] oI oB oS oL oO oX cI cB cS cL oT bT aT aF Zq6 Zpi pkO St.of
structure Wt (p:Prop):Prop where
 h:p
theorem wt {p:Prop} (h:p):Wt p:=⟨h⟩
section
variable {P:Program} {ops:Array Oper} {σ σ':St} {K:St→Prop} {o:Oper} {rest:List Oper} {b want:Bool}
theorem gd {ρ:Type} {b':Bool} {A B r:ρ} (hM:(if b=true then A else B)=r) (ht:b=true→A=r→Wt (Vp P ops o rest σ K want (some b'))) (hf:b=false→B=r→Wt (Vp P ops o rest σ K want (some b'))):Vp P ops o rest σ K want (some b'):=by
 cases b
 ·exact (hf rfl (by simpa using hM)).h
 ·exact (ht rfl (by simpa using hM)).h
end
section
variable {P:Program} {N:Nat→Prop} {w0:Bs} {Q:Exit→St→Prop} {x y:Code} {σ σ':St} {K:St→Prop}
theorem hsq (hK:∀σ,AW P N w0 y Q σ→K σ) (h:AW P N w0 y Q σ):K σ:=hK σ h
theorem fs {ι:Type} {S:ι→St} {I:ι→Prop} (hK:∀i σ',I i→Zei (S i) σ'→K σ') {i:ι} (hi:I i) (h:Zbc (S i) σ:=by constructor<;>simp [go_sem,F]):K σ:=hK i σ hi h.into
theorem fs2 {α β:Type} {S:α×β→St} {I:α×β→Prop} {J:α→β→Prop} (hK:∀i σ',I i→Zei (S i) σ'→K σ') (hJ:∀a b,J a b→I (a,b)) {a:α} {b:β} (hi:J a b) (h:Zbc (S (a,b)) σ:=by constructor<;>simp [go_sem,F]):K σ:=hK _ σ (hJ _ _ hi) h.into
theorem fs3 {α β γ:Type} {S:α×β×γ→St} {I:α×β×γ→Prop} {J:α→β→γ→Prop} (hK:∀i σ',I i→Zei (S i) σ'→K σ') (hJ:∀a b c,J a b c→I (a,b,c)) {a:α} {b:β} {c:γ} (hi:J a b c) (h:Zbc (S (a,b,c)) σ:=by constructor<;>simp [go_sem,F]):K σ:=hK _ σ (hJ _ _ _ hi) h.into
theorem fs4 {α β γ δ:Type} {S:α×β×γ×δ→St} {I:α×β×γ×δ→Prop} {J:α→β→γ→δ→Prop} (hK:∀i σ',I i→Zei (S i) σ'→K σ') (hJ:∀a b c d,J a b c d→I (a,b,c,d)) {a:α} {b:β} {c:γ} {d:δ} (hi:J a b c d) (h:Zbc (S (a,b,c,d)) σ:=by constructor<;>simp [go_sem,F]):K σ:=hK _ σ (hJ _ _ _ _ hi) h.into
theorem fs5 {α β γ δ ε:Type} {S:α×β×γ×δ×ε→St} {I:α×β×γ×δ×ε→Prop} {J:α→β→γ→δ→ε→Prop} (hK:∀i σ',I i→Zei (S i) σ'→K σ') (hJ:∀a b c d f,J a b c d f→I (a,b,c,d,f)) {a:α} {b:β} {c:γ} {d:δ} {f:ε} (hi:J a b c d f) (h:Zbc (S (a,b,c,d,f)) σ:=by constructor<;>simp [go_sem,F]):K σ:=hK _ σ (hJ _ _ _ _ _ hi) h.into
theorem fs6 {α β γ δ ε ζ:Type} {S:α×β×γ×δ×ε×ζ→St} {I:α×β×γ×δ×ε×ζ→Prop} {J:α→β→γ→δ→ε→ζ→Prop} (hK:∀i σ',I i→Zei (S i) σ'→K σ') (hJ:∀a b c d f g,J a b c d f g→I (a,b,c,d,f,g)) {a:α} {b:β} {c:γ} {d:δ} {f:ε} {g:ζ} (hi:J a b c d f g) (h:Zbc (S (a,b,c,d,f,g)) σ:=by constructor<;>simp [go_sem,F]):K σ:=hK _ σ (hJ _ _ _ _ _ _ hi) h.into
theorem fs7 {α β γ δ ε ζ η:Type} {S:α×β×γ×δ×ε×ζ×η→St} {I:α×β×γ×δ×ε×ζ×η→Prop} {J:α→β→γ→δ→ε→ζ→η→Prop} (hK:∀i σ',I i→Zei (S i) σ'→K σ') (hJ:∀a b c d f g u,J a b c d f g u→I (a,b,c,d,f,g,u)) {a:α} {b:β} {c:γ} {d:δ} {f:ε} {g:ζ} {u:η} (hi:J a b c d f g u) (h:Zbc (S (a,b,c,d,f,g,u)) σ:=by constructor<;>simp [go_sem,F]):K σ:=hK _ σ (hJ _ _ _ _ _ _ _ hi) h.into
theorem fs8 {α β γ δ ε ζ η θ:Type} {S:α×β×γ×δ×ε×ζ×η×θ→St} {I:α×β×γ×δ×ε×ζ×η×θ→Prop} {J:α→β→γ→δ→ε→ζ→η→θ→Prop} (hK:∀i σ',I i→Zei (S i) σ'→K σ') (hJ:∀a b c d f g u v,J a b c d f g u v→I (a,b,c,d,f,g,u,v)) {a:α} {b:β} {c:γ} {d:δ} {f:ε} {g:ζ} {u:η} {v:θ} (hi:J a b c d f g u v) (h:Zbc (S (a,b,c,d,f,g,u,v)) σ:=by constructor<;>simp [go_sem,F]):K σ:=hK _ σ (hJ _ _ _ _ _ _ _ _ hi) h.into
theorem fs9 {α β γ δ ε ζ η θ κ:Type} {S:α×β×γ×δ×ε×ζ×η×θ×κ→St} {I:α×β×γ×δ×ε×ζ×η×θ×κ→Prop} {J:α→β→γ→δ→ε→ζ→η→θ→κ→Prop} (hK:∀i σ',I i→Zei (S i) σ'→K σ') (hJ:∀a b c d f g u v x,J a b c d f g u v x→I (a,b,c,d,f,g,u,v,x)) {a:α} {b:β} {c:γ} {d:δ} {f:ε} {g:ζ} {u:η} {v:θ} {x:κ} (hi:J a b c d f g u v x) (h:Zbc (S (a,b,c,d,f,g,u,v,x)) σ:=by constructor<;>simp [go_sem,F]):K σ:=hK _ σ (hJ _ _ _ _ _ _ _ _ _ hi) h.into
theorem Zwb {α β γ δ ε ζ η θ κ μ:Type} {S:α×β×γ×δ×ε×ζ×η×θ×κ×μ→St} {I:α×β×γ×δ×ε×ζ×η×θ×κ×μ→Prop} {J:α→β→γ→δ→ε→ζ→η→θ→κ→μ→Prop} (hK:∀i σ',I i→Zei (S i) σ'→K σ') (hJ:∀a b c d f g u v x y,J a b c d f g u v x y→I (a,b,c,d,f,g,u,v,x,y)) {a:α} {b:β} {c:γ} {d:δ} {f:ε} {g:ζ} {u:η} {v:θ} {x:κ} {y:μ} (hi:J a b c d f g u v x y) (h:Zbc (S (a,b,c,d,f,g,u,v,x,y)) σ:=by constructor<;>simp [go_sem,F]):K σ:=hK _ σ (hJ _ _ _ _ _ _ _ _ _ _ hi) h.into
theorem ZrU {o:Operand} (h:AW P N w0 x Q σ) (ho:opd σ o=some (.one (.l (.bool true))):=by simp [go_sem,F]):AW P N w0 (.cond o x y) Q σ:=ZjJ ho (fun _=>h) (fun h=>nomatch h)
theorem ZrV {o:Operand} (h:AW P N w0 y Q σ) (ho:opd σ o=some (.one (.l (.bool false))):=by simp [go_sem,F]):AW P N w0 (.cond o x y) Q σ:=ZjJ ho (fun h=>nomatch h) (fun _=>h)
theorem S1 {id:Nat} {l:List Oper} (h:AW P N w0 y Q σ') (ho:∀K:St→Prop,K σ'→Z9 P l.toArray l σ K:=by intro K h;simp (maxSteps:=9999999) [go_sem,F];exact h):AW P N w0 (.seq (.region id l.toArray false) y) Q σ:=Zw fun K hK=>ho K (hK _ h)
theorem le1 (ts ks τs:List Nat) (h:AW P N w0 x Q σ') (ch:List (Nat×V):=[]) (cb:List (Nat×List CV):=[]) (ca:List (Nat×Option Arr):=[]) (e:σ.of ts ks τs ch cb ca=σ':=by simp [go_sem];exact rfl) (k:Zbc σ' σ:=by constructor<;>simp [go_sem,F]):AW P N w0 x Q σ:=Zb1 k.into h
theorem mj {ι ρ:Type} (ts ks τs:List Nat) (ch:ι→List (Nat×V)) {m:Option ι} {g:ι→Option ρ} {r:ρ} {S:ι→St} (hM:m.bind g=some r) (hx:∀e,m=some e→∀K:St→Prop,(∀i σ',i=e→Zei (S i) σ'→K σ')→AW P N w0 x (ZhT K Q) σ) (hy:∀i,g i=some r→AW P N w0 y Q (S i))
  (cb:ι→List (Nat×List CV):=fun _=>[]) (ca:ι→List (Nat×Option Arr):=fun _=>[]) (e:∀i,σ.of ts ks τs (ch i) (cb i) (ca i)=S i:=by intro i;simp [go_sem];exact rfl):AW P N w0 (.seq x y) Q σ:=by
 obtain ⟨v,h1,h2⟩:=bind_some hM
 exact Znc S (fun i=>i=v) (hx v h1) (fun i hi=>hy i (hi▸h2))
theorem mjE {ι κ ρ:Type} (ts ks τs:List Nat) (ch:ι→List (Nat×V)) {m:Option (ι ⊕ κ)} {g:ι ⊕ κ→Option ρ} {r:ρ} {S:ι→St} (hM:m.bind g=some r) (hx:∀e,m=some e→g e=some r→∀K:St→Prop,(∀i σ',.inl i=e→Zei (S i) σ'→K σ')→AW P N w0 x (ZhT K Q) σ) (hy:∀i,g (.inl i)=some r→AW P N w0 y Q (S i))
  (cb:ι→List (Nat×List CV):=fun _=>[]) (ca:ι→List (Nat×Option Arr):=fun _=>[]) (e:∀i,σ.of ts ks τs (ch i) (cb i) (ca i)=S i:=by intro i;simp [go_sem];exact rfl):AW P N w0 (.seq x y) Q σ:=by
 obtain ⟨v,h1,h2⟩:=bind_some hM
 exact Znc S (fun i=>.inl i=v) (hx v h1 h2) (fun i hi=>hy i (by rw [hi];exact h2))
theorem lp {ι:Type} (ts ks τs:List Nat) (ch:ι→List (Nat×V)) (I:Nat→ι→Prop) (n0:Nat) (i0:ι) {S:ι→St} (h0:I n0 i0) (hz:∀i,¬I 0 i)
  (body:∀(KL:St→Prop) (n:Nat) (i:ι),(∀i' σ',I n i'→Zei (S i') σ'→KL σ')→I (n+1) i→True→AW P N w0 x (ZhT KL Q) (S i)) (cb:ι→List (Nat×List CV):=fun _=>[]) (ca:ι→List (Nat×Option Arr):=fun _=>[])
  (e:∀i,σ.of ts ks τs (ch i) (cb i) (ca i)=S i:=by intro i;simp [go_sem];exact rfl) (hk:Zbc (S i0) σ:=by constructor<;>simp [go_sem,F]):AW P N w0 (.loop x) Q σ:=
 ZtS S I n0 i0 h0 hz body hk
theorem qI {f:Nat} {ds ds':List DV} {fr pu:Bool} {rs:List DV} {X:Bool→Bool→List DV→Prop} {Y:Prop} {T:Prop} [i:HC f T] {α:Type} {m:Option α} {z:α} (e:m=some z) (hx:Wt (X fr false rs)) (h:T→m=some z→Ctr P f ds fr rs:=by intro h e;apply h;exact e) (hd:ds'=ds:=by first | (simp [go_sem,F];done)| fail) (hp:fr=false→pu=true:=by first | exact fun _=>rfl| (intro h;contradiction)):Jx P f ds' pu X Y:=
 ZoR false (h i.h e) hd hp hx.h
theorem qP {f:Nat} {dst:Option Nat} {vs:List V} {d1 d2:List DV} {ls ls':List L} {fr:Bool} {rs:List DV} {Z:Eff→Prop} {T:Prop} [i:HC f T] {α:Type} {m:Option α} {z:α} (e:m=some z) (hx:Wt (Zr3 σ dst d1.length d1 ls d2 fr rs ls' Z (Zf7 σ d1.length vs))) (h:T→m=some z→Kd P f d1 ls d2 fr rs ls':=by intro h e;apply h;exact e):XBy P σ dst f (some vs) Z:=
 ZH _ (h i.h e) hx.h
theorem qS {f:Nat} {dst:Option Nat} {vs:List V} {d1 d2:List DV} {ls ls':List L} {fr:Bool} {rs:List DV} {Z:Eff→Prop} {T:Prop} [i:HC f T] {α:Type} {m:Option α} {z:α} (e:m=some z) (hx:Wt (ZnD σ dst d1.length d1 ls d2 fr rs ls' Z (Zf7 σ d1.length vs))) (h:T→m=some z→Zqo P f d1 ls d2 fr rs ls':=by intro h e;apply h;exact e):XBy P σ dst f (some vs) Z:=
 Zqg _ (h i.h e) hx.h
theorem qZ {f:Nat} {dst:Option Nat} {vs:List V} {ds ds':List DV} {pu:Bool} {X:Bool→Bool→List DV→Prop} {rs:List DV} {Z:Eff→Prop} {T:Prop} [i:HC f T] {α:Type} {m:Option α} {z:α} (e:m=some z) (hx:Wt (ZnZ σ dst ds rs Z (Zc0 σ vs))) (h:T→m=some z→Ctr P f ds false rs:=by intro h e;apply h;exact e):Jx P f ds' pu X (XBy P σ dst f (some vs) Z):=Zqh (h i.h e) hx.h
theorem qT {f n:Nat} {dst:Option Nat} {vs:List V} {d1 d2 rs:List DV} {ls ls':List L} {Z:Eff→Prop} {T:Prop} [i:HC f T] {α:Type} {m:Option α} {z:α} (e:m=some z) (hx:Wt (ZrZ σ n d1 ls d2 rs ls' Z vs (vs.drop d1.length) dst)) (h:T→m=some z→TP P f n d1 ls d2 rs ls':=by intro h e;apply h;exact e):XBy P σ dst f (some vs) Z:=ZtH (h i.h e) hx.h
theorem qU {f n:Nat} {dst:Option Nat} {vs:List V} {ds ds' rs:List DV} {pu:Bool} {X:Bool→Bool→List DV→Prop} {Z:Eff→Prop} {T:Prop} [i:HC f T] {α:Type} {m:Option α} {z:α} (e:m=some z) (hx:Wt (ZqO σ n ds rs Z vs dst)) (h:T→m=some z→TC P f n ds rs:=by intro h e;apply h;exact e):Jx P f ds' pu X (XBy P σ dst f (some vs) Z):=.inr (ZrI (h i.h e) hx.h)
theorem qM {f n:Nat} {dst:Option Nat} {vs:List V} {ds dm ds' rs:List DV} {pu:Bool} {X:Bool→Bool→List DV→Prop} {Z:Eff→Prop} {T:Prop} [i:HC f T] {α:Type} {m:Option α} {z:α} (e:m=some z) (hx:Wt (ZrY σ n ds dm rs Z vs (slN 0 ((vs.drop ds.length).flatMap vcs)) dst)) (h:T→m=some z→TM P f n ds dm rs:=by intro h e;apply h;exact e):Jx P f ds' pu X (XBy P σ dst f (some vs) Z):=.inr (ZtI (h i.h e) hx.h)
theorem qQ {f n:Nat} {dst:Option Nat} {vs:List V} {d1 d2 dm rs:List DV} {ls ls':List L} {Z:Eff→Prop} {T:Prop} [i:HC f T] {α:Type} {m:Option α} {z:α} (e:m=some z) (hx:Wt (ZrX σ n d1 ls d2 dm rs ls' Z vs (slN 0 ((vs.drop (d1.length+1+d2.length)).flatMap vcs)) (vs.drop d1.length) dst)) (h:T→m=some z→TQ P f n d1 ls d2 dm rs ls':=by intro h e;apply h;exact e):XBy P σ dst f (some vs) Z:=ZtG (h i.h e) hx.h
theorem qR {f:Nat} {dst:Option Nat} {vs:List V} {ds ds':List DV} {pu:Bool} {X:Bool→Bool→List DV→Prop} {cs:List L} {Z:Eff→Prop} {T:Prop} [i:HC f T] {α:Type} {m:Option α} {z:α} (e:m=some z) (hx:Wt (ZrL σ dst ds cs Z (Zc0 σ vs))) (h:T→m=some z→Zsh P f ds cs:=by intro h e;apply h;exact e):Jx P f ds' pu X (XBy P σ dst f (some vs) Z):=Zqi (h i.h e) hx.h
end
def St.Zqw:List (Nat×Nat)→St→St
 | [],σ=>σ
 | p::q,σ=>St.Zqw q (σ.ren p.1 p.2)
def Zk4:List (Nat×Nat)→St→Prop
 | [],_=>True
 | p::q,σ=>(match σ.ar.lookup p.1 with | some (some _)=>True| _=>False)∧σ.ar.lookup p.2=none∧p.1<1000000∧p.2<1000000∧Zk4 q (σ.ren p.1 p.2)
theorem ZeU:∀{q:List (Nat×Nat)} {σ:St},Zk4 q σ→Zei (St.Zqw q σ) σ
 | [],_,_=>fun _ _ _ _ h=>h
 | p::q,σ,⟨h1,h2,h3,h4,h5⟩=>fun N w0 a w hs=>ZeU h5 N w0 a w (ZnB h1 h2 h3 h4 N w0 a w hs)
theorem fr {σ σ1:St} {ι:Type} {S:ι→St} {I:ι→Prop} {K:St→Prop} (hK:∀i σ',I i→Zei (S i) σ'→K σ') (q:List (Nat×Nat)) (ts ks τs:List Nat) (i:ι) (hi:I i) (e:σ.of ts ks τs [] [] []=σ1:=by simp [go_sem];exact rfl) (h1:Zbc σ1 σ:=by constructor<;>simp [go_sem,F])
  (hA:Zk4 q σ1:=by simp [go_sem,Zk4]) (h:Zbc (S i) (St.Zqw q σ1):=by constructor<;>simp [go_sem,St.Zqw,F]):K σ:=hK i σ hi fun N w0 a w hs=>h.into N w0 a w (ZeU hA N w0 a w (h1.into N w0 a w hs))
theorem ZkB {P:Program} {σ:St} {f n:Nat} {dst:Option Nat} {ds ds' rs:List DV} {vs:List V} {pu:Bool} {X:Bool→Bool→List DV→Prop} {Z:Eff→Prop} (c:TC P f n ds rs) (hx:ZqO σ n ds rs Z vs dst):Jx P f ds' pu X (XBy P σ dst f (some vs) Z):=.inr (ZrI c hx)
theorem rr {P:Program} {N:Nat→Prop} {w0:Bs} {Q:Exit→St→Prop} {x:Code} {σ σ1:St} (th:List Nat) (q:List (Nat×Nat)) (ts ks τs:List Nat) (h:AW P N w0 x Q (St.Zqw q (th.foldl St.ZgI σ1))) (ch:List (Nat×V):=[]) (cb:List (Nat×List CV):=[]) (ca:List (Nat×Option Arr):=[]) (e:σ.of ts ks τs ch cb ca=σ1:=by simp [go_sem];exact rfl) (h1:Zbc σ1 σ:=by constructor<;>simp [go_sem,F])
  (hT:ZfZ th σ1:=by simp [go_sem,ZfZ,St.ZgI]) (hA:Zk4 q (th.foldl St.ZgI σ1):=by simp [go_sem,Zk4,St.ZgI]):AW P N w0 x Q σ:=Zb1 h1.into (Zb1 (ZeK hT) (Zb1 (ZeU hA) h))
theorem ZuM {α:Type} {xs:List α} {i:Int} {x:α} (h:at? xs i=some x):0≤i∧i<(xs.length:Int):=by
 have h1:=Zoi h;have h2:=(Vs h).1;omega
class Enc (α:Type) where c:α→List L
instance:Enc Int:=⟨iC⟩
instance:Enc ByteArray:=⟨sC⟩
instance:Enc Bool:=⟨bC⟩
@[go_sem] theorem Ztp:(Enc.c:Int→List L)=iC:=rfl
@[go_sem] theorem Zto:(Enc.c:ByteArray→List L)=sC:=rfl
@[go_sem] theorem Zsa:(Enc.c:Bool→List L)=bC:=rfl
theorem ZuN {α:Type} [Enc α] {xs:List α} {i:Int} {x:α} (h:at? xs i=some x):(xs.map Enc.c)[i.toNat]? =some (Enc.c x)∧∀h,(xs.map Enc.c)[i.toNat]'h=Enc.c x:=by
 refine ⟨by rw [List.getElem?_map,(Zdx h).2.1];rfl,fun k=> ?_⟩
 have:=(Zdx h).2.2.2 (by simpa using k)
 rw [List.getElem_map,this]
theorem ZuL {α:Type} {xs:List α} {n:Nat} {i:Int} {x:α} (h:at? ((xs.take n).drop (1:Int).toNat) i=some x):xs[i.toNat+1]? =some x∧∀h,xs[i.toNat+1]'h=x:=by
 have h1:=(Zdx h).2.1
 have h2:xs[i.toNat+1]? =some x:=by
  rw [show (1:Int).toNat=1 from rfl,List.getElem?_drop,Nat.add_comm] at h1
  rw [List.getElem?_take] at h1
  split at h1
  ·exact h1
  ·cases h1
 exact ⟨h2,fun k=>(List.getElem?_eq_some_iff.1 h2).2⟩
@[go_sem] theorem ZsD (xs:List ByteArray):(∀e∈(xs.map sC).tail,e.length=1)↔True:=by
 simp only [iff_true]
 intro e he
 obtain ⟨x,_,rfl⟩:=List.mem_map.1 (List.mem_of_mem_tail he)
 rfl
@[go_sem] theorem Zth (xs:List Int):(∀e∈(xs.map iC).tail,e.length=1)↔True:=by
 simp only [iff_true]
 intro e he
 obtain ⟨x,_,rfl⟩:=List.mem_map.1 (List.mem_of_mem_tail he)
 rfl
theorem Zre {α:Type} {xs:List α} {i:Int} {K:Prop} (h:∃x,at? xs i=some x) (k:K):i<(xs.length:Int)∧K:=⟨(ZuM h.choose_spec).2,k⟩
theorem nm {Φ b c:Prop} (F:Φ) (h:b) (g:b→c:=by intro h;(try simp [go_sem] at h);exact h):Φ∧b∧c:=⟨F,h,g h⟩
theorem nf {Φ b c:Prop} (F:Φ) (h:b) (g:b→c:=by intro h;(try simp at h);exact h):Φ∧b∧c:=⟨F,h,g h⟩
theorem au {p:Prop} (h:p:=by
 repeat' (first
  | (obtain ⟨x,e,hM⟩:=bind_some hM
     first
     | (have q:=ZuL e;have F:=And.intro F (And.intro q (Vs e)))
     | (have q:at? (_::_) _=some _:=e;have F:=And.intro (And.intro (nm F (ZuN e)) (ZuM e)) (Vs e))
     | (have q:=Vs e;have q':=q;simp only [Array.getElem_toList,Array.getElem?_toList,Int.toNat_zero,Int.toNat_one,Int.reduceToNat] at q';have F:=And.intro F (And.intro q q'))
     | have F:=And.intro F (Vs e)
     | (have q:=Zpo e;have q':=q;(try simp at q');have F:=And.intro F (And.intro q q'))
     | (obtain ⟨c,q⟩:=QY e;replace c:=c.symm;subst c;(try simp at q);have F:=And.intro F q)
     | (obtain ⟨c,q⟩:=Zod e;replace c:=c.symm;subst c;(try simp [go_sem] at q);have F:=And.intro F q)
     | (obtain ⟨c,q⟩:=Zao e;replace c:=c.symm;subst c;(try simp at q);have F:=And.intro F q)
     | (obtain ⟨c,q⟩:=Zek e;replace c:=c.symm;subst c;(try simp at q);have F:=And.intro F q)
     | (obtain ⟨c,q⟩:=Zoa e;replace c:=c.symm;subst c;(try simp at q);have F:=And.intro F q)
     | (obtain ⟨c,q⟩:=Zob e;replace c:=c.symm;subst c;(try simp at q);have F:=And.intro F q)
     | (obtain ⟨c,q⟩:=JD e;replace c:=c.symm;subst c;(try simp at q);have F:=And.intro F q))
  | (refine Zw (fun K hK=> ?_);simp (maxSteps:=9999999) [go_sem,F])
  | (obtain rfl:=si hM;refine Jb ?_;simp (maxSteps:=9999999) [go_sem,F];done)
  | (refine Jb ?_;simp (maxSteps:=9999999) [go_sem,F])
  | (refine Zg ?_)
  | (refine Zl ?_)
  | (refine Zqs ?_)
  | (refine Zp hM (fun h hM=> ?_) (fun h hM=> ?_)<;>(have F:=nf F h)<;>(first | have F:=And.intro F (lT h)| have F:=And.intro F (lF h)| have F:=And.intro F (eT h)| have F:=And.intro F (eF h)| have F:=And.intro F (lT (nF h))| have F:=And.intro F (lF (nT h))| have F:=And.intro F (eT (nF h))| have F:=And.intro F (eF (nT h))| skip))
  | (refine gd hM (fun h hM=> ?_) (fun h hM=> ?_)<;>(have F:=nf F h)<;>(first | have F:=And.intro F (lT h)| have F:=And.intro F (lF h)| have F:=And.intro F (eT h)| have F:=And.intro F (eF h)| have F:=And.intro F (lT (nF h))| have F:=And.intro F (lF (nT h))| have F:=And.intro F (eT (nF h))| have F:=And.intro F (eF (nT h))| skip))
  | (refine wt ?_;simp (maxSteps:=9999999) [go_sem,F])
  | (refine ZrU ?_)
  | (refine ZrV ?_)
  | (refine Zh (fun K hK=> ?_))
  | (obtain rfl:=si hM;refine Ja ?_;simp (maxSteps:=9999999) [go_sem,F];done)
  | (refine Ja ?_;simp (maxSteps:=9999999) [go_sem,St.Zqw,St.ZgI,F];done)
  | (refine hsq (by assumption) ?_)
  | (refine ⟨by omega, ?_⟩)
  | (refine Zre ⟨_,by assumption⟩ ?_)
  | (obtain rfl:=si hM;simp (maxSteps:=9999999) [go_sem,F];done)
  | (exact fs (by assumption) (by exact si hM))
  | (exact fs (by assumption) (by exact hM))
  | (exact fs2 (by assumption) (by intro a b h;dsimp only;exact h) (by exact hM))
  | (exact fs3 (by assumption) (by intro a b c h;dsimp only;exact h) (by exact hM))
  | (exact fs4 (by assumption) (by intro a b c d h;dsimp only;exact h) (by exact hM))
  | (exact fs5 (by assumption) (by intro a b c d f h;dsimp only;exact h) (by exact hM))
  | (exact fs6 (by assumption) (by intro a b c d f g h;dsimp only;exact h) (by exact hM))
  | (exact fs7 (by assumption) (by intro a b c d f g u h;dsimp only;exact h) (by exact hM))
  | (exact fs8 (by assumption) (by intro a b c d f g u v h;dsimp only;exact h) (by exact hM))
  | (exact fs9 (by assumption) (by intro a b c d f g u v x h;dsimp only;exact h) (by exact hM))
  | (exact Zwb (by assumption) (by intro a b c d f g u v x y h;dsimp only;exact h) (by exact hM))
  | (obtain ⟨x,ec,hM⟩:=bind_some hM
     first
     | refine qI ec ?_
     | refine qP ec ?_
     | refine qS ec ?_
     | refine qZ ec ?_
     | refine qT ec ?_
     | refine qU ec ?_
     | refine qM ec ?_
     | refine qQ ec ?_
     | refine qR ec ?_)
  | (obtain rfl:=si hM;(first | (have hM:=hR4;clear hR4)| (have hM:=hR3;clear hR3)| (have hM:=hR2;clear hR2)| (have hM:=hR1;clear hR1));dsimp only at hM))):p:=h
end Go.Proofs.YtfapaeabfcogkaaGreatDoor.Am
namespace Go.Proofs.YtfapaeabfcogkaaGreatDoor
open Go.RowKit Am
instance:Enc Zj:=⟨Zj.c⟩
@[go_sem] theorem Zj.enc:(Enc.c:Zj→List L)=Zj.c:=rfl
instance:Enc Ze:=⟨Ze.c⟩
@[go_sem] theorem Ze.enc:(Enc.c:Ze→List L)=Ze.c:=rfl
instance:Enc Zc:=⟨Zc.c⟩
@[go_sem] theorem Zc.enc:(Enc.c:Zc→List L)=Zc.c:=rfl
instance:Enc Zq:=⟨Zq.c⟩
@[go_sem] theorem Zq.enc:(Enc.c:Zq→List L)=Zq.c:=rfl
instance:Enc Za:=⟨Za.c⟩
@[go_sem] theorem Za.enc:(Enc.c:Za→List L)=Za.c:=rfl
instance:Enc Zo:=⟨Zo.c⟩
@[go_sem] theorem Zo.enc:(Enc.c:Zo→List L)=Zo.c:=rfl
instance:Enc Zn:=⟨Zn.c⟩
@[go_sem] theorem Zn.enc:(Enc.c:Zn→List L)=Zn.c:=rfl
instance:Enc Qf:=⟨Qf.c⟩
@[go_sem] theorem Qf.enc:(Enc.c:Qf→List L)=Qf.c:=rfl
instance:Enc Zi:=⟨Zi.c⟩
@[go_sem] theorem Zi.enc:(Enc.c:Zi→List L)=Zi.c:=rfl
instance:Enc Zd:=⟨Zd.c⟩
@[go_sem] theorem Zd.enc:(Enc.c:Zd→List L)=Zd.c:=rfl
instance:Enc Zb:=⟨Zb.c⟩
@[go_sem] theorem Zb.enc:(Enc.c:Zb→List L)=Zb.c:=rfl
instance:Enc ZB:=⟨ZB.c⟩
@[go_sem] theorem ZB.enc:(Enc.c:ZB→List L)=ZB.c:=rfl
instance:Enc Zf:=⟨Zf.c⟩
@[go_sem] theorem Zf.enc:(Enc.c:Zf→List L)=Zf.c:=rfl
instance:Enc YY:=⟨YY.c⟩
@[go_sem] theorem YY.enc:(Enc.c:YY→List L)=YY.c:=rfl
instance:Enc V7:=⟨V7.c⟩
@[go_sem] theorem V7.enc:(Enc.c:V7→List L)=V7.c:=rfl
instance:Enc Wp:=⟨Wp.c⟩
@[go_sem] theorem Wp.enc:(Enc.c:Wp→List L)=Wp.c:=rfl
instance:Enc WM:=⟨WM.c⟩
@[go_sem] theorem WM.enc:(Enc.c:WM→List L)=WM.c:=rfl
instance:Enc Ur:=⟨Ur.c⟩
@[go_sem] theorem Ur.enc:(Enc.c:Ur→List L)=Ur.c:=rfl
instance:Enc WI:=⟨WI.c⟩
@[go_sem] theorem WI.enc:(Enc.c:WI→List L)=WI.c:=rfl
end Go.Proofs.YtfapaeabfcogkaaGreatDoor
namespace Go.Proofs.YtfapaeabfcogkaaGreatDoor
open Go.RowKit Am
def KH (a0:Int) (a1:Int) (a2:Int):Option Bool:=
 (if (decide (a1≤a0)) then
  some (decide (a0≤a2))
 else
  some false).bind fun x1=>
 some x1
def Ya (a0:ByteArray):Nat→Int→Option (Unit ⊕ Bool)
 | 0,_=>none
 | n_+1,x1=>
  if (decide (x1<(a0.size:Int))) then
   ((at? a0.data.toList x1).bind fun x3=>
   if (decide ((x3.toNat:Int)<32)) then
    some true
   else
    some (decide (126<(x3.toNat:Int)))).bind fun x2=>
   if x2 then
    some (.inr false)
   else
    Ya a0 n_ (IntKind.i64.wrap (x1+1))
  else
   some (.inl ())
def XD (k:Nat) (a0:ByteArray):Option Bool:=
 (Ya a0 k 0:Option (Unit ⊕ Bool)).bind fun
  | .inl _=>(
   some (decide ((a0.size:Int)≤120)))
  | .inr z4=>(
   some z4)
def Xs (a0:ByteArray):Nat→Int→Option (Unit ⊕ Bool)
 | 0,_=>none
 | n_+1,x1=>
  if (decide (x1<(a0.size:Int))) then
   ((at? a0.data.toList x1).bind fun x3=>
   if (decide (97≤(x3.toNat:Int))) then
    some (decide ((x3.toNat:Int)≤122))
   else
    some false).bind fun x2=>
   ((at? a0.data.toList x1).bind fun x5=>
   if (decide (48≤(x5.toNat:Int))) then
    some (decide ((x5.toNat:Int)≤57))
   else
    some false).bind fun x4=>
   (if (!x2) then
    if (decide (x1=0)) then
     some true
    else
     some (!x4)
   else
    some false).bind fun x6=>
   if x6 then
    some (.inr false)
   else
    Xs a0 n_ (IntKind.i64.wrap (x1+1))
  else
   some (.inl ())
def Zav (k:Nat) (a0:ByteArray):Option Bool:=
 (Xs a0 k 0:Option (Unit ⊕ Bool)).bind fun
  | .inl _=>(
   some (decide (0<(a0.size:Int))))
  | .inr z7=>(
   some z7)
def QM:Option (List ByteArray):=
 some [(⟨#[108,101,116]⟩:ByteArray),(⟨#[105,110]⟩:ByteArray),(⟨#[105,102]⟩:ByteArray),(⟨#[116,104,101,110]⟩:ByteArray),(⟨#[101,108,115,101]⟩:ByteArray),(⟨#[102,111,114]⟩:ByteArray),(⟨#[100,111]⟩:ByteArray),(⟨#[108,101,110]⟩:ByteArray),(⟨#[115,117,109]⟩:ByteArray),(⟨#[116,97,107,101]⟩:ByteArray),(⟨#[115,107,105,112]⟩:ByteArray),(⟨#[114,97,110,103,101]⟩:ByteArray),(⟨#[110,116,104]⟩:ByteArray),(⟨#[119,104,101,114,101]⟩:ByteArray),(⟨#[107,101,101,112]⟩:ByteArray),(⟨#[97,100,100]⟩:ByteArray),(⟨#[103,114,111,117,112]⟩:ByteArray),(⟨#[106,111,105,110]⟩:ByteArray),(⟨#[99,111,108,117,109,110]⟩:ByteArray),(⟨#[114,111,119,115]⟩:ByteArray),(⟨#[99,108,111,99,107]⟩:ByteArray),(⟨#[99,104,97,110,99,101]⟩:ByteArray),(⟨#[102,105,108,101]⟩:ByteArray),(⟨#[116,97,98,108,101]⟩:ByteArray)]
def XL (a0:List ByteArray) (a1:ByteArray):Nat→Int→Option (Unit ⊕ Bool)
 | 0,_=>none
 | n_+1,x1=>
  if (decide (x1<(a0.length:Int))) then
   (at? a0 x1).bind fun x2=>
   if (decide (x2=a1)) then
    some (.inr true)
   else
    XL a0 a1 n_ (IntKind.i64.wrap (x1+1))
  else
   some (.inl ())
def Zaw (k:Nat) (a0:List ByteArray) (a1:ByteArray):Option Bool:=
 (XL a0 a1 k 0:Option (Unit ⊕ Bool)).bind fun
  | .inl _=>(
   some false)
  | .inr z3=>(
   some z3)
def VZ (k:Nat) (a0:ByteArray):Option Bool:=
 (QM).bind fun x1=>
 (Zaw k x1 a0).bind fun x2=>
 some x2
def Z0 (k:Nat) (a0:ByteArray):Option Bool:=
 ((Zav k a0).bind fun x2=>
 if x2 then
  if (decide ((a0.size:Int)≤8)) then
   (VZ k a0).bind fun x3=>
   some (!x3)
  else
   some false
 else
  some false).bind fun x1=>
 some x1
def Qh (k:Nat) (a0:Zj):Option Bool:=
 ((KH a0.id 1 999).bind fun x2=>
 if (!x2) then
  some true
 else
  (KH a0.version 1 999).bind fun x3=>
  if (!x3) then
   some true
  else
   (XD k a0.code).bind fun x4=>
   some (!x4)).bind fun x1=>
 if x1 then
  some false
 else
  if (decide (a0.kind=1)) then
   (if (decide (a0.name=(⟨#[]⟩:ByteArray))) then
    some (decide (a0.n=0))
   else
    some false).bind fun x5=>
   some x5
  else
   (if (decide (a0.kind=2)) then
    some true
   else
    some (decide (a0.kind=4))).bind fun x6=>
   if x6 then
    ((Z0 k a0.name).bind fun x8=>
    if x8 then
     some (decide (a0.n=0))
    else
     some false).bind fun x7=>
    some x7
   else
    if (decide (a0.kind=3)) then
     ((Z0 k a0.name).bind fun x10=>
     if x10 then
      if (decide (a0.code=(⟨#[]⟩:ByteArray))) then
       (KH a0.n 0 100).bind fun x11=>
       some x11
      else
       some false
     else
      some false).bind fun x9=>
     some x9
    else
     some false
def Yb (a0:Ze) (a1:Int):Nat→Int→Option (Unit ⊕ Int)
 | 0,_=>none
 | n_+1,x1=>
  if (decide (x1<(a0.cells.length:Int))) then
   (at? a0.cells x1).bind fun x2=>
   if (decide (x2.id=a1)) then
    some (.inr x1)
   else
    Yb a0 a1 n_ (IntKind.i64.wrap (x1+1))
  else
   some (.inl ())
def Wd (k:Nat) (a0:Ze) (a1:Int):Option Int:=
 (Yb a0 a1 k 0:Option (Unit ⊕ Int)).bind fun
  | .inl _=>(
   some (-1))
  | .inr z3=>(
   some z3)
def Z4 (k:Nat) (a0:Ze):Nat→Int→Option (Unit ⊕ Bool)
 | 0,_=>none
 | n_+1,x1=>
  if (decide (x1<(a0.cells.length:Int))) then
   ((at? a0.cells x1).bind fun x3=>
   (Qh k x3).bind fun x4=>
   if (!x4) then
    some true
   else
    (Wd k a0 x3.id).bind fun x5=>
    some (!decide (x5=x1))).bind fun x2=>
   if x2 then
    some (.inr false)
   else
    Z4 k a0 n_ (IntKind.i64.wrap (x1+1))
  else
   some (.inl ())
def Xd (k:Nat) (a0:Ze):Option Bool:=
 (Z4 k a0 k 0:Option (Unit ⊕ Bool)).bind fun
  | .inl _=>(
   some (decide ((a0.cells.length:Int)≤8)))
  | .inr z6=>(
   some z6)
def Vy (a0:Int):Option Bool:=
 (if (decide (97≤a0)) then
  some (decide (a0≤122))
 else
  some false).bind fun x1=>
 some x1
def VY (a0:Int):Option Bool:=
 (if (decide (48≤a0)) then
  some (decide (a0≤57))
 else
  some false).bind fun x1=>
 some x1
def ZQ:Nat→Int→ByteArray→Option ByteArray
 | 0,_,_=>none
 | n_+1,x2,x3=>
  if (!decide (x2=0)) then
   (if (decide ((IntKind.i64.wrap (x2.tmod 10))<0)) then
    some (IntKind.i64.wrap (0-(IntKind.i64.wrap (x2.tmod 10))))
   else
    some (IntKind.i64.wrap (x2.tmod 10))).bind fun x4=>
   (Zqd (ZjC [(IntKind.u8.wrap (IntKind.i64.wrap (48+x4)))]) x3).bind fun x5=>
   ZQ n_ (IntKind.i64.wrap (x2.tdiv 10)) x5
  else
   some x3
def UO (k:Nat) (a0:Int):Option ByteArray:=
 if (decide (a0=0)) then
  some (⟨#[48]⟩:ByteArray)
 else
  (ZQ k a0 (⟨#[]⟩:ByteArray)).bind fun x1=>
  if (decide (a0<0)) then
   (Zqd (⟨#[45]⟩:ByteArray) x1).bind fun x6=>
   some x6
  else
   some x1
def XA (x3:ByteArray):Nat→Int→Int→Option (Int ⊕ (Int×Bool))
 | 0,_,_=>none
 | n_+1,x7,x8=>
  if (decide (x8<(x3.size:Int))) then
   ((at? x3.data.toList x8).bind fun x10=>
   if (decide ((x10.toNat:Int)<48)) then
    some true
   else
    some (decide (57<(x10.toNat:Int)))).bind fun x9=>
   if x9 then
    some (.inr (0,false))
   else
    (at? x3.data.toList x8).bind fun x11=>
    XA x3 n_ (IntKind.i64.wrap ((IntKind.i64.wrap (10*x7))+(IntKind.i64.wrap (IntKind.u8.wrap ((x11.toNat:Int)-48))))) (IntKind.i64.wrap (x8+1))
  else
   some (.inl x7)
def Zcx (k:Nat) (a0:ByteArray) (a1:Int):Option (Int×Bool):=
 (if (decide (0<(a0.size:Int))) then
  (at? a0.data.toList 0).bind fun x2=>
  some (decide ((x2.toNat:Int)=45))
 else
  some false).bind fun x1=>
 (if x1 then
  (Ui a0 1 (a0.size:Int)).bind fun x4=>
  some x4
 else
  some a0).bind fun x3=>
 (if (decide ((x3.size:Int)<1)) then
  some true
 else
  some (decide (a1<(x3.size:Int)))).bind fun x5=>
 if x5 then
  some (0,false)
 else
  (XA x3 k 0 0:Option (Int ⊕ (Int×Bool))).bind fun
   | .inl x6=>(
    (if x1 then
     some (IntKind.i64.wrap (0-x6))
    else
     some x6).bind fun x12=>
    (UO k x12).bind fun x13=>
    if (!decide (x13=a0)) then
     some (0,false)
    else
     some (x12,true))
   | .inr z14=>(
    some z14)
end Go.Proofs.YtfapaeabfcogkaaGreatDoor
namespace Go.Proofs.YtfapaeabfcogkaaGreatDoor
open Go.RowKit Am
def Wz (k:Nat) (a0:ByteArray):Option (Int×Bool):=
 (Zcx k a0 12).bind fun x1=>
 some (x1.1,x1.2)
def YN (a0:ByteArray):Nat→Int→Option (Unit ⊕ Bool)
 | 0,_=>none
 | n_+1,x1=>
  if (decide (x1<(a0.size:Int))) then
   ((at? a0.data.toList x1).bind fun x3=>
   if (decide ((x3.toNat:Int)<32)) then
    some true
   else
    if (decide (126<(x3.toNat:Int))) then
     some true
    else
     some (decide ((x3.toNat:Int)=34))).bind fun x2=>
   if x2 then
    some (.inr false)
   else
    YN a0 n_ (IntKind.i64.wrap (x1+1))
  else
   some (.inl ())
def XC (k:Nat) (a0:ByteArray):Option Bool:=
 (YN a0 k 0:Option (Unit ⊕ Bool)).bind fun
  | .inl _=>(
   some (decide ((a0.size:Int)≤20)))
  | .inr z4=>(
   some z4)
def Us (a0:ByteArray) (a1:Int):Option Int:=
 (at? a0.data.toList a1).bind fun x1=>
 (if (decide ((x1.toNat:Int)=40)) then
  some true
 else
  if (decide ((x1.toNat:Int)=41)) then
   some true
  else
   if (decide ((x1.toNat:Int)=91)) then
    some true
   else
    if (decide ((x1.toNat:Int)=93)) then
     some true
    else
     if (decide ((x1.toNat:Int)=44)) then
      some true
     else
      if (decide ((x1.toNat:Int)=43)) then
       some true
      else
       if (decide ((x1.toNat:Int)=45)) then
        some true
       else
        if (decide ((x1.toNat:Int)=42)) then
         some true
        else
         some (decide ((x1.toNat:Int)=60))).bind fun x2=>
 if x2 then
  some 1
 else
  if (decide ((x1.toNat:Int)=61)) then
   (if (decide ((IntKind.i64.wrap (a1+1))<(a0.size:Int))) then
    (at? a0.data.toList (IntKind.i64.wrap (a1+1))).bind fun x4=>
    some (decide ((x4.toNat:Int)=61))
   else
    some false).bind fun x3=>
   if x3 then
    some 2
   else
    some 1
  else
   some 0
def Q7 (a0:ByteArray):Nat→Int→Option Int
 | 0,_=>none
 | n_+1,x8=>
  (if (decide (x8<(a0.size:Int))) then
   (at? a0.data.toList x8).bind fun x10=>
   (Vy (x10.toNat:Int)).bind fun x11=>
   if x11 then
    some true
   else
    (VY (x10.toNat:Int)).bind fun x12=>
    some x12
  else
   some false).bind fun x9=>
  if x9 then
   Q7 a0 n_ (IntKind.i64.wrap (x8+1))
  else
   some x8
def Q3 (a0:ByteArray):Nat→Int→Option Int
 | 0,_=>none
 | n_+1,x16=>
  (if (decide (x16<(a0.size:Int))) then
   (at? a0.data.toList x16).bind fun x18=>
   (VY (x18.toNat:Int)).bind fun x19=>
   some x19
  else
   some false).bind fun x17=>
  if x17 then
   Q3 a0 n_ (IntKind.i64.wrap (x16+1))
  else
   some x16
def Q2 (a0:ByteArray):Nat→Int→Option Int
 | 0,_=>none
 | n_+1,x24=>
  (if (decide (x24<(a0.size:Int))) then
   (at? a0.data.toList x24).bind fun x26=>
   some (!decide ((x26.toNat:Int)=34))
  else
   some false).bind fun x25=>
  if x25 then
   Q2 a0 n_ (IntKind.i64.wrap (x24+1))
  else
   some x24
def Q9 (k:Nat) (a0:ByteArray) (a1:Int):Option (Zi×Int):=
 ((at? a0.data.toList a1).bind fun x5=>
 (Vy (x5.toNat:Int)).bind fun x6=>
 if x6 then
  (Q7 a0 k a1).bind fun x7=>
  (Ui a0 a1 x7).bind fun x13=>
  if (decide (8<(IntKind.i64.wrap (x7-a1)))) then
   some (.inr ((Zi.mk 1 0 a1 x13),0))
  else
   some (.inl (1,0,x13,x7))
 else
  (VY (x5.toNat:Int)).bind fun x14=>
  if x14 then
   (Q3 a0 k a1).bind fun x15=>
   (Ui a0 a1 x15).bind fun x20=>
   (Wz k x20).bind fun x21=>
   (if (!x21.2) then
    some true
   else
    some (decide (1000000000<x21.1))).bind fun x22=>
   if x22 then
    some (.inr ((Zi.mk 2 x21.1 a1 (⟨#[]⟩:ByteArray)),0))
   else
    some (.inl (2,x21.1,(⟨#[]⟩:ByteArray),x15))
  else
   if (decide ((x5.toNat:Int)=34)) then
    (Q2 a0 k (IntKind.i64.wrap (a1+1))).bind fun x23=>
    (Ui a0 (IntKind.i64.wrap (a1+1)) x23).bind fun x27=>
    (if (decide (x23=(a0.size:Int))) then
     some true
    else
     (XC k x27).bind fun x29=>
     some (!x29)).bind fun x28=>
    if x28 then
     some (.inr ((Zi.mk 3 0 a1 x27),0))
    else
     some (.inl (3,0,x27,(IntKind.i64.wrap (x23+1))))
   else
    (Us a0 a1).bind fun x30=>
    (Ui a0 a1 (IntKind.i64.wrap (a1+x30))).bind fun x31=>
    some (.inl (4,0,x31,(IntKind.i64.wrap (a1+x30)))):Option ((Int×Int×ByteArray×Int) ⊕ (Zi×Int))).bind fun
  | .inl (x1,x2,x3,x4)=>(
   some ((Zi.mk x1 x2 a1 x3),(IntKind.i64.wrap (x4-a1))))
  | .inr z32=>(
   some z32)
def ZW (k:Nat) (a0:ByteArray):Nat→(List Zi)→Int→Option ((List Zi) ⊕ ((List Zi)×Int))
 | 0,_,_=>none
 | n_+1,x2,x3=>
  if (decide (x3<(a0.size:Int))) then
   (at? a0.data.toList x3).bind fun x4=>
   if (decide ((x4.toNat:Int)=32)) then
    ZW k a0 n_ x2 (IntKind.i64.wrap (x3+1))
   else
    (Q9 k a0 x3).bind fun x5=>
    (if (decide (x5.2=0)) then
     some true
    else
     some (decide ((x2.length:Int)=60))).bind fun x6=>
    if x6 then
     some (.inr (([]:List Zi),x3))
    else
     (Wq 40 x2 [x5.1]).bind fun x7=>
     ZW k a0 n_ x7 (IntKind.i64.wrap (x3+x5.2))
  else
   some (.inl x2)
def VD (k:Nat) (a0:ByteArray):Option ((List Zi)×Int):=
 if (decide (120<(a0.size:Int))) then
  some (([]:List Zi),120)
 else
  (ZW k a0 k ([]:List Zi) 0:Option ((List Zi) ⊕ ((List Zi)×Int))).bind fun
   | .inl x1=>(
    some (x1,(-1)))
   | .inr z8=>(
    some z8)
def WB (a0:Zi) (a1:ByteArray):Option Bool:=
 (if (decide (a0.kind=4)) then
  some (decide (a0.text=a1))
 else
  some false).bind fun x1=>
 some x1
def UN (a0:Zi) (a1:ByteArray):Option Bool:=
 (if (decide (a0.kind=1)) then
  some (decide (a0.text=a1))
 else
  some false).bind fun x1=>
 some x1
def Zt (a0:Zd) (a1:ByteArray):Option (Bool×Zd):=
 (if (decide (a0.bad<0)) then
  if (decide (a0.i<(a0.toks.length:Int))) then
   (at? a0.toks a0.i).bind fun x2=>
   (WB x2 a1).bind fun x3=>
   if x3 then
    some true
   else
    (UN x2 a1).bind fun x4=>
    some x4
  else
   some false
 else
  some false).bind fun x1=>
 some (x1,a0)
def YR (a0:Zd):Option (Zb×Zd):=
 (if (decide (a0.bad<0)) then
  if (decide (a0.i<(a0.toks.length:Int))) then
   (at? a0.toks a0.i).bind fun x2=>
   some x2.at_
  else
   some a0.end_
 else
  some a0.bad).bind fun x1=>
 some ((Zb.mk 0 0 (⟨#[]⟩:ByteArray) []),(Zd.mk a0.toks a0.i a0.end_ x1))
def XJ (k:Nat) (a0:Zd):Option (ByteArray×Zd):=
 (if (decide (0≤a0.bad)) then
  some true
 else
  if (decide ((a0.toks.length:Int)≤a0.i)) then
   some true
  else
   (at? a0.toks a0.i).bind fun x2=>
   if (!decide (x2.kind=1)) then
    some true
   else
    (Z0 k x2.text).bind fun x3=>
    some (!x3)).bind fun x1=>
 if x1 then
  (YR a0).bind fun x4=>
  some ((⟨#[]⟩:ByteArray),x4.2)
 else
  (at? a0.toks (IntKind.i64.wrap ((IntKind.i64.wrap (a0.i+1))-1))).bind fun x5=>
  some (x5.text,(Zd.mk a0.toks (IntKind.i64.wrap (a0.i+1)) a0.end_ a0.bad))
def ZC (a0:Zd) (a1:ByteArray):Option Zd:=
 (Zt a0 a1).bind fun x1=>
 if (!x1.1) then
  (YR x1.2).bind fun x2=>
  some x2.2
 else
  some (Zd.mk x1.2.toks (IntKind.i64.wrap (x1.2.i+1)) x1.2.end_ x1.2.bad)
def ZcA (a0:Int):Option Zb:=
 some (Zb.mk 1 a0 (⟨#[]⟩:ByteArray) [])
def Zay (a0:ByteArray):Option Zb:=
 some (Zb.mk 3 0 a0 [])
def Z8 (a0:ByteArray):Option Int:=
 if (decide (a0=(⟨#[99,108,111,99,107]⟩:ByteArray))) then
  some 0
 else
  (if (decide (a0=(⟨#[108,101,110]⟩:ByteArray))) then
   some true
  else
   if (decide (a0=(⟨#[115,117,109]⟩:ByteArray))) then
    some true
   else
    if (decide (a0=(⟨#[114,111,119,115]⟩:ByteArray))) then
     some true
    else
     if (decide (a0=(⟨#[99,104,97,110,99,101]⟩:ByteArray))) then
      some true
     else
      some (decide (a0=(⟨#[102,105,108,101]⟩:ByteArray)))).bind fun x1=>
  if x1 then
   some 1
  else
   (if (decide (a0=(⟨#[116,97,107,101]⟩:ByteArray))) then
    some true
   else
    if (decide (a0=(⟨#[115,107,105,112]⟩:ByteArray))) then
     some true
    else
     if (decide (a0=(⟨#[114,97,110,103,101]⟩:ByteArray))) then
      some true
     else
      if (decide (a0=(⟨#[110,116,104]⟩:ByteArray))) then
       some true
      else
       if (decide (a0=(⟨#[107,101,101,112]⟩:ByteArray))) then
        some true
       else
        if (decide (a0=(⟨#[99,111,108,117,109,110]⟩:ByteArray))) then
         some true
        else
         some (decide (a0=(⟨#[116,97,98,108,101]⟩:ByteArray)))).bind fun x2=>
   if x2 then
    some 2
   else
    (if (decide (a0=(⟨#[119,104,101,114,101]⟩:ByteArray))) then
     some true
    else
     if (decide (a0=(⟨#[103,114,111,117,112]⟩:ByteArray))) then
      some true
     else
      some (decide (a0=(⟨#[106,111,105,110]⟩:ByteArray)))).bind fun x3=>
    if x3 then
     some 3
    else
     if (decide (a0=(⟨#[97,100,100]⟩:ByteArray))) then
      some 4
     else
      some (-1)
end Go.Proofs.YtfapaeabfcogkaaGreatDoor
