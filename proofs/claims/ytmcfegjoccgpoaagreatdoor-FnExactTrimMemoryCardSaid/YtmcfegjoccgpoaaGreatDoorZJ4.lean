import Derived.Test.YtmcfegjoccgpoaaGreatDoorZJ3
set_option linter.unusedSimpArgs false
set_option linter.unusedVariables false
namespace Go.Proofs.YtmcfegjoccgpoaaGreatDoor.Am
open Go.RowKit
def ZmR (n:Nat) (us:List Value):Act:={ tmps:=us.toArray++Array.replicate (n-us.toArray.size) undef,defers:=[]}
def Zac:Nat->List V->List (Nat×V)
 | _,[]=>[]
 | i,v::k=>(i,v)::Zac (i+1) k
def GC (P:Program) (f n:Nat) (vs:List V) (bx:List (Nat×List CV)) (ar:List (Nat×Option Arr)) (r:V) (bo:List (Nat×List CV)) (ao:List (Nat×Option Arr)):Prop:=
 Y9 P f=true/\vs.length<=n/\∀(N:Nat->Prop) (w0:Bs) (e:Env) (k:List Value) (w:World),k.length=vs.length->Bok N w0->ZJ N w0 e ⟨n,Zac 0 vs,bx,ar⟩ (ZmR n k) w->
  Calls P f k.toArray w λp w'=>∃l u,p= .returned u/\r.rel l ⟨n,[],bo,ao⟩ w' u/\ZJ N w0 l ⟨n,[],bo,ao⟩ (ZmR n []) w'
theorem Zlw:∀{vs:List V} {i t:Nat} {v:V},(Zac i vs).lookup t=some v->∃j,t=i+j/\vs[j]? =some v
 | [],_,_,_,h=>by simp [Zac] at h
 | x::vs,i,t,v,h=>by
  simp only [Zac,lookup_cons] at h
  split at h
  ·rename_i p;exact ⟨0,WF,by simpa using h⟩
  ·obtain ⟨j,l,k⟩:=Zlw h;exact ⟨j+1,WF,by simpa using k⟩
theorem ZuA {n:Nat} {us:List Value} {j:Nat} {u:Value} (h:us[j]? =some u):(ZmR n us).tmps.getD j undef=u:=by
 have hj:=(Hh.1 h).1;simp only [ZmR];rw [HQ,GE (by simpa using hj)];simp [h]
def mtC (α β:Nat->Nat):CV->CV->Prop
 | .l x,.l y=>x=y
 | .l x,.kept _ y=>x=y
 | .l x,.nil=>x= .sl []
 | .nil,.nil=>True
 | .np,.np=>True
 | .adr t,.adr z=>t=z
 | .own i n,.own l m=>α i=l/\n=m/\l<1000000
 | .own i n,.nil=>2000000<=α i/\n=0
 | .box i o,.box k s=>β i=k/\o=s
 | .clo f p,.clo g r=>f=g/\p.map β=r
 | .nf,.nf=>True
 | .mp i,.mp k=>β i=k
 | .mc x,.mc y=>x=y
 | _,_=>False
def mtL (α β:Nat->Nat):List CV->List CV->Prop
 | [],[]=>True
 | c::cs,d::ds=>mtC α β c d/\mtL α β cs ds
 | _,_=>False
def mtV (α β:Nat->Nat):V->V->Prop
 | .one c,.one d=>mtC α β c d
 | .agg cs,.agg ds=>mtL α β cs ds
 | _,_=>False
def Zvm (α β:Nat->Nat):List V->List V->Prop
 | [],[]=>True
 | v::l,u::k=>mtV α β v u/\Zvm α β l k
 | _,_=>False
def rnC (γ β:Nat->Nat):CV->CV
 | .own i n=>.own (γ i) n
 | .box i o=>.box (β i) o
 | .l x=>.l x
 | .nil=>.nil
 | .np=>.np
 | .adr ls=>.adr ls
 | .kept _ x=>.l x
 | .clo f k=>.clo f (k.map β)
 | .nf=>.nf
 | .mp i=>.mp (β i)
 | .mc es=>.mc es
 | _=>.any
def clC (bx:List (Nat×List CV)) (ar:List (Nat×Option Arr)):CV->Prop
 | .own i _=>(ar.lookup i).isSome=true
 | .box i _=>(bx.lookup i).isSome=true
 | .clo _ k=>∀i∈k,(bx.lookup i).isSome=true
 | .mp i=>(bx.lookup i).isSome=true
 | _=>True
def clO (bx:List (Nat×List CV)) (ar:List (Nat×Option Arr)):CV->Prop
 | .own i _=>∃A,ar.lookup i=some (some A)
 | .box i _=>(bx.lookup i).isSome=true
 | .l _| .nil| .np| .adr _| .kept _ _| .any| .nf| .mc _=>True
 | .clo _ k=>∀i∈k,(bx.lookup i).isSome=true
 | .mp i=>(bx.lookup i).isSome=true
 | _=>False
def clV (bx:List (Nat×List CV)) (ar:List (Nat×Option Arr)):V->Prop
 | .one c=>clC bx ar c
 | .agg cs=>∀c∈cs,clC bx ar c
 | _=>False
def rnV (γ β:Nat->Nat):V->V
 | .one c=>.one (rnC γ β c)
 | .agg cs=>.agg (cs.map (rnC γ β))
 | .tup k=>.tup (k.map λp=>(p.1,p.2.map (rnC γ β)))
 | .dead=>.dead
def ZA3 (bo:List (Nat×List CV)) (ao:List (Nat×Option Arr)):V->Prop
 | .one c=>clO bo ao c
 | .agg cs=>∀c∈cs,clO bo ao c
 | .tup k=>∀p∈k,∀c∈p.2,clO bo ao c
 | .dead=>True
structure GM (O:St) (n:Nat) (α β γ:Nat->Nat) (bx:List (Nat×List CV)) (ar:List (Nat×Option Arr)) (bo:List (Nat×List CV)) (ao:List (Nat×Option Arr)):Prop where
 b1:∀i cs,bx.lookup i=some cs->n<=i/\∃ds,O.bx.lookup (β i)=some ds/\mtL α β cs ds
 b2:∀i cs j ds,bo.lookup i=some cs->bo.lookup j=some ds->β i=β j->i=j
 a1:∀i A,ar.lookup i=some A->i<1000000/\((α i<1000000/\∃C,(∃B,A=some B/\B.fr=false/\B.es=C.es)/\O.ar.lookup (α i)=some (some C))\/(2000000<=α i/\A=some ⟨false,[]⟩/\(O.ar.lookup (α i)=none\/O.ar.lookup (α i)=some none)))
 a2:∀i A j B,ar.lookup i=some A->ar.lookup j=some B->α i=α j->i=j
 c1:∀i cs,bo.lookup i=some cs->(∃cs',bx.lookup i=some cs')\/(i<n/\O.bx.lookup (β i)=none/\β i<O.nt)
 c2:∀i cs,bx.lookup i=some cs->∃cs',bo.lookup i=some cs'
 d1:∀i A,ao.lookup i=some (some A)->i<1000000/\γ i<1000000/\O.ar.lookup (γ i)=none
 d2:∀i A j B,ao.lookup i=some (some A)->ao.lookup j=some (some B)->γ i=γ j->i=j
 e1:∀i cs,bx.lookup i=some cs->∀c∈cs,clC bx ar c
 e2:∀i cs,bo.lookup i=some cs->∀c∈cs,clO bo ao c
mutual
theorem Ow.within {N M:Nat->Prop} {w:World}:∀{x:L} {v:Value} {F:List Nat},Ow N w x v F->(∀b∈F,M b)->Ow M w x v F
 | .int _ _,_,_,h,_=>by simp only [Ow] at h ⊢;exact h
 | .bool _,_,_,h,_=>by simp only [Ow] at h ⊢;exact h
 | .str _,_,_,h,_=>by simp only [Ow] at h ⊢;exact h
 | .void,_,_,h,_=>by simp only [Ow] at h ⊢;exact h
 | .sl _,_,_,h,hm=>by
  simp only [Ow] at h ⊢;obtain ⟨A,c,l,p,B⟩:=h;refine ⟨A,c,l,p, ?_⟩;rcases B with B| ⟨b,t,cur,Fs,W,E,X,G,I,J,Q,R,rfl,S⟩
  ·exact .inl B
  ·exact .inr ⟨b,t,cur,Fs,W,E,hm _ Ha,G,I,J,Q,R,rfl,OwE.within S λx k=>hm x (by simp [k])⟩
theorem OwL.within {N M:Nat->Prop} {w:World}:∀{xs:List L} {vs:List Value} {F:List Nat},OwL N w xs vs F->(∀b∈F,M b)->OwL M w xs vs F
 | [],_,_,h,_=>by simp only [OwL] at h ⊢;exact h
 | _::_,_,_,h,hm=>by
  simp only [OwL] at h ⊢;obtain ⟨v,C,r,s,z,rfl,l,p⟩:=h;exact ⟨v,C,r,s,z,rfl,Ow.within l λx k=>hm x (by simp [k]),OwL.within p λx k=>hm x (by simp [k])⟩
theorem OwE.within {N M:Nat->Prop} {w:World}:∀{es:List (List L)} {vs:List Value} {F:List Nat},OwE N w es vs F->(∀b∈F,M b)->OwE M w es vs F
 | [],_,_,h,_=>by simp only [OwE] at h ⊢;exact h
 | _::_,_,_,h,hm=>by
  simp only [OwE] at h ⊢;obtain ⟨T,U,r,s,z,rfl,l,p⟩:=h;exact ⟨T,U,r,s,z,rfl,OwL.within l λx k=>hm x (by simp [k]),OwE.within p λx k=>hm x (by simp [k])⟩
end
section
variable {e:Env} {O:St} {w:World} {N:Nat->Prop} {w0:Bs} {a:Act} {P:Program}
variable {n:Nat} {α β γ:Nat->Nat} {bx bo:List (Nat×List CV)} {ar ao:List (Nat×Option Arr)}
def ob (v:Value):List Nat:=match v.ownBlock with
 | some b=>[b]
 | none=>[]
theorem Zwy {v:Value} {b:Nat}:b∈ob v↔v.ownBlock=some b:=by
 unfold ob;cases v.ownBlock<;>simp [eq_comm]
def rh (e:Env) (τ:Nat):Value:=if 2000000<=τ then .slice none 0 0 else e.ρ τ
def Zr0 (e:Env) (α β:Nat->Nat) (bx:List (Nat×List CV)) (ar:List (Nat×Option Arr)) (b:Nat):Prop:= (∃i cs,bx.lookup i=some cs/\b=e.β (β i))\/∃i A,ar.lookup i=some A/\(rh e (α i)).ownBlock=some b
def ZyM (e:Env) (α β:Nat->Nat) (bx:List (Nat×List CV)) (ar:List (Nat×Option Arr)) (b:Nat):Prop:=Zr0 e α β bx ar b
def Zsx (e:Env) (O:St) (α β:Nat->Nat) (bx:List (Nat×List CV)) (ar:List (Nat×Option Arr)):Env:=
 ⟨λi=>e.β (β i),λi=>rh e (α i),λi=>ob (rh e (α i)),λb=>Mut e O b/\¬Zr0 e α β bx ar b⟩
def bsG (e:Env) (O:St) (w:World) (α β:Nat->Nat) (bx:List (Nat×List CV)) (ar:List (Nat×Option Arr)):Bs:=
 ⟨w,λb=>Mut e O b/\¬Zr0 e α β bx ar b,λi=>e.β (β i),λb=>w.heap.size<=b\/ZyM e α β bx ar b⟩
theorem GM.got (g:GM O n α β γ bx ar bo ao) {i b:Nat} {A:Option Arr} (r:ar.lookup i=some A) (k:(rh e (α i)).ownBlock=some b):α i<1000000/\(e.ρ (α i)).ownBlock=some b/\∃C,O.ar.lookup (α i)=some (some C):=by
 rcases (g.a1 i A r).2 with ⟨l,C,_,p⟩| ⟨l,_⟩
 ·rw [rh,if_neg WF] at k;exact ⟨l,k,C,p⟩
 ·rw [rh,if_pos l] at k;simp [Value.ownBlock] at k
theorem GM.mut (g:GM O n α β γ bx ar bo ao) (h:ZJ N w0 e O a w) {tm:List (Nat×V)} {b:Nat} (hm:Mut (Zsx e O α β bx ar) ⟨n,tm,bx,ar⟩ b):Mut e O b:=by
 rcases hm with r| ⟨i,cs,k,l⟩| ⟨i,A,k,l⟩
 ·exact r.1
 ·obtain ⟨_,ds,p,_⟩:=g.b1 i cs k;exact .inr (.inl ⟨_,ds,p,l⟩)
 ·obtain ⟨_,s,B,p⟩:=g.got k l;exact .inr (.inr ⟨_,B,p,s⟩)
theorem GM.rel (g:GM O n α β γ bx ar bo ao) (h:ZJ N w0 e O a w) {tm:List (Nat×V)} {c d:CV} {v:Value} (l:d.rel e O w v) (hc:mtC α β c d)
  (r:clC bx ar c):c.rel (Zsx e O α β bx ar) ⟨n,tm,bx,ar⟩ w v:=by
 unfold mtC at hc
 split at hc
 ·subst hc;obtain ⟨F,s,z⟩:=l;exact ⟨F,s,λb I t=>z b I (g.mut h t)⟩
 ·subst hc;obtain ⟨_,F,s,z⟩:=l;exact ⟨F,s,λb I t=>z b I (g.mut h t)⟩
 ·subst hc;have Q:v= .slice none 0 0:=l;subst Q;refine ⟨[], ?_,Ha⟩;simp only [Rp];exact ⟨none,0,rfl,ZEN _,WF,.inl Ha⟩
 ·exact l
 ·exact l
 ·subst hc;obtain ⟨b,S,vs,F,s,z,E,U,W,X⟩:=l;exact ⟨b,S,vs,F,s,z,E,U,λt=>W (g.mut h t),λx hx t=>X x hx (g.mut h t)⟩
 ·rename_i i R τ m;obtain ⟨rfl,rfl,b0⟩:=hc;obtain ⟨A,p⟩:=Hk.1 r;rcases (g.a1 i A p).2 with ⟨_,C,⟨B,rfl,_,M⟩,E⟩| ⟨s,_⟩
  ·obtain ⟨A2,T,k2,k3⟩:=l;rw [E] at T;obtain rfl:=ZEI T;refine ⟨_,p,λB' G=> ?_,k3⟩;obtain rfl:=ZEI G;show R<=B.es.length/\(B.es.length=R->v=rh e (α i));rw [M,rh,if_neg WF];exact k2 C rfl
  ·omega
 ·rename_i i R;obtain ⟨s,rfl⟩:=hc;have Q:v= .slice none 0 0:=l;subst Q;obtain ⟨A,p⟩:=Hk.1 r;rcases (g.a1 i A p).2 with ⟨z,_⟩| ⟨_,rfl,_⟩
  ·omega
  ·refine ⟨_,p,λB Y=> ?_,none,0,rfl,WF⟩;obtain rfl:=ZEI Y;refine ⟨ZEN _,λ_=> ?_⟩;show _=rh e (α i);rw [rh,if_pos s]
 ·rename_i i o k o';obtain ⟨rfl,rfl⟩:=hc;obtain ⟨cs,J⟩:=Hk.1 r;exact ⟨⟨cs,J⟩,l.2⟩
 ·rename_i f is g' ks;obtain ⟨rfl,rfl⟩:=hc;refine ⟨λk Z=>Hk.1 (r k Z), ?_⟩;rw [l.2,List.map_map]
  rfl
 ·exact l
 ·rename_i i k;subst hc;exact ⟨Hk.1 r,l.2⟩
 ·exact l
 ·exact hc.elim
theorem ZzT {d:CV} {cs:List CV} (hd:d.ZAU=true) (h:mtL α β cs [d]):cs=[d]:=by
 cases cs with
 | nil=>simp [mtL] at h
 | cons c t=>
  simp only [mtL] at h;cases t with
  | cons _ _=>simp [mtL] at h
  | nil=>cases d<;>(try cases hd)<;>cases c<;>simp [mtC,mtL] at h;rw [h]
theorem GM.Yn (g:GM O n α β γ bx ar bo ao) (h:ZJ N w0 e O a w) {tm:List (Nat×V)}:∀{cs ds:List CV} {vs:List Value},Am.Yn e O w ds vs->mtL α β cs ds->(∀c∈cs,clC bx ar c)->Am.Yn (Zsx e O α β bx ar) ⟨n,tm,bx,ar⟩ w cs vs
 | [],[],_,p,_,_=>p
 | [],_::_,_,_,k,_=>by simp [mtL] at k
 | _::_,[],_,_,k,_=>by simp [mtL] at k
 | c::cs,d::ds,vs,p,k,l=>by
  simp only [Am.Yn] at p ⊢;obtain ⟨v,r,s,t,z⟩:=p;simp only [mtL] at k;refine ⟨v,r,s,g.rel h t k.1 (l c Ha),g.Yn h z k.2 λc k=>l c (Hz _ k)⟩
theorem Zmq:∀{vs us:List V},Zvm α β vs us->vs.length=us.length/\∀(j:Nat) (v:V),vs[j]? =some v->∃u,us[j]? =some u/\mtV α β v u
 | [],[],_=>⟨rfl,Ha⟩
 | [],_::_,h=>by simp [Zvm] at h
 | _::_,[],h=>by simp [Zvm] at h
 | v::vs,u::us,h=>by
  simp only [Zvm] at h;obtain ⟨l,p⟩:=Zmq h.2;refine ⟨by simp [l],λj x k=> ?_⟩;cases j with
  | zero=>simp at k;subst k;exact ⟨u,Ha,h.1⟩
  | succ j=>obtain ⟨y,r,s⟩:=p j x (by simpa using k);exact ⟨y,by simpa using r,s⟩
theorem GM.ZBE (g:GM O n α β γ bx ar bo ao) (h:ZJ N w0 e O a w) {tm:List (Nat×V)} {x y:V} {v:Value} (l:y.rel e O w v) (hc:mtV α β x y) (k:clV bx ar x):x.rel (Zsx e O α β bx ar) ⟨n,tm,bx,ar⟩ w v:=by
 cases x<;>cases y<;>simp only [mtV] at hc
 ·exact g.rel h l hc k
 ·obtain ⟨s,p,r⟩:=l;exact ⟨s,p,g.Yn h r hc k⟩
theorem GM.enter (g:GM O n α β γ bx ar bo ao) (h:ZJ N w0 e O a w) {us:List Value} {vs Y:List V} (hl:us.length=Y.length) (hv:∀(j:Nat) (v:V),Y[j]? =some v->∃u,us[j]? =some u/\v.rel e O w u) (hm:Zvm α β vs Y) (b8:∀v∈vs,clV bx ar v) (hn:vs.length<=n):
  ZJ (λb=>w.heap.size<=b\/Zr0 e α β bx ar b) (bsG e O w α β bx ar) (Zsx e O α β bx ar) ⟨n,Zac 0 vs,bx,ar⟩ (ZmR n us) w:=by
 obtain ⟨c6,c1⟩:=Zmq hm
 have X:∀r,live ⟨n,Zac 0 vs,bx,ar⟩ r->(∀b,tpB (Zsx e O α β bx ar) r b->ZyM e α β bx ar b)/\(∀b∈blk (Zsx e O α β bx ar) r,Zr0 e α β bx ar b)/\¬ZkX r:=by
  intro r E;cases r with
  | b i=>
   obtain ⟨cs,J⟩:=E;exact ⟨λb l=>.inl ⟨i,cs,J,l⟩,λb l=>.inl ⟨i,cs,J,by simpa [blk,Zsx] using l⟩,λhd=>hd.elim⟩
  | a i=>
   obtain ⟨A,Q⟩:=E;have S:=(g.a1 i _ Q).1;refine ⟨λb l=>.inr ⟨i,_,Q, ?_⟩,λb l=>.inr ⟨i,_,Q,Zwy.1 l⟩,λhd=>by have:1000000<=i:=hd;omega⟩;rcases l with l| ⟨l,_⟩
   ·exact l
   ·omega
 have T:∀r b,live ⟨n,Zac 0 vs,bx,ar⟩ r->b∈blk (Zsx e O α β bx ar) r->∃M,live O M/\b∈blk e M/\((∃i,r= .b i/\M= .b (β i))\/∃i,r= .a i/\M= .a (α i)):=by
  intro r b E l;cases r with
  | b i=>
   obtain ⟨cs,J⟩:=E;obtain ⟨_,ds,z,_⟩:=g.b1 i cs J;exact ⟨.b (β i),⟨ds,z⟩,l,.inl ⟨i,rfl,rfl⟩⟩
  | a i=>
   obtain ⟨A,Q⟩:=E;obtain ⟨_,I,C,z⟩:=g.got Q (Zwy.1 l);exact ⟨.a (α i),⟨C,z⟩,((h.ar _ C z).own I).1,.inr ⟨i,rfl,rfl⟩⟩
 have tG:∀b,ZyM e α β bx ar b->w0.tch b:=by
  rintro b (⟨i,cs,S,rfl⟩| ⟨i,A,S,h2⟩)
  ·obtain ⟨_,ds,z,_⟩:=g.b1 i cs S;exact h.tp (.b (β i)) _ ⟨ds,z⟩ rfl
  ·obtain ⟨_,I,B,z⟩:=g.got S h2;exact h.tp (.a (α i)) b ⟨B,z⟩ (.inl I)
 refine ⟨by simp [ZmR];omega,rfl,λt x ht=> ?_,λi cs hi=> ?_,λi A Q=> ?_,λr c4 E U c3=> ?_,⟨?_,rfl,rfl,rfl,ZEN _,λ_ _ _=>rfl,λb l=>.inl l⟩,⟨λ_ h=>h,λb l=>⟨?_,λr E b7=> ?_⟩⟩,λr E hd=> ?_,λ_ _ _ _=>rfl,λb l=> ?_,λr b E l=> ?_⟩
 ·obtain ⟨j,rfl,hj⟩:=Zlw ht;obtain ⟨y,S,h2⟩:=c1 j x hj;obtain ⟨u,z,I⟩:=hv j y S;rw [HH,ZuA z];exact g.ZBE h I h2 (b8 x (Gg hj))
 ·obtain ⟨_,ds,z,I⟩:=g.b1 i cs hi;obtain ⟨_,k2⟩:=h.bx _ ds z;exact ⟨.inr (.inl ⟨i,cs,hi,rfl⟩),k2.imp (λvs k3=>g.Yn h k3 I (g.e1 i cs hi)) λc h0 hc=>ZzT hc (h0▸I)⟩
 ·rcases (g.a1 i _ Q).2 with ⟨c0,C,⟨B,hB,hf,b2⟩,z⟩| ⟨S,hB,_⟩
  ·skip
   obtain rfl:=ZEI hB;obtain ⟨f,es⟩:=A;simp only at hf b2;subst hf b2;obtain ⟨p,c,R,hc,I| ⟨b,t,b4,Fs,W,rfl,q2,q3,q4,q5,q6,q7,q8⟩⟩:=h.ar _ C z
   ·exact ⟨p,c,(show rh e (α i)=e.ρ (α i) from if_neg WF).trans R,hc,.inl ⟨I.1,I.2.1,I.2.2.1,by simp [Zsx,ob,rh,show ¬2000000<=α i from WF,R,I.2.1,Value.ownBlock]⟩⟩
   ·have ho:(e.ρ (α i)).ownBlock=some b:=by rw [R];rfl
    have Z:rh e (α i)=e.ρ (α i):=if_neg WF;refine ⟨_,c,Z.trans R,hc,.inr ⟨b,t,b4,Fs,W,rfl,.inr (.inr ⟨i,_,Q,by rw [Z];exact ho⟩),q3,q4,q5,q6,q7,.inr ⟨rfl,by simp [Zsx,ob,Z,ho], ?_⟩⟩⟩;rcases q8 with ⟨g1,g2,g3,g4⟩| ⟨g1,g2,g3,g4⟩
    ·refine ⟨g4.rp,λx hx hm=>h.inner z c0 (by simp [g2,hx]) ?_ (g.mut h hm)⟩;rw [ho];intro e';obtain rfl:=ZEI e';rw [g2] at g3;exact (Gf.1 g3).1 hx
    ·exact ⟨g3,λx hx hm=>g4 x hx (g.mut h hm)⟩
  ·obtain rfl:=ZEI hB;have Z:rh e (α i)= .slice none 0 0:=if_pos S;exact ⟨none,0,Z,WF,.inl ⟨rfl,rfl,rfl,by simp [Zsx,ob,Z,Value.ownBlock]⟩⟩
 ·intro b l b6;obtain ⟨M,k1,k2,k6⟩:=T r b E l;obtain ⟨c5,l1,l2,l6⟩:=T c4 b U b6;refine h.sep M c5 k1 l1 (λs=>c3 ?_) b k2 l2;rcases k6 with ⟨i,rfl,rfl⟩| ⟨i,rfl,rfl⟩<;>rcases l6 with ⟨j,rfl,rfl⟩| ⟨j,rfl,rfl⟩
  ·obtain ⟨cs,J⟩:=E;obtain ⟨ds,b9⟩:=U;obtain ⟨b3,b0⟩:=g.c2 i cs J;obtain ⟨b5,b1⟩:=g.c2 j ds b9;injection s with s
   rw [g.b2 i b3 j b5 b0 b1 s]
  ·cases s
  ·cases s
  ·obtain ⟨A,Q⟩:=E;obtain ⟨B,hB⟩:=U;injection s with s
   rw [g.a2 i _ j _ Q hB s]
 ·obtain ⟨G,hG,c2⟩:=h.fr.glb;refine ⟨G,hG,λb l hm=> ?_⟩;rcases hm with hm| hm
  ·have:=hG.1 b l;omega
  ·exact c2 b l (tG b hm)
 ·rcases h.Zwx l.1 with k| k
  ·exact (h.bad.2 b k).1
  ·exact k.1
 ·exact absurd ((X r E).2.1 b b7) l.2
 ·exact absurd hd (X r E).2.2
 ·rcases l with l| l
  ·exact .inl l
  ·exact .inr l
 ·exact .inr ((X r E).1 b l)
theorem Zam {B C:Type} (s:Nat->Nat) (f:B->C):∀{l:List (Nat×B)},(∀i j,(l.lookup i).isSome=true->(l.lookup j).isSome=true->s i=s j->i=j)->∀{k:Nat} {c:C},(l.map λp=>(s p.1,f p.2)).lookup k=some c↔∃i x,l.lookup i=some x/\k=s i/\c=f x
 | [],_,k,c=>Ha
 | (j,y)::l,A,k,c=>by
  have E:∀i j,(l.lookup i).isSome=true->(l.lookup j).isSome=true->s i=s j->i=j:=λi Q S M J=>A i Q (by rw [lookup_cons];split<;>simp [*]) (by rw [lookup_cons];split<;>simp [*]) J;have R:=Zam (l:=l) s f E (k:=k) (c:=c);simp only [Hi,lookup_cons]
  by_cases z:k=s j
  ·rw [if_pos z];refine ⟨λh=>⟨j,y,Ha,z,(ZEI h).symm⟩, ?_⟩;rintro ⟨i,x,r,t,rfl⟩;have I:i=j:=A i j (by rw [lookup_cons,r];rfl) (by rw [lookup_cons,if_pos rfl];rfl) (by rw [<-t,z]);rw [if_pos I] at r;rw [ZEI r]
  ·rw [if_neg z,R];refine ⟨λ⟨i,x,r,t,G⟩=>⟨i,x,by rw [if_neg (λe=>z (by rw [t,e]))];exact r,t,G⟩,λ⟨i,x,r,t,G⟩=>⟨i,x,by rw [if_neg (λe=>z (by rw [t,e]))] at r;exact r,t,G⟩⟩
theorem J4 {B C:Type} (t:Nat->Nat) (f:B->C) {l:List (Nat×B)} {k:Nat} (h:(l.map λp=>(t p.1,f p.2)).lookup k=none):∀i x,l.lookup i=some x->k≠t i:=by
 induction l with
 | nil=>simp
 | cons p l A=>
  obtain ⟨j,y⟩:=p;simp only [Hi,lookup_cons] at h
  split at h
  ·cases h
  ·rename_i z;intro i x r;rw [lookup_cons] at r
   split at r
   ·rename_i s;rw [s];exact z
   ·exact A h i x r
theorem Zan {B:Type} (l r:List (Nat×B)) (k:Nat):(l++r).lookup k=match l.lookup k with | some x=>some x| none=>r.lookup k:=by
 induction l with
 | nil=>rfl
 | cons p l s=>
  obtain ⟨j,y⟩:=p;simp only [Hm,lookup_cons]
  split
  ·rfl
  ·exact s
def gT (γ β:Nat->Nat) (dst:Option Nat) (r:V):List (Nat×V):=
 match dst with
 | some d=>[(d,rnV γ β r)]
 | none=>[]
def ZkW (α β γ:Nat->Nat) (dst:Option Nat) (r:V) (bo:List (Nat×List CV)) (ao ar:List (Nat×Option Arr)):Eff:=
 ⟨True,gT γ β dst r,bo.map λp=>(β p.1,p.2.map (rnC γ β)),(ao.map λp=>(γ p.1,p.2))++ar.map λp=>(α p.1,none)⟩
theorem GM.bok (g:GM O n α β γ bx ar bo ao) (h:ZJ N w0 e O a w):Bok (λb=>w.heap.size<=b\/Zr0 e α β bx ar b) (bsG e O w α β bx ar):=by
 refine ⟨λb p l=> ?_,λb l=> ?_⟩
 ·rcases l with l| l
  ·have:b<w.heap.size:=by
    rcases h.Zwx p.1 with k| k
    ·exact (h.bad.2 b k).1
    ·exact k.1
   omega
  ·exact p.2 l
 ·exact l
open Classical in
theorem GM.ZB7 (g:GM O n α β γ bx ar bo ao) (h:ZJ N w0 e O a w) {w':World} {e2:Env} {r:V} {u:Value} (h2:ZJ (λb=>w.heap.size<=b\/Zr0 e α β bx ar b) (bsG e O w α β bx ar) e2 ⟨n,[],bo,ao⟩ (ZmR n []) w') (hz:r.rel e2 ⟨n,[],bo,ao⟩ w' u)
  (hrc:ZA3 bo ao r) (hao:∀i A,ao.lookup i=some A->∃B,A=some B) {dst:Option Nat} (hd:∀d,dst=some d->d<O.nt):
  ∃e3,ZJ N w0 e3 (O.app (ZkW α β γ dst r bo ao ar)) (a.put dst u) w':=by
 let e3:Env:=⟨λk=>if h:∃i cs,bo.lookup i=some cs/\β i=k then e2.β h.choose else e.β k,λτ=>if h:∃i A,ao.lookup i=some (some A)/\γ i=τ then e2.ρ h.choose else e.ρ τ,λτ=>if h:∃i A,ao.lookup i=some (some A)/\γ i=τ then e2.φ h.choose else e.φ τ,e.bad⟩
 obtain ⟨O3,hσ3⟩:∃O3,O3=O.app (ZkW α β γ dst r bo ao ar):=⟨_,rfl⟩
 have hβ:∀i cs,bo.lookup i=some cs->e3.β (β i)=e2.β i:=λi cs hi=>by
  have hx:∃j cs,bo.lookup j=some cs/\β j=β i:=⟨i,cs,hi,rfl⟩;show (if h:∃j cs,bo.lookup j=some cs/\β j=β i then e2.β h.choose else e.β (β i))=_;rw [dif_pos hx];obtain ⟨cs',h1,h3⟩:=hx.choose_spec;rw [g.b2 _ _ _ _ h1 hi h3]
 have hβ':∀k,(∀i cs,bo.lookup i=some cs->β i≠k)->e3.β k=e.β k:=λk hk=>dif_neg λ⟨i,cs,h1,h3⟩=>hk i cs h1 h3
 have hγ:∀i A,ao.lookup i=some (some A)->e3.ρ (γ i)=e2.ρ i/\e3.φ (γ i)=e2.φ i:=λi A hi=>by
  have hx:∃j A,ao.lookup j=some (some A)/\γ j=γ i:=⟨i,A,hi,rfl⟩;obtain ⟨B,h1,h3⟩:=hx.choose_spec;have hc:=g.d2 _ _ _ _ h1 hi h3;refine ⟨?_, ?_⟩
  ·show (if h:∃j A,ao.lookup j=some (some A)/\γ j=γ i then e2.ρ h.choose else e.ρ (γ i))=_;rw [dif_pos hx,hc]
  ·show (if h:∃j A,ao.lookup j=some (some A)/\γ j=γ i then e2.φ h.choose else e.φ (γ i))=_;rw [dif_pos hx,hc]
 have hγ':∀τ,(∀i A,ao.lookup i=some (some A)->γ i≠τ)->e3.ρ τ=e.ρ τ/\e3.φ τ=e.φ τ:=λτ hτ=>⟨dif_neg λ⟨i,A,h1,h3⟩=>hτ i A h1 h3,dif_neg λ⟨i,A,h1,h3⟩=>hτ i A h1 h3⟩
 have nog:∀i A τ B,ao.lookup i=some (some A)->O.ar.lookup τ=some B->γ i≠τ:=λi A τ B h1 h3 he=>by
  have:=(g.d1 i A h1).2.2;rw [he,h3] at this;cases this
 have injb:∀i j,(bo.lookup i).isSome=true->(bo.lookup j).isSome=true->β i=β j->i=j:=λi j hi hj he=>by
  obtain ⟨x,hx⟩:=Hk.1 hi;obtain ⟨y,hy⟩:=Hk.1 hj;exact g.b2 i x j y hx hy he
 have injo:∀i j,(ao.lookup i).isSome=true->(ao.lookup j).isSome=true->γ i=γ j->i=j:=λi j hi hj he=>by
  obtain ⟨x,hx⟩:=Hk.1 hi;obtain ⟨y,hy⟩:=Hk.1 hj;obtain ⟨x',rfl⟩:=hao i x hx;obtain ⟨y',rfl⟩:=hao j y hy;exact g.d2 i x' j y' hx hy he
 have inja:∀i j,(ar.lookup i).isSome=true->(ar.lookup j).isSome=true->α i=α j->i=j:=λi j hi hj he=>by
  obtain ⟨x,hx⟩:=Hk.1 hi;obtain ⟨y,hy⟩:=Hk.1 hj;exact g.a2 i x j y hx hy he
 have bx3:O3.bx=(bo.map λp=>(β p.1,p.2.map (rnC γ β)))++O.bx:=by rw [hσ3];rfl
 have ar3:O3.ar=(ao.map λp=>(γ p.1,p.2))++((ar.map λp=>(α p.1,none))++O.ar):=by rw [hσ3];simp [St.app,ZkW]
 have L1:∀k cs,O3.bx.lookup k=some cs->(∃i cs',bo.lookup i=some cs'/\k=β i/\cs=cs'.map (rnC γ β))\/((∀i cs',bo.lookup i=some cs'->k≠β i)/\O.bx.lookup k=some cs):=λk cs hk=>by
  rw [bx3,Zan] at hk
  split at hk
  ·rename_i x hx;obtain rfl:=ZEI hk;exact .inl ((Zam β _ injb).1 hx)
  ·rename_i hx;exact .inr ⟨J4 β _ hx,hk⟩
 have L1':∀i cs',bo.lookup i=some cs'->O3.bx.lookup (β i)=some (cs'.map (rnC γ β)):=λi cs' hi=>by
  rw [bx3,Zan,(Zam β _ injb).2 ⟨i,cs',hi,rfl,rfl⟩]
 have L1'':∀k cs,O.bx.lookup k=some cs->∃cs',O3.bx.lookup k=some cs':=λk cs hk=>by
  rw [bx3,Zan]
  split
  ·exact ⟨_,rfl⟩
  ·exact ⟨cs,hk⟩
 have L2:∀τ B,O3.ar.lookup τ=some (some B)->(∃i,ao.lookup i=some (some B)/\τ=γ i)\/((∀i A,ao.lookup i=some A->τ≠γ i)/\(∀i A,ar.lookup i=some A->τ≠α i)/\O.ar.lookup τ=some (some B)):=λτ B hτ=>by
  rw [ar3,Zan] at hτ
  split at hτ
  ·rename_i x hx;obtain rfl:=ZEI hτ;obtain ⟨i,y,h1,h3,rfl⟩:=(Zam γ (λx=>x) injo).1 hx;exact .inl ⟨i,h1,h3⟩
  ·rename_i hx;rw [Zan] at hτ
   split at hτ
   ·rename_i y hy;obtain ⟨i,z,h1,h3,h4⟩:=(Zam α (λ_=>(none:Option Arr)) inja).1 hy;rw [h4] at hτ;cases hτ
   ·rename_i hy;exact .inr ⟨J4 γ (λx=>x) hx,J4 α (λ_=>(none:Option Arr)) hy,hτ⟩
 have L2':∀i A,ao.lookup i=some (some A)->O3.ar.lookup (γ i)=some (some A):=λi A hi=>by
  rw [ar3,Zan,(Zam γ (λx=>x) injo).2 ⟨i,some A,hi,rfl,rfl⟩]
 have L2'':∀τ A,O.ar.lookup τ=some A->O3.ar.lookup τ=some none\/(O3.ar.lookup τ=some A/\∀i A,ar.lookup i=some A->τ≠α i):=λτ A hA=>by
  rw [ar3,Zan]
  split
  ·rename_i x hx;obtain ⟨i,y,h1,h3,rfl⟩:=(Zam γ (λx=>x) injo).1 hx;obtain ⟨B,rfl⟩:=hao i _ h1;exact absurd h3.symm (nog i B τ A h1 hA)
  ·rw [Zan]
   split
   ·rename_i y hy;obtain ⟨i,z,h1,h3,rfl⟩:=(Zam α (λ_=>(none:Option Arr)) inja).1 hy;exact .inl rfl
   ·rename_i hy;exact .inr ⟨hA,J4 α (λ_=>(none:Option Arr)) hy⟩
 have nga:∀τ A,O.ar.lookup τ=some A->∀i B,ao.lookup i=some (some B)->γ i≠τ:=λτ A hA i B hi=>nog i B τ A hi hA
 have gN:∀b,Zr0 e α β bx ar b->b<w.heap.size/\N b:=by
  rintro b (⟨i,cs,h1,rfl⟩| ⟨i,A,h1,h3⟩)
  ·obtain ⟨_,ds,h3,_⟩:=g.b1 i cs h1;exact h.Yp (κ:=.b (β i)) ⟨ds,h3⟩ _ (by simp [blk])
  ·obtain ⟨_,h5,B,h4⟩:=g.got h1 h3;exact h.Yp (κ:=.a (α i)) ⟨B,h4⟩ b ((h.ar _ B h4).own h5).1
 have N1:∀b,(w.heap.size<=b\/Zr0 e α β bx ar b)->N b:=λb hb=>hb.elim (λhb=>h.tn b (h.fr.new b (HA h.fr.size hb))) λhb=>(gN b hb).2
 have tG:∀b,ZyM e α β bx ar b->Mut e O b/\w0.tch b:=by
  rintro b (⟨i,cs,h1,rfl⟩| ⟨i,A,h1,h3⟩)
  ·obtain ⟨_,ds,h3,_⟩:=g.b1 i cs h1;exact ⟨.inr (.inl ⟨_,ds,h3,rfl⟩),h.tp (.b (β i)) _ ⟨ds,h3⟩ rfl⟩
  ·obtain ⟨_,h5,B,h4⟩:=g.got h1 h3;exact ⟨.inr (.inr ⟨_,B,h4,h5⟩),h.tp (.a (α i)) b ⟨B,h4⟩ (.inl h5)⟩
 have T1:∀b,(bsG e O w α β bx ar).tch b->w0.tch b:=λb hb=>hb.elim (λhb=>h.fr.new b (HA h.fr.size hb)) λhb=>(tG b hb).2;have same:∀b,b<w.heap.size->¬ZyM e α β bx ar b->w'.heap[b]? =w.heap[b]? :=λb hb ht=>h2.fr.block b hb λhm=>hm.elim (λhm=>absurd (show w.heap.size<=b from hm) WF) ht
 have apart:∀κ,live O κ->(∀i cs,bx.lookup i=some cs->κ≠.b (β i))->(∀i A,ar.lookup i=some A->κ≠.a (α i))->∀b∈blk e κ,¬Zr0 e α β bx ar b/\¬ZyM e α β bx ar b:=by
  intro κ hk n1 n2 b hb
  have k1:¬Zr0 e α β bx ar b:=by
   rintro (⟨i,cs,h1,rfl⟩| ⟨i,A,h1,h3⟩)
   ·obtain ⟨_,ds,h3,_⟩:=g.b1 i cs h1;exact h.sep κ (.b (β i)) hk ⟨ds,h3⟩ (n1 i cs h1) _ hb (by simp [blk])
   ·obtain ⟨_,h5,B,h4⟩:=g.got h1 h3;exact h.sep κ (.a (α i)) hk ⟨B,h4⟩ (n2 i A h1) b hb ((h.ar _ B h4).own h5).1
  exact ⟨k1,k1⟩
 have bxo:∀k,(∀i cs',bo.lookup i=some cs'->k≠β i)->∀i cs,bx.lookup i=some cs->Key.b k≠.b (β i):=λk hk i cs hi he=>by
  obtain ⟨cs',h3⟩:=g.c2 i cs hi;injection he with he
  exact hk i cs' h3 he
 have M:∀b,Mut e3 O3 b->Mut e2 ⟨n,[],bo,ao⟩ b:=by
  intro b hm;have old:Mut e O b->¬Zr0 e α β bx ar b->Mut e2 ⟨n,[],bo,ao⟩ b:=λk1 k2=>.inl (h2.bad.1 b ⟨k1,k2⟩);rcases hm with h0| ⟨k,cs,k1,k2⟩| ⟨τ,B,k1,k2⟩
  ·refine old (.inl h0) ?_;rintro (⟨i,cs,q1,rfl⟩| ⟨i,A,q1,q3⟩)
   ·obtain ⟨_,ds,q3,_⟩:=g.b1 i cs q1;exact (h.bad.2 _ h0).2 (.b (β i)) ⟨ds,q3⟩ (by simp [blk])
   ·obtain ⟨q5,q6,B,q4⟩:=g.got q1 q3;have:1000000<=α i:=(h.bad.2 b h0).2 (.a (α i)) ⟨B,q4⟩ ((h.ar _ B q4).own q6).1;omega
  ·rcases L1 k cs k1 with ⟨i,cs',q1,rfl,_⟩| ⟨q1,q2⟩
   ·rw [hβ i cs' q1] at k2;exact .inr (.inl ⟨i,cs',q1,k2⟩)
   ·rw [hβ' k λi cs' hi he=>q1 i cs' hi he.symm] at k2;exact old (.inr (.inl ⟨k,cs,q2,k2⟩)) (apart (.b k) ⟨cs,q2⟩ (bxo k q1) (λi A _ he=>by cases he) b (by simp [blk,k2])).1
  ·rcases L2 τ B k1 with ⟨i,q1,rfl⟩| ⟨q1,q2,q3⟩
   ·rw [(hγ i B q1).1] at k2;exact .inr (.inr ⟨i,B,q1,k2⟩)
   ·rw [(hγ' τ (nga τ _ q3)).1] at k2;exact old (.inr (.inr ⟨τ,B,q3,k2⟩)) (apart (.a τ) ⟨B,q3⟩ (λi cs _ he=>by cases he) (λi A hi he=>by injection he with he;exact q2 i A hi he) b ((h.ar τ B q3).own k2).1).1
 have C:∀c v,c.rel e2 ⟨n,[],bo,ao⟩ w' v->clO bo ao c->(rnC γ β c).rel e3 O3 w' v:=by
  intro c v hr hc;cases c<;>simp only [clO] at hc<;>try exact hc.elim
  ·obtain ⟨F,k1,k2⟩:=hr;exact ⟨F,k1,λb hb hm=>k2 b hb (M b hm)⟩
  ·exact hr
  ·rename_i i m;obtain ⟨A,hA⟩:=hc;obtain ⟨A2,k1,k2,k3⟩:=hr;have k1':ao.lookup i=some A2:=k1;rw [hA] at k1';obtain rfl:=ZEI k1';exact ⟨some A,L2' i A hA,λB hB=>by rw [(hγ i A hA).1];exact k2 B hB,k3⟩
  ·rename_i i o;obtain ⟨cs,hcs⟩:=Hk.1 hc;refine ⟨⟨_,L1' i cs hcs⟩, ?_⟩;rw [hβ i cs hcs];exact hr.2
  ·obtain ⟨b,off,vs,F,k1,k2,k3,k4,k5,k6⟩:=hr;exact ⟨b,off,vs,F,k1,k2,k3,k4,λhm=>k5 (M b hm),λx hx hm=>k6 x hx (M x hm)⟩
  ·exact hr
  ·obtain ⟨_,F,k1,k2⟩:=hr;exact ⟨F,k1,λb hb hm=>k2 b hb (M b hm)⟩
  ·exact hr
  ·rename_i f is;refine ⟨λk hk=> ?_, ?_⟩
   ·obtain ⟨i,hi,rfl⟩:=Hd.1 hk;obtain ⟨cs,hcs⟩:=Hk.1 (hc i hi);exact ⟨_,L1' i cs hcs⟩
   ·rw [hr.2,List.map_map];refine congrArg (λl:List Value=>Value.func (.func f) #[] l.toArray) (List.map_congr_left λi hi=> ?_);obtain ⟨cs,hcs⟩:=Hk.1 (hc i hi);simp only [Function.comp,hβ i cs hcs]
  ·exact hr
  ·rename_i i;obtain ⟨cs,hcs⟩:=Hk.1 hc;refine ⟨⟨_,L1' i cs hcs⟩, ?_⟩;rw [hβ i cs hcs];exact hr.2
  ·exact hr
 have CL:∀(cs:List CV) (vs:List Value),Am.Yn e2 ⟨n,[],bo,ao⟩ w' cs vs->(∀c∈cs,clO bo ao c)->Am.Yn e3 O3 w' (cs.map (rnC γ β)) vs:=by
  intro cs
  induction cs with
  | nil=>intro vs hr _;exact hr
  | cons c cs ih=>
   intro vs hr hc;simp only [Am.Yn,Hi] at hr ⊢;obtain ⟨v,vs',k0,k1,k2⟩:=hr;exact ⟨v,vs',k0,C c v k1 (hc c Ha),ih vs' k2 λx hx=>hc x (by simp [hx])⟩
 have CP:∀(ps:List (Bool×List CV)) (vs:List Value),YH e2 ⟨n,[],bo,ao⟩ w' ps vs->(∀p∈ps,∀c∈p.2,clO bo ao c)->YH e3 O3 w' (ps.map λp=>(p.1,p.2.map (rnC γ β))) vs:=by
  intro ps
  induction ps with
  | nil=>intro vs hr _;exact hr
  | cons p ps ih=>
   intro vs hr hc;obtain ⟨b,cs⟩:=p;simp only [YH,Hi] at hr ⊢;obtain ⟨v,vs',k0,k1,k2⟩:=hr;refine ⟨v,vs',k0, ?_,ih vs' k2 λx hx=>hc x (by simp [hx])⟩;cases b
   ·obtain ⟨c,rfl,k3⟩:=k1;exact ⟨rnC γ β c,rfl,C c v k3 (hc (false,[c]) Ha c Ha)⟩
   ·obtain ⟨us,rfl,k3⟩:=k1;exact ⟨us,rfl,CL cs us k3 (hc (true,cs) Ha)⟩
 have CR:r.rel e2 ⟨n,[],bo,ao⟩ w' u->ZA3 bo ao r->(rnV γ β r).rel e3 O3 w' u:=by
  intro hr hc;cases r with
  | one c=>exact C c u hr hc
  | agg cs=>
   obtain ⟨us,hu,hr⟩:=hr;exact ⟨us,hu,CL cs us hr hc⟩
  | tup ps=>
   obtain ⟨us,hu,hr⟩:=hr;exact ⟨us,hu,CP ps us hr hc⟩
  | dead=>exact hr
 rw [<-hσ3];have nt3:O3.nt=O.nt:=by rw [hσ3];rfl
 have tm3:O3.tm=gT γ β dst r++O.tm:=by rw [hσ3];rfl
 have pin2:∀i cs,bo.lookup i=some cs->∀cs0,bx.lookup i=some cs0->e2.β i=e.β (β i):=λi cs hi cs0 h0=>h2.pn i cs hi (g.b1 i cs0 h0).1
 have bold:∀i cs,bo.lookup i=some cs->∀ds,O.bx.lookup (β i)=some ds->e3.β (β i)=e.β (β i):=λi cs hi ds hds=>by
  rw [hβ i cs hi];rcases g.c1 i cs hi with ⟨cs',h3⟩| ⟨_,h3,_⟩
  ·exact pin2 i cs hi cs' h3
  ·rw [h3] at hds;cases hds
 have mt:∀b,b<w.heap.size->Mut e3 O3 b->Mut e O b:=by
  intro b hb hm;have tt:(bsG e O w α β bx ar).tch b->Mut e O b:=λk=>k.elim (λk=>absurd (show w.heap.size<=b from k) WF) λk=>(tG b k).1;rcases hm with h0| ⟨k,cs,k1,k2⟩| ⟨τ,B,k1,k2⟩
  ·exact .inl h0
  ·rcases L1 k cs k1 with ⟨i,cs',q1,rfl,_⟩| ⟨q1,q2⟩
   ·rw [hβ i cs' q1] at k2;exact tt (h2.tp (.b i) b ⟨cs',q1⟩ k2.symm)
   ·rw [hβ' k λi cs' hi he=>q1 i cs' hi he.symm] at k2;exact .inr (.inl ⟨k,cs,q2,k2⟩)
  ·rcases L2 τ B k1 with ⟨i,q1,rfl⟩| ⟨q1,q2,q3⟩
   ·rw [(hγ i B q1).1] at k2;exact tt (h2.tp (.a i) b ⟨B,q1⟩ (.inl k2))
   ·rw [(hγ' τ (nga τ _ q3)).1] at k2;exact .inr (.inr ⟨τ,B,q3,k2⟩)
 have up:Up e O w e3 O3 w':=by
  refine ⟨h2.fr.size,λb hb hm=>same b hb λk=>hm (tG b k).1,mt,λk cs hk=>⟨L1'' k cs hk, ?_⟩,λτ A hA=> ?_,λτ hτ ⟨B,hB⟩ _=> ?_⟩
  ·by_cases hx:∃i cs',bo.lookup i=some cs'/\β i=k
   ·obtain ⟨i,cs',h3,rfl⟩:=hx;exact bold i cs' h3 cs hk
   ·exact hβ' k λi cs' hi he=>hx ⟨i,cs',hi,he⟩
  ·rcases L2'' τ A hA with k| ⟨k,_⟩
   ·exact ⟨none,k,λ_ hx=>by cases hx⟩
   ·exact ⟨A,k,λB' hB=>⟨B',hB,ZEN _,λ_=>(hγ' τ (nga τ A hA)).1⟩⟩
  ·refine ⟨(hγ' τ (nga τ _ hB)).1,λb hb=>same b ?_ ?_⟩
   ·exact (h.Yp (κ:=.a τ) ⟨B,hB⟩ b ((h.ar τ B hB).own hb).1).1
   ·exact (apart (.a τ) ⟨B,hB⟩ (λi cs _ he=>by cases he) (λi A hi he=>by
    injection he with he
    rcases (g.a1 i A hi).2 with ⟨hx,_⟩| ⟨_,_,hx| hx⟩
    ·omega
    ·rw [<-he,hB] at hx;cases hx
    ·rw [<-he,hB] at hx;cases hx) b ((h.ar τ B hB).own hb).1).2
 have oa:∀τ A,O.ar.lookup τ=some (some A)->(∀i A,ar.lookup i=some A->τ≠α i)->∀b∈e.φ τ,w'.heap[b]? =w.heap[b]? :=λτ A hA hn b hb=>
  same b (h.Yp (κ:=.a τ) ⟨A,hA⟩ b hb).1 (apart (.a τ) ⟨A,hA⟩ (λi cs _ he=>by cases he) (λi B hi he=>by injection he with he;exact hn i B hi he) b hb).2
 refine ⟨e3,h.Zqi up (λκ=>match κ with | .b k=>∃i cs,bo.lookup i=some cs/\k=β i| .a τ=>∃i A,ao.lookup i=some (some A)/\τ=γ i) (by rw [Z2,nt3];exact h.nt) (by rw [ZO];exact h.df)
  (λt v ht=> ?_) (λk cs hk hK=> ?_) (λτ A hA hK=> ?_) (λk cs hk hK=> ?_) (λτ A hA hK=> ?_) (λκ hl hK b hb=> ?_) (λκ κ' hl hl' hne hK hK'=> ?_) ?_ (λ_ h=>h) (λb hb=>.inl hb) (λκ hl hK hd=> ?_) (λk cs hk hK hle=> ?_) (λκ b hl hK hb=> ?_) nt3⟩
 ·rw [tm3] at ht;cases dst with
  | none=>exact .inl ⟨by simpa [gT] using ht,rfl⟩
  | some d=>exact ZaX (by rw [h.nt];exact hd d rfl) (CR hz hrc) t v ht
 ·rcases L1 k cs hk with ⟨i,cs',q1,q2,_⟩| ⟨q1,q2⟩
  ·exact absurd ⟨i,cs',q1,q2⟩ hK
  ·refine ⟨q2,same _ (h.Yp (κ:=.b k) ⟨cs,q2⟩ _ (by simp [blk])).1 ?_⟩;exact (apart (.b k) ⟨cs,q2⟩ (bxo k q1) (λi A _ he=>by cases he) _ (by simp [blk])).2
 ·rcases L2 τ A hA with ⟨i,q1,q2⟩| ⟨q1,q2,q3⟩
  ·exact absurd ⟨i,A,q1,q2⟩ hK
  ·exact ⟨q3,(hγ' τ (nga τ _ q3)).1,(hγ' τ (nga τ _ q3)).2,oa τ A q3 q2⟩
 ·obtain ⟨i,cs',q1,rfl⟩:=hK;rw [L1' i cs' q1] at hk;obtain rfl:=ZEI hk;rw [hβ i cs' q1];obtain ⟨k1,k2⟩:=h2.bx i cs' q1;exact ⟨N1 _ k1,k2.imp (λvs k3=>CL _ _ k3 (g.e2 i cs' q1)) λc h0 hc=>by have q:=g.e2 i cs' q1;rw [h0] at q ⊢;cases c<;>first | rfl| exact (q _ (Hu.2 rfl):False).elim| cases hc⟩
 ·obtain ⟨i,A',q1,rfl⟩:=hK;rw [L2' i A' q1] at hA;obtain rfl:=ZEI (ZEI hA);rw [(hγ i A' q1).1,(hγ i A' q1).2];have nin:∀b∈e2.φ i,N b:=λb hb=>N1 b (h2.Yp (κ:=.a i) ⟨A',q1⟩ b hb).2;obtain ⟨p,c,hv,hc,k| ⟨b,t,cur,Fs,W,q2,q3,q4,q5,q6,q7,q8,q9⟩⟩:=h2.ar i A' q1
  ·exact ⟨p,c,hv,hc,.inl k⟩
  ·refine ⟨p,c,hv,hc,.inr ⟨b,t,cur,Fs,W,q2,N1 b q3,q4,q5,q6,q7,q8, ?_⟩⟩;rcases q9 with ⟨g1,g2,g3,g4⟩| ⟨g1,g2,g3,g4⟩
   ·exact .inl ⟨g1,g2,g3,g4.within λx hx=>nin x (by rw [g2];exact Hz _ hx)⟩
   ·exact .inr ⟨g1,g2,g3,λx hx hm=>g4 x hx (M x hm)⟩
 ·have hN:w.heap.size<=b\/Zr0 e α β bx ar b:=by
   cases κ with
   | b k=>
    obtain ⟨i,cs',q1,rfl⟩:=hK;refine (h2.Yp (κ:=.b i) ⟨cs',q1⟩ b ?_).2;simp only [blk,hβ i cs' q1] at hb ⊢;exact hb
   | a τ=>
    obtain ⟨i,A,q1,rfl⟩:=hK;refine (h2.Yp (κ:=.a i) ⟨A,q1⟩ b ?_).2;simp only [blk,(hγ i A q1).2] at hb ⊢;exact hb
  rcases hN with k| ⟨i,cs,k1,k2⟩| ⟨i,A,k1,k2⟩
  ·exact .inr (.inr k)
  ·obtain ⟨_,ds,h3,_⟩:=g.b1 i cs k1;obtain ⟨cs',h4⟩:=g.c2 i cs k1;exact .inr (.inl ⟨.b (β i),.inr ⟨i,cs',h4,rfl⟩,⟨ds,h3⟩,by simp [blk,k2],λh=>h.elim⟩)
  ·obtain ⟨k3,k4,B,h3⟩:=g.got k1 k2;refine .inr (.inl ⟨.a (α i),.inl ?_,⟨B,h3⟩,((h.ar _ B h3).own k4).1,λh=>absurd (show 1000000<=α i from h) WF⟩);rintro ⟨C',hC⟩;rcases L2'' (α i) _ h3 with k| ⟨_,k⟩
   ·rw [k] at hC;cases hC
   ·exact k i A k1 rfl
 ·have back:∀κ,(match κ with | .b k=>∃i cs,bo.lookup i=some cs/\k=β i| .a τ=>∃i A,ao.lookup i=some (some A)/\τ=γ i)->∃κ2,live ⟨n,[],bo,ao⟩ κ2/\blk e3 κ=blk e2 κ2/\((∃i,κ2= .b i/\κ= .b (β i))\/∃i,κ2= .a i/\κ= .a (γ i)):=by
   intro κ hK;cases κ with
   | b k=>
    obtain ⟨i,cs',q1,rfl⟩:=hK;exact ⟨.b i,⟨cs',q1⟩,by simp only [blk,hβ i cs' q1],.inl ⟨i,rfl,rfl⟩⟩
   | a τ=>
    obtain ⟨i,A,q1,rfl⟩:=hK;exact ⟨.a i,⟨A,q1⟩,(hγ i A q1).2,.inr ⟨i,rfl,rfl⟩⟩
  obtain ⟨κ2,l1,l2,l3⟩:=back κ hK;obtain ⟨κ3,m1,m2,m3⟩:=back κ' hK';rw [l2,m2];refine h2.sep κ2 κ3 l1 m1 λhe=>hne ?_;subst he;rcases l3 with ⟨i,rfl,rfl⟩| ⟨i,rfl,rfl⟩<;>rcases m3 with ⟨j,hj,rfl⟩| ⟨j,hj,rfl⟩<;>first | (cases hj;done)| (cases hj;rfl)
 ·exact ⟨h.fr.gl,h2.fr.os.trans h.fr.os,h2.fr.tape.trans h.fr.tape,h2.fr.output.trans h.fr.output,HA h.fr.size h2.fr.size,λb hb hn=>(h2.fr.block b (HM hb h.fr.size) λk=>hn (T1 b k)).trans (h.fr.block b hb hn),h.fr.new⟩
 ·cases κ with
  | b k=>exact hd.elim
  | a τ=>
   obtain ⟨i,A,q1,rfl⟩:=hK;have:1000000<=γ i:=hd;have:=(g.d1 i A q1).2.1;omega
 ·obtain ⟨i,cs',q1,rfl⟩:=hK;rcases g.c1 i cs' q1 with ⟨cs0,h3⟩| ⟨_,_,h3⟩
  ·obtain ⟨_,ds,h4,_⟩:=g.b1 i cs0 h3;rw [bold i cs' q1 ds h4];exact h.pn (β i) ds h4 (nt3▸hle)
  ·rw [nt3] at hle;omega
 ·cases κ with
  | b k=>
   obtain ⟨i,cs',q1,rfl⟩:=hK;refine T1 b (h2.tp (.b i) b ⟨cs',q1⟩ ?_);simp only [tpB,hβ i cs' q1] at hb ⊢;exact hb
  | a τ=>
   obtain ⟨i,A,q1,rfl⟩:=hK;refine T1 b (h2.tp (.a i) b ⟨A,q1⟩ ?_);rcases hb with hb| ⟨hb,_⟩
   ·exact .inl (by rw [<-(hγ i A q1).1];exact hb)
   ·have:=(g.d1 i A q1).2.1;omega
theorem GM.le {O':St} (g:GM O n α β γ bx ar bo ao) {dst:Option Nat} {r:V} (k:LeB O O' (ZkW α β γ dst r bo ao ar)) (Q:∀i A,ao.lookup i=some A->∃B,A=some B):GM O' n α β γ bx ar bo ao:=by
 have E:∀{B:Type} {l:List (Nat×B)} {i:Nat} {x:B},l.lookup i=some x->(i,x)∈l:=by
  intro B l i x I
  induction l with
  | nil=>simp at I
  | cons p l R=>
   obtain ⟨j,y⟩:=p;rw [lookup_cons] at I
   split at I
   ·rename_i M;subst M;rw [ZEI I];simp
   ·exact Hz _ (R I)
 refine ⟨λi cs J=> ?_,g.b2,λi A G=> ?_,g.a2,λi cs J=> ?_,g.c2,λi A G=> ?_,g.d2,g.e1,g.e2⟩
 ·obtain ⟨t,ds,s,z⟩:=g.b1 i cs J;exact ⟨t,ds,k.bx _ _ s,z⟩
 ·obtain ⟨t,s⟩:=g.a1 i A G;refine ⟨t, ?_⟩;rcases s with ⟨s,B,z,C⟩| ⟨s,z,C⟩
  ·exact .inl ⟨s,B,z,k.ar _ _ C⟩
  ·refine .inr ⟨s,z, ?_⟩;rcases C with C| C
   ·exact .inl (k.fa (α i,none) (GR _ (List.mem_map_of_mem (f:=λp=>(α p.1,(none:Option Arr))) (E G))) C)
   ·exact .inr (k.ar _ _ C)
 ·rcases g.c1 i cs J with t| ⟨t,s,z⟩
  ·exact .inl t
  ·exact .inr ⟨t,k.fb (β i,cs.map (rnC γ β)) (List.mem_map_of_mem (f:=λp=>(β p.1,p.2.map (rnC γ β))) (E J)) s,k.nt▸z⟩
 ·obtain ⟨t,s,z⟩:=g.d1 i A G;exact ⟨t,s,k.fa (γ i,some A) (HW _ (List.mem_map_of_mem (f:=λp=>(γ p.1,p.2)) (E G))) z⟩
theorem GC.call {f:Nat} {l vs:List V} {r:V} (c:GC P f n l bx ar r bo ao) (g:GM O n α β γ bx ar bo ao) (hm:Zvm α β l vs) (z:∀v∈l,clV bx ar v) (E:ZA3 bo ao r) (s:∀i A,ao.lookup i=some A->∃B,A=some B) {dst:Option Nat} (hd:∀d,dst=some d->d<O.nt):
  ZmY P O dst f vs (ZkW α β γ dst r bo ao ar):=by
 refine ⟨c.1,λp hp=> ?_,λO' k N w0 e a w U h hl M=> ?_⟩
 ·cases dst with
  | none=>simp [ZkW,gT] at hp
  | some d=>simp [ZkW,gT] at hp;rw [hp]
 ·have t:=g.le k s;have G:=(Zmq hm).1;have J:=t.enter h hl M hm z c.2.1;refine (c.2.2 _ _ _ U w WF (t.bok h) J).mono λX w' hR=> ?_;obtain ⟨W,u,Q,R,S⟩:=hR;obtain ⟨I,T⟩:=t.ZB7 h S R E s (dst:=dst) (λd C=>k.nt▸hd d C);exact ⟨u,I,Q,T⟩
end
def toP:V->Option (Bool×List CV)
 | .one c=>some (false,[c])
 | .agg cs=>some (true,cs)
 | _=>none
def Zu2:List V->Option (List (Bool×List CV))
 | []=>some []
 | v::l=>match toP v,Zu2 l with
  | some p,some k=>some (p::k)
  | _,_=>none
def Zwp:List V->Option V
 | [v]=>some v
 | k=>(Zu2 k).map .tup
def ZyE (O' O:St):Prop:=ZyN O' O O'.tm/\ZyR O' O O'.bx/\ZyU O O'.ar
def Zxv (n:Nat) (r:V) (bo:List (Nat×List CV)) (ao:List (Nat×Option Arr)) (O:St):Option V->Prop
 | some x=>0<n/\n=O.nt/\ZyE ⟨n,[(0,r)],bo,ao⟩ ⟨n,(0,x)::O.tm,O.bx,O.ar⟩
 | none=>False
def Zxw (P:Program) (k:Array ResultVar) (n:Nat) (r:V) (bo:List (Nat×List CV)) (ao:List (Nat×Option Arr)) (O:St):Prop:=Zxv n r bo ao O ((ZgE P O k.toList).bind Zwp)
def ZAW (P:Program) (k:Array ResultVar) (n:Nat) (r:V) (bo:List (Nat×List CV)) (ao:List (Nat×Option Arr)):Exit->St->Prop
 | .normal,O=>Zxw P k n r bo ao O
 | .ret,O=>Zxw P k n r bo ao O
 | _,_=>False
section
variable {e:Env} {O:St} {w:World} {N:Nat->Prop} {w0:Bs} {a:Act} {P:Program}
theorem Zqj:∀{vs:List V} {us:List Value} {k:List (Bool×List CV)},J3 e O w vs us->Zu2 vs=some k->YH e O w k us
 | [],us,k,h,hp=>by
  simp only [Zu2,ZEK] at hp;subst hp
  simpa [J3,YH] using h
 | v::vs,us,k,h,hp=>by
  simp only [J3] at h;obtain ⟨u,r,rfl,s,t⟩:=h;simp only [Zu2] at hp
  split at hp
  ·rename_i p qs hq l;obtain rfl:=ZEI hp;have z:=Zqj t l;refine ⟨u,r,rfl, ?_,z⟩;cases v<;>simp [toP] at hq<;>subst hq
   ·exact ⟨_,rfl,s⟩
   ·exact s
  ·cases hp
theorem Zvb {vs:List V} {us:List Value} {x:V} (h:J3 e O w vs us) (l:Zwp vs=some x):x.rel e O w (Zpc us):=by
 have k:∀r,Zu2 vs=some r->us.length=vs.length->vs.length≠1->(V.tup r).rel e O w (Zpc us):=by
  intro r s hl p;refine ⟨us, ?_,Zqj h s⟩
  match us,hl with
  | [],_=>rfl
  | [_],hl=>exact absurd hl.symm p
  | _::_::_,_=>rfl
 have len:∀{vs:List V} {us:List Value},J3 e O w vs us->us.length=vs.length:=by
  intro vs
  induction vs with
  | nil=>intro us h;simp only [J3] at h;simp [h]
  | cons v vs A=>intro us h;simp only [J3] at h;obtain ⟨u,t,rfl,_,z⟩:=h;simp [A z]
 match vs,h,l,k with
 | [],h,l,k=>
  simp only [Zwp,Zu2,Gk,ZEK] at l;subst l;exact k [] rfl (len h) Ha
 | [v],h,l,k=>
  simp only [Zwp,ZEK] at l;subst l;simp only [J3] at h;obtain ⟨u,t,rfl,p,rfl⟩:=h;exact p
 | v::B::vs,h,l,k=>
  simp only [Zwp] at l;obtain ⟨r,p,rfl⟩:=Hf.1 l;exact k r p (len h) Ha
theorem GC.XZ {f:Nat} {fn:Func} {c:Code} {nt:Nat} {T:Array ResultVar} (G:Y9 P f=true) (hf:P.funcs[f]? =some fn) (hb:fn.body=some c) (E:fn.ntmps=nt) (J:fn.results=T) {vs:List V} {bx bo:List (Nat×List CV)} {ar ao:List (Nat×Option Arr)} {r:V} (M:vs.length<=nt)
  (h:∀N w0,Bok N w0->AW P N w0 c (ZAW P T nt r bo ao) ⟨nt,Zac 0 vs,bx,ar⟩):GC P f nt vs bx ar r bo ao:=by
 subst E J;refine ⟨G,M,λN w0 e us w hl C hs=> ?_⟩;refine calls_of_wp hf hb ?_;refine Code.wp_mono (λU s w' hq=> ?_) (h N w0 C _ _ ⟨e,hs⟩);obtain ⟨O',B,Q,z⟩:=hq
 have fin:Zxw P fn.results fn.ntmps r bo ao O'->s.defers=[]/\∃v,(results fn s.tmps).run P w'= .ok v w'/\∃R u,Ending.returned v= .returned u/\r.rel R ⟨fn.ntmps,[],bo,ao⟩ w' u/\ZJ N w0 R ⟨fn.ntmps,[],bo,ao⟩ (ZmR fn.ntmps []) w':=by
  intro ho;unfold Zxw Zxv at ho
  split at ho
  ·rename_i x hx;obtain ⟨h0,hn,k1,k2,k3⟩:=ho;obtain ⟨b0,p,Z⟩:=Hq.1 hx;obtain ⟨zs,W,X⟩:=U1 (P:=P) z p;have hp:=z.put (d:=0) WF (Zvb X Z);have I:ZJ N w0 Q ⟨fn.ntmps,(0,x)::O'.tm,O'.bx,O'.ar⟩ (s.put (some 0) (Zpc zs)) w':=by rw [hn];exact hp
   obtain ⟨S,l⟩:=(show Ka ⟨fn.ntmps,[(0,r)],bo,ao⟩ ⟨fn.ntmps,(0,x)::O'.tm,O'.bx,O'.ar⟩ from ⟨rfl,k1,k2,k3⟩).into N w0 _ w' ⟨Q,I⟩;have u:=ZuZ S ⟨fn.ntmps,[(0,r)],bo,ao⟩ w' [] fn.ntmps;refine ⟨z.df,_,W,S,_,rfl, ?_,by simp [ZmR],rfl,λt v ht=>by simp at ht,λk cs hk=> ?_,λτ A Y=>(l.ar τ A Y).up u (λ_ _=>rfl),l.sep,l.fr,l.bad,l.dk,l.pn,l.tn,l.tp⟩
   ·have q:=l.tm 0 r Ha;rw [Ud s 0 _ (by rw [z.nt];omega)] at q;exact q.up u
   ·obtain ⟨q1,q2⟩:=l.bx k cs hk;exact ⟨q1,q2.up u⟩
  ·exact ho.elim
 cases U with
 | normal=>exact fin B
 | ret=>exact fin B
 | _=>exact B.elim
end
def ZmQ {A:Type} (p:A->Prop):List A->Prop
 | []=>True
 | x::k=>p x/\ZmQ p k
def ndP {B:Type} (f:Nat->Nat):List (Nat×B)->Prop
 | []=>True
 | x::k=>ZmQ (λy=>f x.1≠f y.1) k/\ndP f k
theorem QM {A:Type} {p:A->Prop}:∀{l:List A},ZmQ p l->∀x∈l,p x
 | [],_,x,h=>by cases h
 | y::l,h,x,k=>by
  rcases Hc.1 k with rfl| k
  ·exact h.1
  ·exact QM h.2 x k
theorem Uo {B:Type}:∀{l:List (Nat×B)} {i:Nat} {x:B},l.lookup i=some x->(i,x)∈l
 | [],_,_,h=>by simp at h
 | (j,y)::l,i,x,h=>by
  rw [lookup_cons] at h
  split at h
  ·rename_i k;subst k;rw [ZEI h];simp
  ·exact Hz _ (Uo h)
theorem Zmp {B:Type} {f:Nat->Nat}:∀{l:List (Nat×B)},ndP f l->∀{i j:Nat} {x y:B},l.lookup i=some x->l.lookup j=some y->f i=f j->i=j
 | [],_,_,_,_,_,h,_,_=>by simp at h
 | (t,z)::l,h,i,j,x,y,r,hj,s=>by
  rw [lookup_cons] at r hj
  split at r<;>split at hj
  ·rename_i k p;rw [k,p]
  ·rename_i k p;exact absurd (k▸s) (QM h.1 _ (Uo hj))
  ·rename_i k p;exact absurd (p▸s).symm (QM h.1 _ (Uo r))
  ·exact Zmp h.2 r hj s
def ZbQ (O:St) (mv:List Nat):CV->Option (CV×List Nat×Prop)
 | .box k o=>some (.box k o,[],True)
 | .nil=>some (.nil,[],True)
 | .clo f p=>some (.clo f p,[],True)
 | .nf=>some (.nf,[],True)
 | .mp k=>some (.mp k,[],True)
 | .own l n=>if l∈mv then some (.own l n,[],True) else (frC O (.own l n)).map λr=>(.l r.1,r.2)
 | c=>(frC O c).map λr=>(.l r.1,r.2)
def Zhx (O:St) (mv:List Nat):List CV->Option (List CV×List Nat×Prop)
 | []=>some ([],[],True)
 | v::k=>match ZbQ O mv v,Zhx O mv k with
  | some (x,t,p),some (l,u,q)=>some (x::l,t++u,p/\q)
  | _,_=>none
def Zi0 (O:St) (mv:List Nat):V->Option (V×List Nat×Prop)
 | .one c=>(ZbQ O mv c).map λr=>(.one r.1,r.2)
 | .agg cs=>(Zhx O mv cs).map λr=>(.agg r.1,r.2)
 | _=>none
def ZeP (O:St) (mv:List Nat):List V->Option (List V×List Nat×Prop)
 | []=>some ([],[],True)
 | v::k=>match Zi0 O mv v,ZeP O mv k with
  | some (x,t,p),some (l,u,q)=>some (x::l,t++u,p/\q)
  | _,_=>none
def ZCo (bx:List (Nat×List CV)) (ar:List (Nat×Option Arr)):V->Prop
 | .one c=>clC bx ar c
 | .agg cs=>ZmQ (clC bx ar) cs
 | _=>False
def ZvY (bo:List (Nat×List CV)) (ao:List (Nat×Option Arr)):V->Prop
 | .one c=>clO bo ao c
 | .agg cs=>ZmQ (clO bo ao) cs
 | .tup k=>ZmQ (λp=>ZmQ (clO bo ao) p.2) k
 | .dead=>True
def bxO (α β:Nat->Nat) (cs:List CV):Option (List CV)->Prop
 | some ds=>mtL α β cs ds
 | none=>False
def arO (τ:Nat):Option Arr->Option (Option Arr)->Prop
 | some B,some (some C)=>τ<1000000/\B.fr=false/\B.es=C.es
 | some B,_=>2000000<=τ/\B.fr=false/\B.es=[]
 | _,_=>False
def dO (n:Nat):Option Nat->Prop
 | some d=>d<n
 | none=>True
def ZCd (O:St) (n:Nat) (α β γ:Nat->Nat) (dst:Option Nat) (k:List V) (bx:List (Nat×List CV)) (ar:List (Nat×Option Arr)) (r:V) (bo:List (Nat×List CV)) (ao:List (Nat×Option Arr)) (vs:List V):Prop:=
 ZmQ (λp=>n<=p.1/\bxO α β p.2 (O.bx.lookup (β p.1))/\(bo.lookup p.1).isSome=true/\ZmQ (clC bx ar) p.2) bx/\
 ndP β bo/\
 ZmQ (λp=>p.1<1000000/\arO (α p.1) p.2 (O.ar.lookup (α p.1))) ar/\
 ndP α ar/\
 ZmQ (λp=>((bx.lookup p.1).isSome=true\/(p.1<n/\O.bx.lookup (β p.1)=none/\β p.1<O.nt))/\ZmQ (clO bo ao) p.2) bo/\
 ZmQ (λp=>p.1<1000000/\γ p.1<1000000/\O.ar.lookup (γ p.1)=none/\p.2.isSome=true) ao/\
 ndP γ ao/\Zvm α β k vs/\ZmQ (ZCo bx ar) k/\ZvY bo ao r/\dO O.nt dst
def gcK (O:St) (dst:Option Nat) (n:Nat) (α β γ:Nat->Nat) (s:List V) (bx:List (Nat×List CV)) (ar:List (Nat×Option Arr)) (r:V) (bo:List (Nat×List CV)) (ao:List (Nat×Option Arr)) (Z:Eff->Prop):Option (List V×List Nat×Prop)->Prop
 | some (l,k,p)=>p/\ZCd (O.frz k) n α β γ dst s bx ar r bo ao l/\Z ⟨True,gT γ β dst r,bo.map λp=>(β p.1,p.2.map (rnC γ β)),((ao.map λp=>(γ p.1,p.2))++ar.map λp=>(α p.1,none))++k.map λt=>(t,none)⟩
 | none=>False
section
variable {e:Env} {O O':St} {w:World} {N:Nat->Prop} {w0:Bs} {a:Act} {P:Program}
variable {n:Nat} {α β γ:Nat->Nat} {bx bo:List (Nat×List CV)} {ar ao:List (Nat×Option Arr)}
theorem Zy3 (τs:List Nat):Up e O w e (O.frz τs) w:=⟨ZEN _,λ_ _ _=>rfl,λb _ s=>Zkd s,λk cs r=>⟨⟨cs,r⟩,rfl⟩,λt A p=>by
 rw [Zew]
 split
 ·exact ⟨none,rfl,λB l=>by cases l⟩
 ·exact ⟨A,p,λB l=>⟨B,l,ZEN _,λ_=>rfl⟩⟩,λt _ _ _=>⟨rfl,λ_ _=>rfl⟩⟩
theorem Znr (h:ZJ N w0 e O a w) {mv:List Nat} {v v':CV} {u:Value} (l:v.rel e O w u) {A:List Nat} {p:Prop} (k:ZbQ O mv v=some (v',A,p)) (hp:p) {τs:List Nat} (z:∀τ∈A,τ∈τs):v'.rel e (O.frz τs) w u:=by
 unfold ZbQ at k
 split at k
 ·simp only [ZEK,ZEL] at k;obtain ⟨rfl,rfl,rfl⟩:=k;exact l
 ·simp only [ZEK,ZEL] at k;obtain ⟨rfl,rfl,rfl⟩:=k;exact l
 ·simp only [ZEK,ZEL] at k;obtain ⟨rfl,rfl,rfl⟩:=k;exact l
 ·simp only [ZEK,ZEL] at k;obtain ⟨rfl,rfl,rfl⟩:=k;exact l
 ·simp only [ZEK,ZEL] at k;obtain ⟨rfl,rfl,rfl⟩:=k;exact l
 ·split at k
  ·simp only [ZEK,ZEL] at k;obtain ⟨rfl,rfl,rfl⟩:=k;exact l.up (Zy3 τs)
  ·obtain ⟨⟨x,t,q⟩,s,r⟩:=Hf.1 k;simp only [ZEL] at r;obtain ⟨rfl,rfl,rfl⟩:=r;exact ZmG h l s hp z
 ·obtain ⟨⟨x,t,q⟩,s,r⟩:=Hf.1 k;simp only [ZEL] at r;obtain ⟨rfl,rfl,rfl⟩:=r;exact ZmG h l s hp z
theorem Znq (h:ZJ N w0 e O a w) {mv τs:List Nat}:∀{vs k:List CV} {us:List Value},Yn e O w vs us->∀{z:List Nat} {p:Prop},Zhx O mv vs=some (k,z,p)->p->(∀τ∈z,τ∈τs)->Yn e (O.frz τs) w k us
 | [],k,us,s,z,p,l,hp,A=>by
  simp only [Zhx,ZEK,ZEL] at l;obtain ⟨rfl,rfl,rfl⟩:=l;exact s
 | v::vs,k,us,s,z,p,l,hp,A=>by
  simp only [Zhx] at l
  split at l
  ·rename_i x t q Q u q' E G;simp only [ZEK,ZEL] at l;obtain ⟨rfl,rfl,rfl⟩:=l;simp only [Yn] at s ⊢;obtain ⟨M,B,C,I,J⟩:=s;exact ⟨M,B,C,Znr h I E hp.1 λτ r=>A τ (HW _ r),Znq h J G hp.2 λτ r=>A τ (GR _ r)⟩
  ·cases l
theorem ZsM (h:ZJ N w0 e O a w) {mv:List Nat} {v v':V} {u:Value} (r:v.rel e O w u) {A:List Nat} {p:Prop} (l:Zi0 O mv v=some (v',A,p)) (hp:p) {τs:List Nat} (z:∀τ∈A,τ∈τs):v'.rel e (O.frz τs) w u:=by
 unfold Zi0 at l
 split at l
 ·obtain ⟨⟨x,t,q⟩,s,k⟩:=Hf.1 l;simp only [ZEL] at k;obtain ⟨rfl,rfl,rfl⟩:=k;exact Znr h r s hp z
 ·obtain ⟨⟨x,t,q⟩,s,k⟩:=Hf.1 l;simp only [ZEL] at k;obtain ⟨rfl,rfl,rfl⟩:=k;obtain ⟨C,B,r⟩:=r;exact ⟨C,B,Znq h r s hp z⟩
 ·cases l
theorem Zz9 (O:St) (tm:List (Nat×V)) (c:CV):frC ⟨O.nt,tm,O.bx,O.ar⟩ c=frC O c:=by cases c<;>rfl
theorem Zqg (O:St) (mv:List Nat) (tm:List (Nat×V)) (c:CV):ZbQ ⟨O.nt,tm,O.bx,O.ar⟩ mv c=ZbQ O mv c:=by
 unfold ZbQ
 split<;>simp only [Zz9]
theorem Zqe (O:St) (mv:List Nat) (tm:List (Nat×V)):∀(cs:List CV),Zhx ⟨O.nt,tm,O.bx,O.ar⟩ mv cs=Zhx O mv cs
 | []=>rfl
 | c::cs=>by simp only [Zhx,Zqg,Zqe O mv tm cs]
theorem Zu0 (O:St) (mv:List Nat) (tm:List (Nat×V)) (v:V):Zi0 ⟨O.nt,tm,O.bx,O.ar⟩ mv v=Zi0 O mv v:=by
 unfold Zi0
 split<;>simp only [Zqg,Zqe]
theorem ZwB (k:Le O O') {c:CV} {y:L×List Nat×Prop} (p:frC O c=some y):frC O' c=some y:=by
 have q:=k.frV (c:=.one c) (r:=(.one y.1,y.2)) (by simp only [frV,p];rfl);simp only [frV] at q;obtain ⟨z,r,l⟩:=Hf.1 q;simp only [ZEL,DV.one.injEq] at l;rw [r];exact congrArg some (Prod.ext l.1 l.2)
theorem Zqh (k:Le O O') {mv:List Nat} {v:CV} {x:CV×List Nat×Prop} (h:ZbQ O mv v=some x):ZbQ O' mv v=some x:=by
 unfold ZbQ at h ⊢
 split at h
 ·exact h
 ·exact h
 ·exact h
 ·exact h
 ·exact h
 ·split at h
  ·rename_i r;rw [if_pos r];exact h
  ·rename_i r;rw [if_neg r];obtain ⟨y,l,p⟩:=Hf.1 h;rw [ZwB k l,<-p];rfl
 ·obtain ⟨y,l,p⟩:=Hf.1 h;rw [ZwB k l,<-p];rfl
theorem Zqf (k:Le O O') {mv:List Nat}:∀{vs:List CV} {x:List CV×List Nat×Prop},Zhx O mv vs=some x->Zhx O' mv vs=some x
 | [],_,h=>h
 | v::vs,x,h=>by
  simp only [Zhx] at h ⊢
  split at h
  ·rename_i l p;rw [Zqh k l,Zqf k p];exact h
  ·cases h
theorem Zu1 (k:Le O O') {mv:List Nat} {v:V} {x:V×List Nat×Prop} (h:Zi0 O mv v=some x):Zi0 O' mv v=some x:=by
 unfold Zi0 at h ⊢
 split at h
 ·obtain ⟨y,l,p⟩:=Hf.1 h;rw [Zqh k l,<-p];rfl
 ·obtain ⟨y,l,p⟩:=Hf.1 h;rw [Zqf k l,<-p];rfl
 ·cases h
theorem Zk6 {mv:List Nat}:∀{vs k:List V} {r:List Nat} {p:Prop},ZeP O mv vs=some (k,r,p)->k.length=vs.length/\(p->∀(j:Nat) (v':V),k[j]? =some v'->∃v t q,vs[j]? =some v/\Zi0 O mv v=some (v',t,q)/\q/\∀τ∈t,τ∈r)
 | [],k,r,p,h=>by
  simp only [ZeP,ZEK,ZEL] at h;obtain ⟨rfl,rfl,rfl⟩:=h;simp
 | v::vs,k,r,p,h=>by
  simp only [ZeP] at h
  split at h
  ·rename_i x t q Q u q' C E;simp only [ZEK,ZEL] at h;obtain ⟨rfl,rfl,rfl⟩:=h;obtain ⟨G,I⟩:=Zk6 E;refine ⟨by simp [G],λhp j v' hj=> ?_⟩;cases j with
   | zero=>simp at hj;subst hj;exact ⟨v,t,q,Ha,C,hp.1,λτ l=>HW _ l⟩
   | succ j=>
    obtain ⟨M,t2,J,s,z,A,B⟩:=I hp.2 j v' (by simpa using hj);exact ⟨M,t2,J,by simpa using s,z,A,λτ l=>GR _ (B τ l)⟩
  ·cases h
def ZAJ (P:Program) (O:St) (dst:Option Nat) (f:Nat) (vs:List V) (Z:Eff->Prop):Prop:=∃g,ZmY P O dst f vs g/\Z g
theorem ZAJ.x {f:Nat} {dst:Option Nat} {vs:List V} {Z:Eff->Prop} (h:ZAJ P O dst f vs Z):XBy P O dst f (some vs) Z:=h.elim λg q=>⟨vs,g,rfl,.hand g q.1,q.2⟩
theorem Zrb {f:Nat} {dst:Option Nat} {Q vs:List V} {r:V} {Z:Eff->Prop} (mv:List Nat) (α β γ:Nat->Nat) (c:GC P f n Q bx ar r bo ao) (X:gcK O dst n α β γ Q bx ar r bo ao Z (ZeP O mv vs)):ZAJ P O dst f vs Z:=by
 unfold gcK at X
 split at X
 ·rename_i b5 l p ht;obtain ⟨hp,⟨o1,o2,o3,o4,o5,o6,o7,o8,o9,M,b4⟩,hz⟩:=X
  have g:GM (O.frz l) n α β γ bx ar bo ao:=by
   refine ⟨λi cs s=> ?_,λi cs j ds s hj=>Zmp o2 s hj,λi A I=> ?_,λi A j B s hj=>Zmp o4 s hj,λi cs s=> ?_,λi cs s=> ?_,λi A I=> ?_,λi A j B s hj=>Zmp o7 s hj,λi cs s c J=> ?_,λi cs s c J=> ?_⟩
   ·obtain ⟨E,G,_⟩:=QM o1 _ (Uo s);unfold bxO at G
    split at G
    ·rename_i ds b2;exact ⟨E,ds,b2,G⟩
    ·exact G.elim
   ·obtain ⟨E,z⟩:=QM o3 _ (Uo I);refine ⟨E, ?_⟩;simp only at z;cases A with
    | none=>simp [arO] at z
    | some B=>
     cases Y:(O.frz l).ar.lookup (α i) with
     | none=>rw [Y] at z;exact .inr ⟨z.1,by obtain ⟨f,es⟩:=B;obtain ⟨_,R,S⟩:=z;simp only at R S;rw [R,S],.inl rfl⟩
     | some C=>
      cases C with
      | none=>rw [Y] at z;exact .inr ⟨z.1,by obtain ⟨f,es⟩:=B;obtain ⟨_,R,S⟩:=z;simp only at R S;rw [R,S],.inr rfl⟩
      | some C=>rw [Y] at z;exact .inl ⟨z.1,C,⟨B,rfl,z.2.1,z.2.2⟩,rfl⟩
   ·rcases (QM o5 _ (Uo s)).1 with E| E
    ·exact .inl (Hk.1 E)
    ·exact .inr E
   ·exact Hk.1 (QM o1 _ (Uo s)).2.2.1
   ·obtain ⟨E,G,z,_⟩:=QM o6 _ (Uo I);exact ⟨E,G,z⟩
   ·exact QM (QM o1 _ (Uo s)).2.2.2 c J
   ·exact QM (QM o5 _ (Uo s)).2 c J
  have b1:∀v∈Q,clV bx ar v:=λv hv=>by
   have:=QM o9 v hv;cases v with
   | one c=>exact this
   | agg cs=>exact λc J=>QM this c J
   | _=>exact this.elim
  have b3:ZA3 bo ao r:=by
   cases r with
   | one c=>exact M
   | agg cs=>exact λc J=>QM M c J
   | tup ps=>exact λp hp c J=>QM (QM M p hp) c J
   | dead=>trivial
  have b0:∀i A,ao.lookup i=some A->∃B,A=some B:=λi A I=>Hk.1 (QM o6 _ (Uo I)).2.2.2;have hd:∀d,dst=some d->d<(O.frz l).nt:=λd hd=>by subst hd;exact b4
  have H:=c.call g o8 b1 b3 b0 hd;refine ⟨⟨True,gT γ β dst r,bo.map λp=>(β p.1,p.2.map (rnC γ β)),((ao.map λp=>(γ p.1,p.2))++ar.map λp=>(α p.1,none))++l.map λU=>(U,none)⟩,⟨H.1,H.2.1,λO' k N w0 e a w us h hl hv=> ?_⟩,hz⟩
  have k':LeB (O.frz l) (O'.frz l) (ZkW α β γ dst r bo ao ar):=by
   refine ⟨k.nt,k.bx,λU A I=> ?_,k.fb,λp hp W=> ?_⟩
   ·rw [Zew] at I ⊢
    split at I
    ·rename_i T;rw [if_pos T];exact I
    ·rename_i T;rw [if_neg T];exact k.ar U A I
   ·rw [Zew] at W ⊢
    split at W
    ·cases W
    ·rename_i T;rw [if_neg T];exact k.fa p (HW _ hp) W
  obtain ⟨l1,l2⟩:=Zk6 ht;have kl:Le ⟨O.nt,[],O.bx,O.ar⟩ O':=⟨k.nt,λt v h=>by simp at h,k.bx,k.ar⟩;refine (H.2.2 (O'.frz l) k' N w0 e a w us (h.frz l) WF λj v' hj=> ?_).mono λex w' hR=> ?_
  ·obtain ⟨v,t,q,g1,g2,g3,g4⟩:=l2 hp j v' hj;obtain ⟨u,E,G⟩:=hv j v g1;exact ⟨u,E,ZsM h G (Zu1 kl ((Zu0 O mv [] v).trans g2)) g3 g4⟩
  ·obtain ⟨u,e',E,G⟩:=hR;refine ⟨u,e',E, ?_⟩
   have he:(O'.frz l).app (ZkW α β γ dst r bo ao ar)=O'.app ⟨True,gT γ β dst r,bo.map λp=>(β p.1,p.2.map (rnC γ β)),((ao.map λp=>(γ p.1,p.2))++ar.map λp=>(α p.1,none))++l.map λU=>(U,none)⟩:=by
    simp [St.app,ZkW,St.frz,Hx]
   rw [<-he];exact G
 ·exact X.elim
theorem Zho {f:Nat} {dst:Option Nat} {k vs:List V} {r:V} {Z:Eff->Prop} (mv:List Nat) (α β γ:Nat->Nat) (c:GC P f n k bx ar r bo ao) (l:gcK O dst n α β γ k bx ar r bo ao Z (ZeP O mv vs)):XBy P O dst f (some vs) Z:=(Zrb mv α β γ c l).x
end
def Zy6 (k:List DV):List (Nat×Option Arr):=(Zb3 30000 k).2.map λp=>(p.1,some ⟨false,p.2.es⟩)
def TC (P:Program) (f n:Nat) (ds k:List DV):Prop:=GC P f n (ds.map inV) [] [] (Zml (Zb3 30000 k).1) [] (Zy6 k)
def ZAL (O:St) (n:Nat) (ds k:List DV) (Z:Eff->Prop) (vs:List V):Option Nat->Prop
 | some d=>gcK O (some d) n (λi=>i) (λi=>i) (λi=>64*d+(i-30000)) (ds.map inV) [] [] (Zml (Zb3 30000 k).1) [] (Zy6 k) Z (ZeP O [] vs)
 | none=>False
section
variable {P:Program} {O:St}
theorem ZCK {f n:Nat} {dst:Option Nat} {ds l:List DV} {vs:List V} {Z:Eff->Prop} (c:TC P f n ds l) (k:ZAL O n ds l Z vs dst):XBy P O dst f (some vs) Z:=by
 unfold ZAL at k
 split at k
 ·exact Zho [] _ _ _ c k
 ·exact k.elim
theorem Zoi:∀{ds:List DV} {i:Nat},Zac i (ds.map inV)=Zft i ds
 | [],_=>rfl
 | d::ds,i=>by simp only [Hi,Zac,Zft];rw [Zoi]
theorem ZyY {f:Nat} {fn:Func} {c:Code} {nt:Nat} {z:Array ResultVar} (hf:P.funcs[f]? =some fn) (p:fn.ntmps=nt) (s:fn.results=z) {ds t:List DV}
  (h:∀N w0,Bok N w0->True->AW P N w0 c (ZAW P z nt (Zml (Zb3 30000 t).1) [] (Zy6 t)) ⟨nt,Zft 0 ds,[],[]⟩) (r:Y9 P f=true:=by kernel_rfl) (A:fn.body=some c:=by rfl) (l:ds.length<=nt:=by simp):TC P f nt ds t:=
 GC.XZ r hf A p s (by simpa using l) λN w0 k=>by
  rw [Zoi];exact h N w0 k trivial
end
section
variable {α β γ:Nat->Nat} {bx bo:List (Nat×List CV)} {ar ao:List (Nat×Option Arr)} {x y:L} {v:Value} {i j n m o:Nat} {ls:List L} {cs ds:List CV} {c d:CV} {O:St} {mv:List Nat}
theorem ZB5:mtC α β (.l x) (.l y)=(x=y):=rfl
theorem ZB4:mtC α β (.l x) (.kept v y)=(x=y):=rfl
theorem ZB3:mtC α β (.l x) .nil=(x= .sl []):=rfl
theorem ZB2:mtC α β .nil .nil=True:=rfl
theorem ZB1:mtC α β .np .np=True:=rfl
theorem ZB0 {k:List L}:mtC α β (.adr ls) (.adr k)=(ls=k):=rfl
theorem ZBZ:mtC α β (.own i n) (.own j m)=(α i=j/\n=m/\j<1000000):=rfl
theorem ZBX:mtC α β (.own i n) .nil=(2000000<=α i/\n=0):=rfl
theorem ZBY {k:Nat}:mtC α β (.box i o) (.box j k)=(β i=j/\o=k):=rfl
theorem ZBS:mtV α β (.one c) (.one d)=mtC α β c d:=rfl
theorem ZBR:mtV α β (.agg cs) (.agg ds)=mtL α β cs ds:=rfl
theorem ZBC:rnC γ β (.l x)= .l x:=rfl
theorem ZBB:rnC γ β .nil= .nil:=rfl
theorem ZBA:rnC γ β .np= .np:=rfl
theorem ZBz:rnC γ β (.adr ls)= .adr ls:=rfl
theorem ZBy:rnC γ β (.own i n)= .own (γ i) n:=rfl
theorem ZBx:rnC γ β (.box i o)= .box (β i) o:=rfl
theorem ZBw:rnC γ β (.kept v x)= .l x:=rfl
theorem ZBr:rnV γ β (.one c)= .one (rnC γ β c):=rfl
theorem ZBq:rnV γ β (.agg cs)= .agg (cs.map (rnC γ β)):=rfl
theorem ZBp {k:List (Bool×List CV)}:rnV γ β (.tup k)= .tup (k.map λp=>(p.1,p.2.map (rnC γ β))):=rfl
theorem ZCI:clC bx ar (.l x)=True:=rfl
theorem ZCH:clC bx ar .nil=True:=rfl
theorem ZCG:clC bx ar .np=True:=rfl
theorem ZCF:clC bx ar (.adr ls)=True:=rfl
theorem ZCE:clC bx ar (.own i n)=((ar.lookup i).isSome=true):=rfl
theorem ZCD:clC bx ar (.box i o)=((bx.lookup i).isSome=true):=rfl
theorem ZCy:clO bo ao (.l x)=True:=rfl
theorem ZCx:clO bo ao .nil=True:=rfl
theorem ZCw:clO bo ao .np=True:=rfl
theorem ZCv:clO bo ao (.adr ls)=True:=rfl
theorem ZCu:clO bo ao (.own i n)=∃A,ao.lookup i=some (some A):=rfl
theorem ZCt:clO bo ao (.box i o)=((bo.lookup i).isSome=true):=rfl
theorem ZAv:ZCo bx ar (.one c)=clC bx ar c:=rfl
theorem ZAu:ZCo bx ar (.agg cs)=ZmQ (clC bx ar) cs:=rfl
theorem Zym:ZvY bo ao (.one c)=clO bo ao c:=rfl
theorem Zyl:ZvY bo ao (.agg cs)=ZmQ (clO bo ao) cs:=rfl
theorem Zyk {k:List (Bool×List CV)}:ZvY bo ao (.tup k)=ZmQ (λp=>ZmQ (clO bo ao) p.2) k:=rfl
theorem Zw9:ZbQ O mv (.box i o)=some (.box i o,[],True):=rfl
theorem Zw8:ZbQ O mv (.own i n)=if i∈mv then some (.own i n,[],True) else (frC O (.own i n)).map λr=>(.l r.1,r.2):=rfl
theorem Zw7:ZbQ O mv (.l x)=some (.l x,[],True):=rfl
theorem Zw6:ZbQ O mv (.kept v x)=some (.l x,[],True):=rfl
theorem Zw5:ZbQ O mv .nil=some (.nil,[],True):=rfl
theorem Zw1:Zi0 O mv (.one c)=(ZbQ O mv c).map λr=>(.one r.1,r.2):=rfl
theorem Zw0:Zi0 O mv (.agg cs)=(Zhx O mv cs).map λr=>(.agg r.1,r.2):=rfl
theorem ZCM:bxO α β cs (some ds)=mtL α β cs ds:=rfl
theorem ZCL:bxO α β cs none=False:=rfl
theorem ZCR {B C:Arr}:arO n (some B) (some (some C))=(n<1000000/\B.fr=false/\B.es=C.es):=rfl
theorem ZCQ {B:Arr}:arO n (some B) none=(2000000<=n/\B.fr=false/\B.es=[]):=rfl
theorem ZCP {B:Arr}:arO n (some B) (some none)=(2000000<=n/\B.fr=false/\B.es=[]):=rfl
theorem ZEb:dO n (some m)=(m<n):=rfl
theorem ZEa:dO n none=True:=rfl
theorem Zzu {v:V}:Zwp [v]=some v:=rfl
theorem Zzt:Zwp []=some (.tup []):=rfl
theorem Zzs {v u:V} {vs:List V}:Zwp (v::u::vs)=(Zu2 (v::u::vs)).map .tup:=rfl
theorem ZBh:toP (.one c)=some (false,[c]):=rfl
theorem ZBg:toP (.agg cs)=some (true,cs):=rfl
theorem ZD8 {r:V}:gT γ β (some i) r=[(i,rnV γ β r)]:=rfl
theorem Zxu {r x:V}:Zxv n r bo ao O (some x)=(0<n/\n=O.nt/\ZyE ⟨n,[(0,r)],bo,ao⟩ ⟨n,(0,x)::O.tm,O.bx,O.ar⟩):=rfl
theorem ZCe {dst:Option Nat} {l k:List V} {r:V} {Z:Eff->Prop} {τs:List Nat} {p:Prop}:gcK O dst n α β γ l bx ar r bo ao Z (some (k,τs,p))=(p/\ZCd (O.frz τs) n α β γ dst l bx ar r bo ao k/\Z ⟨True,gT γ β dst r,bo.map λp=>(β p.1,p.2.map (rnC γ β)),((ao.map λp=>(γ p.1,p.2))++ar.map λp=>(α p.1,none))++τs.map λτ=>(τ,none)⟩):=rfl
theorem ZAh {P:Program} {k:Array ResultVar} {r:V}:ZAW P k n r bo ao .normal O=Zxw P k n r bo ao O:=rfl
theorem ZAg {P:Program} {k:Array ResultVar} {r:V}:ZAW P k n r bo ao .ret O=Zxw P k n r bo ao O:=rfl
theorem Zy5 {ds k:List DV} {Z:Eff->Prop} {vs:List V}:ZAL O n ds k Z vs (some m)=gcK O (some m) n (λi=>i) (λi=>i) (λi=>64*m+(i-30000)) (ds.map inV) [] [] (Zml (Zb3 30000 k).1) [] (Zy6 k) Z (ZeP O [] vs):=rfl
theorem ZBW {f g:Nat} {k l:List Nat}:mtC α β (.clo f k) (.clo g l)=(f=g/\k.map β=l):=rfl
theorem ZBV:mtC α β .nf .nf=True:=rfl
theorem ZBU {j:Nat}:mtC α β (.mp i) (.mp j)=(β i=j):=rfl
theorem ZBT {x y:MD}:mtC α β (.mc x) (.mc y)=(x=y):=rfl
theorem ZBv {f:Nat} {k:List Nat}:rnC γ β (.clo f k)= .clo f (k.map β):=rfl
theorem ZBu:rnC γ β .nf= .nf:=rfl
theorem ZBt:rnC γ β (.mp i)= .mp (β i):=rfl
theorem ZBs {x:MD}:rnC γ β (.mc x)= .mc x:=rfl
theorem ZCC {f:Nat} {k:List Nat}:clC bx ar (.clo f k)=∀i∈k,(bx.lookup i).isSome=true:=rfl
theorem ZCB:clC bx ar .nf=True:=rfl
theorem ZCA:clC bx ar (.mp i)=((bx.lookup i).isSome=true):=rfl
theorem ZCz {x:MD}:clC bx ar (.mc x)=True:=rfl
theorem ZCs {f:Nat} {k:List Nat}:clO bo ao (.clo f k)=∀i∈k,(bo.lookup i).isSome=true:=rfl
theorem ZCr:clO bo ao .nf=True:=rfl
theorem ZCq:clO bo ao (.mp i)=((bo.lookup i).isSome=true):=rfl
theorem ZCp {x:MD}:clO bo ao (.mc x)=True:=rfl
theorem Zw4 {f:Nat} {k:List Nat}:ZbQ O mv (.clo f k)=some (.clo f k,[],True):=rfl
theorem Zw3:ZbQ O mv .nf=some (.nf,[],True):=rfl
theorem Zw2:ZbQ O mv (.mp i)=some (.mp i,[],True):=rfl
end
attribute [go_sem] ZBW ZBV ZBU ZBT ZBv ZBu ZBt ZBs ZCC ZCB ZCA ZCz ZCs ZCr ZCq ZCp Zw4 Zw3 Zw2 ZB5 ZB4 ZB3 ZB2 ZB1 ZB0 ZBZ ZBY ZBX ZBS ZBR mtL Zvm ZBC ZBB ZBA ZBz ZBy ZBx ZBw ZBr ZBq ZBp ZCI ZCH ZCG ZCF ZCE ZCD ZCy ZCx ZCw ZCv ZCu ZCt ZAv ZAu Zym Zyl Zyk Zw9 Zw8 Zw7 Zw6 Zw5 Zhx Zw1 Zw0 ZeP Zac ZCM ZCL ZCR ZCQ ZCP ZEb ZEa Zzu Zzt Zzs ZBh ZBg Zu2 ZD8 Zxu Zxw ZCe ZCd ZAh ZAg Zy5 Zy6 ZmQ ndP ZyE St.frz
open Go.RowKit
section
variable {e:Env} {O O':St} {w:World} {N:Nat->Prop} {w0:Bs} {a:Act} {P:Program}
theorem Zhr {x:Code} {Q:Exit->St->Prop} (h:∀K:St->Prop,(∀O' k,ZaI k O'->Q .normal k->K O')->AW P N w0 x (Zax K Q) O):AW P N w0 x Q O:=λa w t=>
 Code.wp_mono (λe a w ⟨O',l,p⟩=>by
  cases e<;>first | exact ⟨O',l,p⟩| (obtain ⟨k,r,s⟩:=l;exact ⟨k,s,r N w0 a w p⟩)) (h (λO'=>∃k,ZaI k O'/\Q .normal k) (λO' k l p=>⟨k,l,p⟩) a w t)
def ren (l:List (Nat×Nat)) (i:Nat):Nat:=(l.lookup i).getD 0
theorem Zzx (l:List (Nat×Nat)) (i:Nat):ren l i=(l.lookup i).getD 0:=rfl
def Zow:List V->Option (List Nat)
 | []=>some []
 | .one (.box k 0)::l=>(Zow l).map (k:: ·)
 | _::_=>none
theorem Zov (h:ZJ N w0 e O a w):∀{t:List Operand} {vs:List V} {p:List Nat},Xs O t=some vs->Zow vs=some p->
  t.map a.eval=p.map (λk=>Value.pointer (some ⟨e.β k,0,none⟩))/\∀k∈p,∃cs,O.bx.lookup k=some cs
 | [],vs,p,ho,l=>by
  simp only [Xs,ZEK] at ho;subst ho;simp only [Zow,ZEK] at l;subst l;simp
 | o::t,vs,p,ho,l=>by
  simp only [Xs] at ho
  split at ho
  ·rename_i v J G s;obtain rfl:=ZEI ho;unfold Zow at l
   split at l
   ·rename_i r;cases r
   ·rename_i k M r;obtain ⟨rfl,rfl⟩:=List.cons.inj r;obtain ⟨I,E,rfl⟩:=Hf.1 l;obtain ⟨z,A⟩:=Zov h s E;obtain ⟨B,C⟩:=ZG h G
    exact ⟨by rw [Hi,Hi,z,C],λj hj=>by
     rcases Hc.1 hj with rfl| hj
     ·exact B
     ·exact A j hj⟩
   ·cases l
  ·cases ho
def fnK (O:St) (d f:Nat) (Z:Eff->Prop):Option (List Nat)->Prop
 | some k=>d<O.nt/\Z ⟨True,[(d,.one (.clo f k))],[],[]⟩
 | none=>False
theorem ZvZ {d f:Nat} {l:Array Operand} {ty:TypeId} {pos:String} {s:Array Edge} {gd:Option (Nat×Bool)} {Z:Eff->Prop} (p:fnK O d f Z ((Xs O l.toList).bind Zow)):
  HBy P O { dst:=some d,op:=.makeFunc (.func f) #[] l,type:=ty,pos:=pos,after:=s,guard:=gd} Z:=by
 unfold fnK at p
 split at p
 ·rename_i C r;obtain ⟨E,A,B⟩:=Hq.1 r;refine ⟨_,⟨.inl rfl,Ha,λO' k fr N w0 e a w h=>.inl ⟨w,e,.inl ⟨.func (.func f) #[] (l.map a.eval),by simp [execOp,Instr.makeFunc,Sem.run_bind], ?_⟩⟩⟩,p.2⟩;obtain ⟨t,z⟩:=Zov h (k.Xs A) B;refine h.put (x:=.one (.clo f C)) (k.nt▸p.1) ⟨z, ?_⟩;have:l.map a.eval=(l.toList.map a.eval).toArray:=by rw [<-HJ];simp
  rw [this,t]
 ·exact p.elim
def ZCn (P:Program) (O:St) (dst:Option Nat) (Z:Eff->Prop):Option V->Option (List V)->Prop
 | some (.one (.clo f l)),some p=>ZAJ P O dst f (p++l.map λk=>.one (.box k 0)) Z
 | _,_=>False
theorem Zou {dst:Option Nat} {t:Nat} {xs:Array Operand} {ts:Array TypeId} {ty:TypeId} {pos:String} {M:Array Edge} {gd:Option (Nat×Bool)} {Z:Eff->Prop} (z:ZCn P O dst Z (O.tm.lookup t) (Xs O xs.toList)):
  HBy P O { dst:=dst,op:=.call { callee:=.value (.tmp t),args:=xs,argTypes:=ts},type:=ty,pos:=pos,after:=M,guard:=gd} Z:=by
 unfold ZCn at z
 split at z
 ·rename_i f A vs X I;obtain ⟨g,⟨l,Q,R⟩,S⟩:=z;refine ⟨g,⟨.inl rfl,λp hp=>Q p hp,λO' k fr N w0 e a w h=>.inr ?_⟩,S⟩;have U:=h.tm t _ (k.tm t _ X);obtain ⟨B,C⟩:=U;obtain ⟨hl,W⟩:=ZhL h (k.Xs I);refine ⟨f,(xs.toList.map a.eval++A.map λk=>Value.pointer (some ⟨e.β k,0,none⟩)).toArray, ?_, ?_⟩
  ·unfold Y9 at l
   split at l
   ·rename_i fn E;simp only [ZEM,bne_iff_ne,ne_eq] at l;obtain ⟨c,T⟩:∃c,fn.body=some c:=Hk.1 l.2;have Y:a.eval (.tmp t)= .func (.func f) #[] (A.map λk=>Value.pointer (some ⟨e.β k,0,none⟩)).toArray:=C;have r:(xs.toList.map a.eval++A.map λk=>Value.pointer (some ⟨e.β k,0,none⟩)).toArray=xs.map a.eval++(A.map λk=>Value.pointer (some ⟨e.β k,0,none⟩)).toArray:=by rw [<-HJ];simp
    rw [r];simp [execOp,resolve,Y,Deferred.ofValue,invoke,callFunc,E,l.1,T]
   ·cases l
  ·refine (R O' ⟨k.nt,k.bx,k.ar,fr.bx,fr.ar⟩ N w0 e a w _ h (by simp [hl]) λj v hj=> ?_)
   by_cases G:j<vs.length
   ·rw [Gq G] at hj;have hq:(xs.toList.map a.eval)[j]? =some ((xs.toList.map a.eval)[j]'(by rw [HO];omega)):=ZEP _;exact ⟨_,by rw [Gq (by rw [HO];omega)];exact hq,W j v _ hj hq⟩
   ·rw [Ge WF] at hj;rw [HX] at hj;obtain ⟨J,s,rfl⟩:=Hf.1 hj;refine ⟨.pointer (some ⟨e.β J,0,none⟩), ?_,B J (Gg s),rfl⟩;rw [Ge (by rw [HO];omega),HX,HO,<-hl,s]
    rfl
 ·exact z.elim
def ZgK:List (Int×Bool)->Int->Option Bool
 | [],_=>none
 | p::M,n=>if n=p.1 then some p.2 else ZgK M n
def Zjd:List (Int×Bool)->Int->Bool->List (Int×Bool)
 | [],n,b=>[(n,b)]
 | p::M,n,b=>if n=p.1 then (n,b)::M else p::Zjd M n b
theorem Zmy {n:Int}:∀{M:List (Int×Bool)} {l:List MapEntry} (i:Nat),l.map (λm=>(m.key,m.val))=M.map (λp=>(Value.int .i64 p.1,Value.bool p.2))->
  (∃b j,ZgK M n=some b/\Instr.findNow (.int .i64) (.int .i64 n) l i=some (some (i+j,.bool b))/\(∃x,l[j]? =some x/\x.key= .int .i64 n)/\
   ∀k (y:MapEntry->MapEntry),(∀x,(y x).key= .int .i64 n/\(y x).val= .bool k)->(l.modify j y).map (λm=>(m.key,m.val))=(Zjd M n k).map (λp=>(Value.int .i64 p.1,Value.bool p.2)))\/
  (ZgK M n=none/\Instr.findNow (.int .i64) (.int .i64 n) l i=some none/\∀k,Zjd M n k=M++[(n,k)])
 | [],[],i,_=>.inr ⟨rfl,rfl,λ_=>rfl⟩
 | [],_::_,_,h=>by simp at h
 | _::_,[],_,h=>by simp at h
 | p::M,x::l,i,h=>by
  simp only [Hi,List.cons.injEq,ZEL] at h;obtain ⟨⟨s,C⟩,E⟩:=h
  by_cases r:n=p.1
  ·subst r;refine .inl ⟨p.2,0,by simp [ZgK],by simp [Instr.findNow,Instr.sameNow,s,C],⟨x,rfl,s⟩,λk y t=> ?_⟩;simp [Zjd,(t x).1,(t x).2,E]
  ·have G:Instr.sameNow (.int .i64) (.int .i64 n) x.key=some false:=by simp [Instr.sameNow,s,r]
   rcases Zmy (n:=n) (i+1) E with ⟨b,j,z,A,⟨y,B,I⟩,J⟩| ⟨z,A,B⟩
   ·refine .inl ⟨b,j+1,by simp [ZgK,r,z], ?_,⟨y,by simpa using B,I⟩,λk y t=> ?_⟩
    ·simp only [Instr.findNow,G,A];congr 3;omega
    ·simp [Zjd,r,s,C,J k y t]
   ·exact .inr ⟨by simp [ZgK,r,z],by simp [Instr.findNow,G,A],λk=>by simp [Zjd,r,B k]⟩
theorem ZqK {t:Nat} {x:TI} {z:Value} (h:mti P t=some (x,z)):∃k v,P.underlying t=some (.map k v)/\ti P k=some x/\∀w,(zeroValue v).run P w= .ok z w:=by
 unfold mti at h
 split at h
 ·rename_i k v s
  split at h
  ·rename_i B i A r;obtain ⟨C,l,p⟩:=Hf.1 h;obtain ⟨rfl,rfl⟩:=Prod.mk.inj p;exact ⟨k,v,s,A,λw=>by simp [zeroValue,typeInfo,r,l]⟩
  ·cases h
 ·cases h
theorem ZsR {t:Nat} {k:IntKind} {a b:Nat} {z:List Value} (h:ti P t=some ⟨.int k,a,b,z⟩):P.underlying t=some (.int k):=by
 obtain ⟨j,d,A,r,l,s,p,_⟩:=VE h;cases d<;>simp [ZuL] at p;rw [p] at l;exact l
theorem ZmZ.mc {M:List (Int×Bool)} {o:Option Obj} (h:ZmZ e O w [.mc (.ib M)] o):∃es n,o=Option.some (.map es n)/\es.toList.map (λm=>(m.key,m.val))=M.map (λp=>(Value.int .i64 p.1,Value.bool p.2))/\∀p∈M,InK .i64 p.1:=by
 rcases h with ⟨l,B,_,h⟩| ⟨A,es,n,k,r,s,t⟩| ⟨z,es,n,k,_⟩
 rotate_right
 ·obtain ⟨k,_⟩:=List.cons.inj k;cases k
 ·simp only [Yn] at h;obtain ⟨_,_,_,h,_⟩:=h;exact h.elim
 ·obtain ⟨k,_⟩:=List.cons.inj k;obtain rfl:=CV.mc.inj k;refine ⟨es,n,r,by rw [s];simp [MD.es,ZAZ,Zje,Function.comp_def],λp hp=> ?_⟩;exact (t (.one (.int .i64 p.1),.one (.bool p.2)) (Hd.2 ⟨p,hp,rfl⟩)).1
def ZtA (d:Nat) (ok:Bool) (r:Option Bool):Eff:= ⟨True,[(d,if ok then .tup [(false,[.l (.bool (r.getD false))]),(false,[.l (.bool r.isSome)])] else .one (.l (.bool (r.getD false))))],[],[]⟩
def Zvt (O:St) (d:Nat) (ok:Bool) (Z:Eff->Prop) (n:Int):Option (List CV)->Prop
 | some [.mc (.ib M)]=>d<O.nt/\Z (ZtA d ok (ZgK M n))
 | _=>False
def ZxQ (O:St) (d:Nat) (ok:Bool) (Z:Eff->Prop):Option (TI×Value)->Option V->Option V->Prop
 | some (⟨.int .i64,_,_,_⟩,.bool false),some (.one (.mp k)),some (.one (.l (.int .i64 n)))=>Zvt O d ok Z n (O.bx.lookup k)
 | _,_,_=>False
theorem ZpX {d t:Nat} {m x:Operand} {ok:Bool} {ty:TypeId} {pos:String} {I:Array Edge} {gd:Option (Nat×Bool)} {Z:Eff->Prop} (p:ZxQ O d ok Z (mti P t) (opd O m) (opd O x)):
  HBy P O { dst:=some d,op:=.lookup t m x ok,type:=ty,pos:=pos,after:=I,guard:=gd} Z:=by
 unfold ZxQ at p
 split at p
 ·rename_i i1 i2 i3 k n U B T;unfold Zvt at p
  split at p
  ·rename_i M R;obtain ⟨kt,et,A,W,X⟩:=ZqK U;have C:=ZsR W;refine ⟨_,⟨.inl rfl,by simp [ZtA],λO' kk fr N w0 e a w h=>.inl ?_⟩,p.2⟩;obtain ⟨_,S⟩:=h.bx k _ (kk.bx k _ R);obtain ⟨es,Y,J,Q,g3⟩:=S.mc;obtain ⟨_,z⟩:=ZG h (kk.opd B);obtain ⟨F,l,_⟩:=ZG h (kk.opd T);simp only [Rp] at l;have G:=X w;have r:=MapKept.run_checkKey (P:=P) (w:=w) (k:=.int .i64 n) C rfl es.isEmpty 9999;have ho:=MapKept.run_getObj_map (P:=P) J;rcases Zmy (n:=n) 0 Q with ⟨b,j,s,E,_,_⟩| ⟨s,E,_⟩
   ·have hf:=MapKept.run_findKey (P:=P) (w:=w) C E;cases ok
    ·refine ⟨w,e,.inl ⟨.bool b,by simp [execOp,Instr.lookup,z,l.1,run_underlying A,ho,r,hf,Result.andThen,Sem.run_bind], ?_⟩⟩;rw [s];exact h.put (x:=.one (.l (.bool b))) (kk.nt▸p.1) ⟨[],by simp [Rp],Ha⟩
    ·refine ⟨w,e,.inl ⟨.tuple #[.bool b,.bool true],by simp [execOp,Instr.lookup,z,l.1,run_underlying A,ho,r,hf,Result.andThen,Sem.run_bind], ?_⟩⟩;rw [s];refine h.put (x:=.tup [(false,[.l (.bool b)]),(false,[.l (.bool true)])]) (kk.nt▸p.1) ⟨_,rfl, ?_⟩;simp only [YH,Zpf];exact ⟨_,_,rfl,⟨_,rfl,[],by simp [Rp],Ha⟩,_,_,rfl,⟨_,rfl,[],by simp [Rp],Ha⟩,rfl⟩
   ·have hf:=MapKept.run_findKey (P:=P) (w:=w) C E;cases ok
    ·refine ⟨w,e,.inl ⟨.bool false,by simp [execOp,Instr.lookup,z,l.1,run_underlying A,ho,r,hf,G,Result.andThen,Sem.run_bind], ?_⟩⟩;rw [s];exact h.put (x:=.one (.l (.bool false))) (kk.nt▸p.1) ⟨[],by simp [Rp],Ha⟩
    ·refine ⟨w,e,.inl ⟨.tuple #[.bool false,.bool false],by simp [execOp,Instr.lookup,z,l.1,run_underlying A,ho,r,hf,G,Result.andThen,Sem.run_bind], ?_⟩⟩;rw [s];refine h.put (x:=.tup [(false,[.l (.bool false)]),(false,[.l (.bool false)])]) (kk.nt▸p.1) ⟨_,rfl, ?_⟩;simp only [YH,Zpf];exact ⟨_,_,rfl,⟨_,rfl,[],by simp [Rp],Ha⟩,_,_,rfl,⟨_,rfl,[],by simp [Rp],Ha⟩,rfl⟩
  ·exact p.elim
 ·exact p.elim
def ZxK (O:St) (d:Nat) (Z:Eff->Prop):Option (List CV)->Prop
 | none=>d<O.nt/\Z ⟨True,[(d,.one (.mp d))],[(d,[.mc (.ib [])])],[]⟩
 | some _=>False
theorem ZpW {d t:Nat} {ty:TypeId} {pos:String} {r:Array Edge} {gd:Option (Nat×Bool)} {Z:Eff->Prop} (l:ZxK O d Z (O.bx.lookup d)):
  HBy P O { dst:=some d,op:=.makeMap t none,type:=ty,pos:=pos,after:=r,guard:=gd} Z:=by
 unfold ZxK at l
 split at l
 ·rename_i s;refine ⟨_,⟨.inl rfl,Ha,λO' kk fr N w0 e a w h=>.inl ?_⟩,l.2⟩;have p:O'.bx.lookup d=none:=fr.bx (d,[.mc (.ib [])]) Ha s;refine ⟨_,{ e with β:=λk=>if k=d then w.heap.size else e.β k},.inl ⟨.map (some w.heap.size),by simp [execOp,Instr.makeMap,newObj,Result.andThen,Sem.run_bind];rfl, ?_⟩⟩;exact h.newObj (cs:=[.mc (.ib [])]) (c:=.mp d) (kk.nt▸l.1) p (.inr (.inl ⟨.ib [], #[],0,rfl,rfl,rfl,by simp [MD.es]⟩)) ⟨⟨[.mc (.ib [])],Ha⟩,Ha⟩
 ·exact l.elim
def ZAK (O:St) (k:Nat) (Z:Eff->Prop) (n:Int) (b:Bool):Option (List CV)->Prop
 | some [.mc (.ib M)]=>Z ⟨True,[],[(k,[.mc (.ib (Zjd M n b))])],[]⟩
 | _=>False
def ZBf (O:St) (Z:Eff->Prop):Option (TI×Value)->Option V->Option V->Option V->Prop
 | some (⟨.int .i64,_,_,_⟩,_),some (.one (.mp k)),some (.one (.l (.int .i64 n))),some (.one (.l (.bool b)))=>ZAK O k Z n b (O.bx.lookup k)
 | _,_,_,_=>False
def nfK (O:St) (d:Nat) (op:BinOp) (Z:Eff->Prop):Option TI->Option V->Prop
 | some ⟨.fn,_,_,_⟩,some (.one c)=>d<O.nt/\match op,c with
  | .eql,.clo _ _=>Z ⟨True,[(d,.one (.l (.bool false)))],[],[]⟩
  | .neq,.clo _ _=>Z ⟨True,[(d,.one (.l (.bool true)))],[],[]⟩
  | .eql,.nf=>Z ⟨True,[(d,.one (.l (.bool true)))],[],[]⟩
  | .neq,.nf=>Z ⟨True,[(d,.one (.l (.bool false)))],[],[]⟩
  | _,_=>False
 | _,_=>False
theorem Zy8 {t:Nat} {a b:Nat} {z:List Value} (h:ti P t=some ⟨.fn,a,b,z⟩):∃p r v,P.underlying t=some (.func p r v):=by
 obtain ⟨j,d,B,s,k,A,l,_⟩:=VE h;cases d<;>simp [ZuL] at l;exact ⟨_,_,_,k⟩
theorem ZAd {t:Nat} {p r:Array TypeId} {l:Bool} (k:P.underlying t=some (.func p r l)) (fn:Fn) (a b:Array Value) (w:World):(Op.equal t (.func fn a b) .nilFunc).run P w= .ok false w:=by
 unfold Op.equal Op.maxDepth;rw [show (10000:Nat)=9999+1 from rfl,Op.equalIn,Sem.run_bind,run_underlying k]
 rfl
theorem ZAc {t:Nat} {p r:Array TypeId} {l:Bool} (k:P.underlying t=some (.func p r l)) (w:World):(Op.equal t .nilFunc .nilFunc).run P w= .ok true w:=by
 unfold Op.equal Op.maxDepth;rw [show (10000:Nat)=9999+1 from rfl,Op.equalIn,Sem.run_bind,run_underlying k]
 rfl
theorem Zys {d t:Nat} {op:BinOp} {x:Operand} {A:TypeId} {ty:TypeId} {pos:String} {z:Array Edge} {gd:Option (Nat×Bool)} {Z:Eff->Prop} (k:nfK O d op Z (ti P t) (opd O x)):
  HBy P O { dst:=some d,op:=.binOp op t x (.const .nilFunc) A,type:=ty,pos:=pos,after:=z,guard:=gd} Z:=by
 unfold nfK at k
 split at k
 ·rename_i c M I;obtain ⟨hd,k⟩:=k;obtain ⟨p,r,Q,s⟩:=Zy8 M
  have fin:∀b:Bool,(∀(e:Env) (O':St) (w:World) (u:Value),c.rel e O' w u->(binOp op t u .nilFunc).run P w= .ok (.bool b) w)->Z ⟨True,[(d,.one (.l (.bool b)))],[],[]⟩->
    HBy P O { dst:=some d,op:=.binOp op t x (.const .nilFunc) A,type:=ty,pos:=pos,after:=z,guard:=gd} Z:=λb G E=>by
   refine ⟨⟨True,[(d,.one (.l (.bool b)))],[],[]⟩,⟨.inl rfl,Ha,λO' kk fr N w0 e a w h=>.inl ⟨w,e,.inl ⟨.bool b, ?_,h.put (d:=d) (x:=.one (.l (.bool b))) (kk.nt▸hd) ⟨[],by simp [Rp],Ha⟩⟩⟩⟩,E⟩;have C:=G e O' w _ (ZG h (kk.opd I))
   have J:(eqGuard op t x (.const .nilFunc) (a.eval x) .nilFunc).run P w= .ok () w:=by
    unfold eqGuard;generalize a.eval x=u;cases op<;>first | rfl| (cases u<;>rfl)
   have B:a.eval (.const .nilFunc)= .nilFunc:=rfl;simp [execOp,B,Sem.run_bind,J,C,Result.andThen]
  revert k
  split<;>intro k
  ·refine fin false (λe O' w u l=> ?_) k;obtain ⟨_,rfl⟩:=l;show (Sem.run P (do pure (Value.bool (<-Op.equal t _ _))) w)=_;rw [Sem.run_bind,ZAd s];rfl
  ·refine fin true (λe O' w u l=> ?_) k;obtain ⟨_,rfl⟩:=l;show (Sem.run P (do pure (Value.bool (!(<-Op.equal t _ _)))) w)=_;rw [Sem.run_bind,ZAd s];rfl
  ·refine fin true (λe O' w u l=> ?_) k;obtain rfl:=l;show (Sem.run P (do pure (Value.bool (<-Op.equal t _ _))) w)=_;rw [Sem.run_bind,ZAc s];rfl
  ·refine fin false (λe O' w u l=> ?_) k;obtain rfl:=l;show (Sem.run P (do pure (Value.bool (!(<-Op.equal t _ _)))) w)=_;rw [Sem.run_bind,ZAc s];rfl
  ·exact k.elim
 ·exact k.elim
theorem Zup {t:Nat} {m x v:Operand} {ty:TypeId} {pos:String} {af:Array Edge} {gd:Option (Nat×Bool)} {Z:Eff->Prop} (s:ZBf O Z (mti P t) (opd O m) (opd O x) (opd O v)):
  HBy P O { dst:=none,op:=.mapUpdate t m x v,type:=ty,pos:=pos,after:=af,guard:=gd} Z:=by
 unfold ZBf at s
 split at s
 ·rename_i i1 i2 i3 z k n b hm Q hk hv;unfold ZAK at s
  split at s
  ·rename_i M I;obtain ⟨kt,et,q1,q2,_⟩:=ZqK hm;have U:=ZsR q2;refine ⟨_,⟨.inl rfl,Ha,λO' kk fr N w0 e a w h=>.inl ?_⟩,s⟩;obtain ⟨_,hc⟩:=h.bx k _ (kk.bx k _ I);obtain ⟨es,cl,Y,g2,g3⟩:=hc.mc;obtain ⟨_,E⟩:=ZG h (kk.opd Q);obtain ⟨F,l,_⟩:=ZG h (kk.opd hk);obtain ⟨F',B,_⟩:=ZG h (kk.opd hv);simp only [Rp] at l B;have C:=MapKept.run_checkKey (P:=P) (w:=w) (k:=.int .i64 n) U rfl false 9999;have ho:=MapKept.run_getObj_map (P:=P) Y;have G:∀o,(Go.setObj (e.β k) o).run P w= .ok () { w with heap:=w.heap.setIfInBounds (e.β k) o}:=λo=>MapKept.run_setObj_map (P:=P) o Y
   have T:∀p∈Zjd M n b,InK .i64 p.1:=λp hp=>by
    have R:∀{M:List (Int×Bool)},(∀p∈M,InK .i64 p.1)->∀p∈Zjd M n b,InK .i64 p.1:=λ{M}=>by
     induction M with
     | nil=>intro _ p hp;simp [Zjd] at hp;rw [hp];exact l.2.2
     | cons q M ih=>
      intro hM p hp;simp only [Zjd] at hp
      split at hp
      ·rcases Hc.1 hp with rfl| hp
       ·exact l.2.2
       ·exact hM p (Hz _ hp)
      ·rcases Hc.1 hp with rfl| hp
       ·exact hM _ (GL ..)
       ·exact ih (λx s=>hM x (Hz _ s)) p hp
    exact R g3 p hp
   have A:∀(r:Array MapEntry) (S:Nat),r.toList.map (λm=>(m.key,m.val))=(Zjd M n b).map (λp=>(Value.int .i64 p.1,Value.bool p.2))->ZmZ e O' w [.mc (.ib (Zjd M n b))] (some (.map r S)):=λr S h1=>
    .inr (.inl ⟨.ib (Zjd M n b),r,S,rfl,rfl,by rw [h1];simp [MD.es,ZAZ,Zje,Function.comp_def],λp hp=>by
     obtain ⟨q,hq,rfl⟩:=Hd.1 hp;exact ⟨T q hq,trivial⟩⟩)
   rcases Zmy (n:=n) 0 g2 with ⟨b0,j,r1,W,⟨x0,r3,r4⟩,X⟩| ⟨r1,W,X⟩
   ·have hf:=MapKept.run_findKey (P:=P) (w:=w) U W;have hj:es[j]? =some x0:=by simpa using r3
    have J:(Instr.keyThatStays (.int .i64 n) (.int .i64 n)).run P w= .ok (.int .i64 n) w:=MapKept.run_keyThatStays (d:=.int .i64) rfl;refine ⟨_,e,.inr ⟨by simp [execOp,Instr.mapUpdate,E,l.1,B.1,run_underlying q1,ho,C,hf,hj,r4,J,G,Result.andThen,Sem.run_bind];rfl,h.setObj (kk.bx k _ I) (A _ _ ?_)⟩⟩;rw [Array.toList_modify];exact X b _ λx=>⟨rfl,rfl⟩
   ·have hf:=MapKept.run_findKey (P:=P) (w:=w) U W;refine ⟨_,e,.inr ⟨by simp [execOp,Instr.mapUpdate,E,l.1,B.1,run_underlying q1,ho,C,hf,G,Result.andThen,Sem.run_bind];rfl,h.setObj (kk.bx k _ I) (A _ _ ?_)⟩⟩;simp [X,g2]
  ·exact s.elim
 ·exact s.elim
end
open Go.RowKit
def ZyL:List L->Value
 | [x]=>Zje x
 | _=>undef
def ZcL (es:List (List L)):List Value:=es.map ZyL
def ZDu (P:Program) (f:Nat) (us r:List Value):Prop:=Y9 P f=true/\r.length=us.length/\∀(w:World) (p:Option Addr) (c:Nat),
 (us=[]->Calls P f #[.slice p 0 c] w λs w'=>s= .returned (.tuple #[])/\w'=w)/\
 ∀b l t,p=some ⟨b,0,none⟩->w.heap[b]? =some (.cells l t (0,0))->us.length<=l.size->l.toList.take us.length=us->
  Calls P f #[.slice p us.length c] w λs w'=>s= .returned (.tuple #[])/\w.grownBy w' (some b)/\∃k:Array Value,w'.heap[b]? =some (.cells k t (0,0))/\k.size=l.size/\k.toList.take us.length=r
section
variable {e:Env} {O:St} {w w':World} {N:Nat->Prop} {w0:Bs} {a:Act} {P:Program} {ops:Array Oper}
theorem Zxx {M:Nat->Prop} {x:List L} {v:List Value} {F:List Nat} (h:RpL w x v F) (hf:Zfw x=true) (hl:x.length=1):v=[ZyL x]/\∀w',OwL M w' x v []:=by
 match x,hl with
 | [y],_=>
  simp only [RpL] at h;obtain ⟨u,_,r,_,rfl,rfl,k,rfl,rfl⟩:=h;have l:y.flat=true:=by simpa [Zfw] using hf
  have p:u=Zje y:=by
   cases y<;>simp only [Rp,L.flat] at k l
   ·exact k.1
   ·exact k.1
   ·exact k.1
   ·cases l
   ·cases l
  refine ⟨by rw [p];rfl,λw'=> ?_⟩;simp only [OwL];refine ⟨u,[],[],[],rfl,rfl, ?_,rfl,rfl⟩;cases y<;>simp only [Rp,Ow,L.flat] at k l ⊢
  ·exact ⟨k.1,trivial,k.2.2⟩
  ·exact ⟨k.1,trivial⟩
  ·exact ⟨k.1,trivial,k.2.2⟩
  ·cases l
  ·cases l
theorem ZsJ {M:Nat->Prop}:∀{es:List (List L)} {vs:List Value} {F:List Nat},RpE w es vs F->Ue es=true->(∀e∈es,e.length=1)->vs=ZcL es/\∀x∈es,∀w',OwL M w' x [ZyL x] []
 | [],vs,F,h,_,_=>by simp only [RpE] at h;simp [h.1,ZcL]
 | e::es,vs,F,h,hf,p=>by
  simp only [RpE] at h;obtain ⟨G,I,C,E,rfl,rfl,A,B⟩:=h;simp only [Ue,List.all_cons,ZEM] at hf;obtain ⟨l,r⟩:=Zxx (M:=M) A hf.1 (p e Ha);obtain ⟨s,t⟩:=ZsJ (M:=M) B hf.2 λe z=>p e (by simp [z]);refine ⟨by rw [l,s];rfl,λx k w'=> ?_⟩;rcases Hc.1 k with rfl| k
  ·exact l▸r w'
  ·exact t x k w'
theorem Zto {M:Nat->Prop}:∀{es:List (List L)},(∀x∈es,OwL M w x [ZyL x] [])->OwE M w es (ZcL es) []
 | [],_=>by simp [OwE,ZcL]
 | x::es,h=>by
  simp only [OwE];exact ⟨_,ZcL es,[],[],rfl,rfl,h x Ha,Zto λy k=>h y (by simp [k])⟩
def tmT (dst:Option Nat):List (Nat×V):=match dst with | some d=>[(d,.tup [])]| none=>[]
theorem ZmY.sort {f:Nat} {dst:Option Nat} {τ n:Nat} {A:Arr} {es':List (List L)} (hA:O.ar.lookup τ=some (some A)) (hn:A.es.length=n) (hd:∀d,dst=some d->d<O.nt) (b8:τ<1000000) (hf:Ue A.es=true) (h1:∀e∈A.es,e.length=1) (hm:∀x∈es',x∈A.es)
  (c:ZDu P f (ZcL A.es) (ZcL es')):ZmY P O dst f [.one (.own τ n)] ⟨True,tmT dst,[],[(τ,some ⟨A.fr,es'⟩)]⟩:=by
 obtain ⟨U,b1,hc⟩:=c;have hl:es'.length=A.es.length:=by simpa [ZcL] using b1
 refine ⟨U,λp hp=>by unfold tmT at hp;split at hp<;>simp at hp;rw [hp],λO' k N w0 e a w us h b7 I=> ?_⟩;have E:=k.ar τ _ hA;obtain ⟨u,hu,B,hB,q1,q2⟩:=I 0 _ rfl;rw [E] at hB;obtain rfl:=ZEI hB;have b6:=(q1 A rfl).2 hn;subst b6
 obtain rfl:us=[e.ρ τ]:=by
  match us,b7,hu with
  | [x],_,hu=>simpa using hu
 have b2:=h.ar τ A E
 have fin:∀(w':World) (row:Option Nat),w.grownBy w' row->(∀b,row=some b->(e.ρ τ).ownBlock=some b)->Uf N (Mut (ZfC e τ (e.ρ τ) (e.φ τ)) (stA O' (tmT dst++O'.tm) τ ⟨A.fr,es'⟩ [])) w' ⟨A.fr,es'⟩ (e.ρ τ) (e.φ τ)->
   ZJ N w0 (ZfC e τ (e.ρ τ) (e.φ τ)) (O'.app ⟨True,tmT dst,[],[(τ,some ⟨A.fr,es'⟩)]⟩) (a.put dst (.tuple #[])) w':=λw' row hg hr U=>by
  refine h.Zqv (τs:=[]) (tm:=tmT dst++O'.tm) b8 Ha Ha hg (λb hb=>⟨A,E,hr b hb⟩) (λC hC=>by rw [E] at hC;obtain rfl:=ZEI hC;exact ⟨A,rfl,by simp [hl],λ_=>rfl⟩) (λb hb=>.inl ⟨A,E,hb⟩) (λb hb=>.inl ⟨A,E,hb⟩) U (by rw [Z2];exact h.nt) (by rw [ZO];exact h.df) λu t x ht=> ?_;cases dst with
  | none=>exact .inl ⟨ht,rfl⟩
  | some d=>
   refine ZaX (x:=.tup []) (by rw [h.nt,k.nt];exact hd d rfl) ⟨[],rfl, ?_⟩ t x ht;simp [YH]
 obtain ⟨p,cc,I,T,g0⟩:=b2;rcases g0 with ⟨R,g2,g3,g4⟩| ⟨b,t,S,Fs,W,R,g2,g3,g4,g5,g6,g7,g8⟩
 ·have s:es'=[]:=HI (by rw [hl,R];rfl);have c0:n=0:=by rw [<-hn,R];rfl
  rw [I,R];refine ((hc w p cc).1 (by rw [R];rfl)).mono λex w' hR=> ?_;obtain ⟨rfl,Z⟩:=hR;have Z:=Z.symm;subst Z;refine ⟨_,_,rfl,fin w none ⟨rfl,rfl,rfl,ZEN _,λ_ _ _=>rfl⟩ (λ_ h=>by cases h) ⟨p,cc,by rw [I,s,R],T,.inl ⟨s,g2,g3,g4⟩⟩⟩
 ·have hW:A.es≠[]->W=1:=λr=>by
   obtain ⟨x,l,J⟩:=List.exists_cons_of_ne_nil r;have:=g6 x (by rw [J];simp);rw [<-this];exact h1 x (by rw [J];simp)
  by_cases r:A.es=[]
  ·have s:es'=[]:=HI (by rw [hl,r];rfl);rw [I,r];refine ((hc w p cc).1 (by rw [r];rfl)).mono λex w' hR=> ?_;obtain ⟨rfl,Z⟩:=hR;have Z:=Z.symm;subst Z;have hh:=fin w none ⟨rfl,rfl,rfl,ZEN _,λ_ _ _=>rfl⟩ (λ_ h=>by cases h) ⟨p,cc,by rw [I,s,r],T,.inr ⟨b,t,S,Fs,W,R,g2,g3,by rw [s];simp,g5,by rw [s];simp,λ_=>g7 r, ?_⟩⟩
   ·exact ⟨_,_,rfl,hh⟩
   ·rcases g8 with ⟨m1,m2,z,M⟩| ⟨m1,m2,z,M⟩
    ·refine .inl ⟨m1,m2,z, ?_⟩;rw [r] at M;rw [s];exact M
    ·refine .inr ⟨m1,m2, ?_,λx J b9=> ?_⟩
     ·rw [r] at z;rw [s];exact z
     ·have:Fs=[]:=by rw [r] at z;simp only [List.length_nil,Nat.zero_mul,Gi,RpE] at z;exact z.2
      rw [this] at J;cases J
  ·obtain rfl:=hW r;subst R
   have X:∃b0,RpE w A.es (S.toList.take (A.es.length*1)) b0:=by
    rcases g8 with ⟨_,_,_,M⟩| ⟨_,_,z,_⟩
    ·exact ⟨_,M.rp⟩
    ·exact ⟨_,z⟩
   obtain ⟨b0,X⟩:=X;obtain ⟨v1,v2⟩:=ZsJ (M:=N) X hf h1;rw [Nat.mul_one] at v1;have Y:(ZcL A.es).length=A.es.length:=by simp [ZcL]
   have G:=(hc w (some ⟨b,0,none⟩) cc).2 b S t rfl g3 (by rw [Y,g5,Nat.mul_one];exact g4) (by rw [Y];exact v1);rw [Y] at G;rw [I];refine G.mono λex w' hR=> ?_;obtain ⟨rfl,r1,Q,r2,r3,r4⟩:=hR
   have b4:Fs=[]:=by
    rcases g8 with ⟨_,_,_,M⟩| ⟨_,_,z,_⟩
    ·exact (M.rp.flat (N:=N) hf).1
    ·exact (z.flat (N:=N) hf).1
   subst b4
   have b3:OwE N w' es' (Q.toList.take (es'.length*1)) []:=by
    rw [Nat.mul_one,hl,r4];exact Zto λx J=>v2 x (hm x J) w'
   refine ⟨_,_,rfl,fin w' (some b) r1 (λb' b5=>by rw [I];obtain rfl:=ZEI b5;rfl) ⟨_,cc,by rw [I,hl],T,.inr ⟨b,t,Q,[],1,rfl,g2,r2,by rw [hl];exact g4,by rw [r3];exact g5,λx J=>h1 x (hm x J),λh0=>absurd (HI (by rw [<-hl];exact congrArg List.length h0)) r, ?_⟩⟩⟩;rcases g8 with ⟨m1,m2,z,M⟩| ⟨m1,m2,z,M⟩
   ·exact .inl ⟨m1,m2,z,b3⟩
   ·exact .inr ⟨m1,m2,b3.rp,Ha⟩
def ZAO (O:St) (dst:Option Nat) (es':List (List L)) (Z:Eff->Prop) (es:List (List L)) (τ n:Nat):Option (Option Arr)->Prop
 | some (some A)=>A.es=es/\es.length=n/\dO O.nt dst/\τ<1000000/\Z ⟨True,tmT dst,[],[(τ,some ⟨A.fr,es'⟩)]⟩
 | _=>False
def ZAN (O:St) (dst:Option Nat) (es':List (List L)) (Z:Eff->Prop) (es:List (List L)):List V->Prop
 | [.one (.own k n)]=>ZAO O dst es' Z es k n (O.ar.lookup k)
 | _=>False
def SS (P:Program) (f:Nat) (es es':List (List L)):Prop:=ZDu P f (ZcL es) (ZcL es')/\Ue es=true/\(∀e∈es,e.length=1)/\∀x∈es',x∈es
theorem Zyr {f:Nat} {dst:Option Nat} {vs:List V} {es es':List (List L)} {Z:Eff->Prop} (c:SS P f es es') (k:ZAN O dst es' Z es vs):XBy P O dst f (some vs) Z:=by
 unfold ZAN at k
 split at k
 ·rename_i z n;unfold ZAO at k
  split at k
  ·rename_i A l;obtain ⟨rfl,p,r,s,t⟩:=k;exact ⟨_,_,rfl,.hand _ (ZmY.sort l p (λd hd=>by subst hd;exact r) s c.2.1 c.2.2.1 c.2.2.2 c.1),t⟩
  ·exact k.elim
 ·exact k.elim
end
end Go.Proofs.YtmcfegjoccgpoaaGreatDoor.Am
namespace Go.Proofs.YtmcfegjoccgpoaaGreatDoor
open Go.RowKit Am
def toL (s:Ma):List UInt8:=s.data.toList
def ofL (l:List UInt8):Ma:=⟨l.toArray⟩
theorem Zpk (s:Ma):ofL (toL s)=s:=by simp [ofL,toL]
theorem ZoW (l:List UInt8):toL (ofL l)=l:=by simp [ofL,toL]
def ZnB (xs:List Ma):List Ma:=((xs.map toL).mergeSort (λx y=>decide (x<=y))).map ofL
def Zo3 (xs:List Int):List Int:=xs.mergeSort (λx y=>decide (x<=y))
def Xb (xs:List Ma):Option (List Ma):=if xs.length<4611686018427387904 then some (ZnB xs) else none
def VD (xs:List Int):Option (List Int):=if xs.length<4611686018427387904 then some (Zo3 xs) else none
theorem Zen (xs:List Ma):(ZnB xs).Perm xs:=by
 have h:=(List.mergeSort_perm (xs.map toL) (λx y=>decide (x<=y))).map ofL;rw [List.map_map] at h;have:(ofL∘toL)=id:=funext λs=>Zpk s;rw [this,List.map_id] at h;exact h
theorem Ke (xs:List Int):(Zo3 xs).Perm xs:=List.mergeSort_perm _ _
theorem ZaL {xs v:List Ma} (h:Xb xs=some v):v=ZnB xs:=by
 unfold Xb at h
 split at h
 ·exact (ZEI h).symm
 ·cases h
theorem ZeJ {xs v:List Int} (h:VD xs=some v):v=Zo3 xs:=by
 unfold VD at h
 split at h
 ·exact (ZEI h).symm
 ·cases h
theorem Zae {xs v:List Ma} (h:Xb xs=some v):v.length=xs.length:=by
 rw [ZaL h];exact (Zen xs).length_eq
theorem ZcP {xs v:List Int} (h:VD xs=some v):v.length=xs.length:=by
 rw [ZeJ h];exact (Ke xs).length_eq
end Go.Proofs.YtmcfegjoccgpoaaGreatDoor
