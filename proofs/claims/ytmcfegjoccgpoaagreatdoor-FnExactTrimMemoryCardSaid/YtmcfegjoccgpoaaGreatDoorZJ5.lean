import Derived.Test.YtmcfegjoccgpoaaGreatDoorZJ4
import Derived.Lib.ItoaNum
import Derived.Lib.Join
import Derived.Lib.AtoiAll
import Derived.Lib.SplitLaws
set_option linter.unusedSimpArgs false
set_option linter.unusedVariables false
namespace Go.Proofs.YtmcfegjoccgpoaaGreatDoor.Am
open Go.RowKit
abbrev Ty {p:Prop} (_:p):Prop:=p
class HC (f:Nat) (T:outParam Prop):Prop where h:T
def oI (n:Int):V:=.one (.l (.int .i64 n))
def oB (b:Bool):V:=.one (.l (.bool b))
def oS (s:Ma):V:=.one (.l (.str s))
def oL {α:Type} (c:α->List L) (xs:List α):V:=.one (.l (.sl (xs.map c)))
def oO (τ n:Nat):V:=.one (.own τ n)
def cI (n:Int):CV:=.l (.int .i64 n)
def cS (s:Ma):CV:=.l (.str s)
def cL {α:Type} (c:α->List L) (xs:List α):CV:=.l (.sl (xs.map c))
def aT {α:Type} (c:α->List L) (xs:List α):Option Arr:=some ⟨true,xs.map c⟩
def aF {α:Type} (c:α->List L) (xs:List α):Option Arr:=some ⟨false,xs.map c⟩
def pk {α:Type} (l:List (Nat×α)):List Nat->List (Nat×α)
 | []=>[]
 | t::ts=>match l.lookup t with | some v=>(t,v)::pk l ts| none=>pk l ts
def pkO {α:Type} (l:List (Nat×α)) (ts:List Nat) (t:Nat):Option α->List (Nat×α)
 | some v=>(t,v)::pk l ts
 | none=>pk l ts
theorem ZzB {α:Type} (l:List (Nat×α)):pk l []=[]:=rfl
theorem Zxs {α:Type} (l:List (Nat×α)) (t:Nat) (ts:List Nat):pk l (t::ts)=pkO l ts t (l.lookup t):=by
 rw [pk];cases l.lookup t<;>rfl
def St.of (O:St) (ts ks τs:List Nat) (ch:List (Nat×V)) (cb:List (Nat×List CV)) (ca:List (Nat×Option Arr)):St:=⟨O.nt,ch++pk O.tm ts,cb++pk O.bx ks,ca++pk O.ar τs⟩
attribute [go_sem] oI oB oS oL oO cI cS cL aT aF ZzB Zxs pkO St.of
structure Wt (p:Prop):Prop where
 h:p
theorem wt {p:Prop} (h:p):Wt p:=⟨h⟩
section
variable {P:Program} {ops:Array Oper} {O O':St} {K:St->Prop} {o:Oper} {rest:List Oper} {b want:Bool}
theorem gd {ρ:Type} {j:Bool} {A B r:ρ} (hM:(if b=true then A else B)=r) (l:b=true->A=r->Wt (Vu P ops o rest O K want (some j))) (hf:b=false->B=r->Wt (Vu P ops o rest O K want (some j))):Vu P ops o rest O K want (some j):=by
 cases b
 ·exact (hf rfl (by simpa using hM)).h
 ·exact (l rfl (by simpa using hM)).h
end
section
variable {P:Program} {N:Nat->Prop} {w0:Bs} {Q:Exit->St->Prop} {x y:Code} {O O':St} {K:St->Prop}
theorem hsq (hK:∀O,AW P N w0 y Q O->K O) (h:AW P N w0 y Q O):K O:=hK O h
theorem fs {ι:Type} {S:ι->St} {I:ι->Prop} (hK:∀i O',I i->ZaI (S i) O'->K O') {i:ι} (hi:I i) (h:Ka (S i) O:=by constructor<;>simp [go_sem,F]<;>omega):K O:=hK i O hi h.into
theorem fs2 {α β:Type} {S:α×β->St} {I:α×β->Prop} {J:α->β->Prop} (hK:∀i O',I i->ZaI (S i) O'->K O') (hJ:∀a b,J a b->I (a,b)) {a:α} {b:β} (hi:J a b) (h:Ka (S (a,b)) O:=by constructor<;>simp [go_sem,F]<;>omega):K O:=hK _ O (hJ _ _ hi) h.into
theorem fs3 {α β γ:Type} {S:α×β×γ->St} {I:α×β×γ->Prop} {J:α->β->γ->Prop} (hK:∀i O',I i->ZaI (S i) O'->K O') (hJ:∀a b c,J a b c->I (a,b,c)) {a:α} {b:β} {c:γ} (hi:J a b c) (h:Ka (S (a,b,c)) O:=by constructor<;>simp [go_sem,F]<;>omega):K O:=hK _ O (hJ _ _ _ hi) h.into
theorem fs4 {α β γ δ:Type} {S:α×β×γ×δ->St} {I:α×β×γ×δ->Prop} {J:α->β->γ->δ->Prop} (hK:∀i O',I i->ZaI (S i) O'->K O') (hJ:∀a b c d,J a b c d->I (a,b,c,d)) {a:α} {b:β} {c:γ} {d:δ} (hi:J a b c d) (h:Ka (S (a,b,c,d)) O:=by constructor<;>simp [go_sem,F]<;>omega):K O:=hK _ O (hJ _ _ _ _ hi) h.into
theorem fs5 {α β γ δ ε:Type} {S:α×β×γ×δ×ε->St} {I:α×β×γ×δ×ε->Prop} {J:α->β->γ->δ->ε->Prop} (hK:∀i O',I i->ZaI (S i) O'->K O') (hJ:∀a b c d f,J a b c d f->I (a,b,c,d,f)) {a:α} {b:β} {c:γ} {d:δ} {f:ε} (hi:J a b c d f) (h:Ka (S (a,b,c,d,f)) O:=by constructor<;>simp [go_sem,F]<;>omega):K O:=hK _ O (hJ _ _ _ _ _ hi) h.into
theorem fs7 {α β γ δ ε ζ η:Type} {S:α×β×γ×δ×ε×ζ×η->St} {I:α×β×γ×δ×ε×ζ×η->Prop} {J:α->β->γ->δ->ε->ζ->η->Prop} (hK:∀i O',I i->ZaI (S i) O'->K O') (hJ:∀a b c d f g u,J a b c d f g u->I (a,b,c,d,f,g,u)) {a:α} {b:β} {c:γ} {d:δ} {f:ε} {g:ζ} {u:η} (hi:J a b c d f g u) (h:Ka (S (a,b,c,d,f,g,u)) O:=by constructor<;>simp [go_sem,F]<;>omega):K O:=hK _ O (hJ _ _ _ _ _ _ _ hi) h.into
theorem fs8 {α β γ δ ε ζ η θ:Type} {S:α×β×γ×δ×ε×ζ×η×θ->St} {I:α×β×γ×δ×ε×ζ×η×θ->Prop} {J:α->β->γ->δ->ε->ζ->η->θ->Prop} (hK:∀i O',I i->ZaI (S i) O'->K O') (hJ:∀a b c d f g u v,J a b c d f g u v->I (a,b,c,d,f,g,u,v)) {a:α} {b:β} {c:γ} {d:δ} {f:ε} {g:ζ} {u:η} {v:θ} (hi:J a b c d f g u v) (h:Ka (S (a,b,c,d,f,g,u,v)) O:=by constructor<;>simp [go_sem,F]<;>omega):K O:=hK _ O (hJ _ _ _ _ _ _ _ _ hi) h.into
theorem fs9 {α β γ δ ε ζ η θ κ:Type} {S:α×β×γ×δ×ε×ζ×η×θ×κ->St} {I:α×β×γ×δ×ε×ζ×η×θ×κ->Prop} {J:α->β->γ->δ->ε->ζ->η->θ->κ->Prop} (hK:∀i O',I i->ZaI (S i) O'->K O') (hJ:∀a b c d f g u v x,J a b c d f g u v x->I (a,b,c,d,f,g,u,v,x)) {a:α} {b:β} {c:γ} {d:δ} {f:ε} {g:ζ} {u:η} {v:θ} {x:κ} (hi:J a b c d f g u v x) (h:Ka (S (a,b,c,d,f,g,u,v,x)) O:=by constructor<;>simp [go_sem,F]<;>omega):K O:=hK _ O (hJ _ _ _ _ _ _ _ _ _ hi) h.into
theorem ZwW {o:Operand} (h:AW P N w0 y Q O) (ho:opd O o=some (.one (.l (.bool false))):=by first | (simp [go_sem,F];done)| fail):AW P N w0 (.cond o x y) Q O:=Zqb ho (λh=>nomatch h) (λ_=>h)
theorem S1 {id:Nat} {l:List Oper} (h:AW P N w0 y Q O') (ho:∀K:St->Prop,K O'->Z9 P l.toArray l O K:=by intro K h;simp (maxSteps:=9999999) [go_sem,F];exact h):AW P N w0 (.seq (.region id l.toArray false) y) Q O:=Zp λK hK=>ho K (hK _ h)
theorem le1 (ts ks τs:List Nat) (h:AW P N w0 x Q O') (ch:List (Nat×V):=[]) (cb:List (Nat×List CV):=[]) (ca:List (Nat×Option Arr):=[]) (e:O.of ts ks τs ch cb ca=O':=by simp [go_sem];exact rfl) (k:Ka O' O:=by constructor<;>simp [go_sem,F]<;>omega):AW P N w0 x Q O:=Jk k.into h
theorem mj {ι ρ:Type} (ts ks τs:List Nat) (ch:ι->List (Nat×V)) {m:Option ι} {g:ι->Option ρ} {r:ρ} {S:ι->St} (hM:m.bind g=some r) (s:∀e,m=some e->∀K:St->Prop,(∀i O',i=e->ZaI (S i) O'->K O')->AW P N w0 x (Zax K Q) O) (t:∀i,g i=some r->AW P N w0 y Q (S i))
  (cb:ι->List (Nat×List CV):=λ_=>[]) (ca:ι->List (Nat×Option Arr):=λ_=>[]) (e:∀i,O.of ts ks τs (ch i) (cb i) (ca i)=S i:=by intro i;simp [go_sem];exact rfl):AW P N w0 (.seq x y) Q O:=by
 obtain ⟨v,j,l⟩:=bind_some hM;exact KZ S (λi=>i=v) (s v j) (λi p=>t i (p▸l))
theorem mjE {ι κ ρ:Type} (ts ks τs:List Nat) (ch:ι->List (Nat×V)) {m:Option (ι ⊕ κ)} {g:ι ⊕ κ->Option ρ} {r:ρ} {S:ι->St} (hM:m.bind g=some r) (s:∀e,m=some e->g e=some r->∀K:St->Prop,(∀i O',.inl i=e->ZaI (S i) O'->K O')->AW P N w0 x (Zax K Q) O) (t:∀i,g (.inl i)=some r->AW P N w0 y Q (S i))
  (cb:ι->List (Nat×List CV):=λ_=>[]) (ca:ι->List (Nat×Option Arr):=λ_=>[]) (e:∀i,O.of ts ks τs (ch i) (cb i) (ca i)=S i:=by intro i;simp [go_sem];exact rfl):AW P N w0 (.seq x y) Q O:=by
 obtain ⟨v,l,j⟩:=bind_some hM;exact KZ S (λi=>.inl i=v) (s v l j) (λi p=>t i (by rw [p];exact j))
theorem lp {ι:Type} (ts ks τs:List Nat) (ch:ι->List (Nat×V)) (I:Nat->ι->Prop) (r:Nat) (l:ι) {S:ι->St} (s:I r l) (w:∀i,¬I 0 i)
  (j:∀(KL:St->Prop) (n:Nat) (i:ι),(∀p O',I n p->ZaI (S p) O'->KL O')->I (n+1) i->True->AW P N w0 x (Zax KL Q) (S i)) (cb:ι->List (Nat×List CV):=λ_=>[]) (ca:ι->List (Nat×Option Arr):=λ_=>[])
  (e:∀i,O.of ts ks τs (ch i) (cb i) (ca i)=S i:=by intro i;simp [go_sem];exact rfl) (t:Ka (S l) O:=by constructor<;>simp [go_sem,F]<;>omega):AW P N w0 (.loop x) Q O:=
 ZC0 S I r l s w j t
theorem qI {f:Nat} {l j:List DV} {fr p:Bool} {r:List DV} {X:Bool->Bool->List DV->Prop} {Y:Prop} {T:Prop} [i:HC f T] {α:Type} {m:Option α} {z:α} (e:m=some z) (s:Wt (X fr false r)) (h:T->m=some z->Ctr P f l fr r:=by intro h e;apply h;exact e) (hd:j=l:=by first | (simp [go_sem,F];done)| fail) (hp:fr=false->p=true:=by first | exact λ_=>rfl| (intro h;contradiction)):ZbH P f j p X Y:=
 ZwQ false (h i.h e) hd hp s.h
theorem qP {f:Nat} {dst:Option Nat} {vs:List V} {d1 d2:List DV} {l j:List L} {fr:Bool} {p:List DV} {Z:Eff->Prop} {T:Prop} [i:HC f T] {α:Type} {m:Option α} {z:α} (e:m=some z) (r:Wt (ZAQ O dst d1.length d1 l d2 fr p j Z (Zm2 O d1.length vs))) (h:T->m=some z->ZeC P f d1 l d2 fr p j:=by intro h e;apply h;exact e):XBy P O dst f (some vs) Z:=
 ZAz _ (h i.h e) r.h
theorem qU {f n:Nat} {dst:Option Nat} {vs:List V} {l j p:List DV} {s:Bool} {X:Bool->Bool->List DV->Prop} {Z:Eff->Prop} {T:Prop} [i:HC f T] {α:Type} {m:Option α} {z:α} (e:m=some z) (r:Wt (ZAL O n l p Z vs dst)) (h:T->m=some z->TC P f n l p:=by intro h e;apply h;exact e):ZbH P f j s X (XBy P O dst f (some vs) Z):=.inr (ZCK (h i.h e) r.h)
theorem qR {f:Nat} {dst:Option Nat} {vs:List V} {l j:List DV} {r:Bool} {X:Bool->Bool->List DV->Prop} {cs:List L} {Z:Eff->Prop} {T:Prop} [i:HC f T] {α:Type} {m:Option α} {z:α} (e:m=some z) (p:Wt (ZAB O dst l cs Z (Zhs O vs))) (h:T->m=some z->Zwb P f l cs:=by intro h e;apply h;exact e):ZbH P f j r X (XBy P O dst f (some vs) Z):=Zyt (h i.h e) p.h
theorem qV {f:Nat} {dst:Option Nat} {vs:List V} {j:List DV} {p:Bool} {X:Bool->Bool->List DV->Prop} {es es':List (List L)} {Z:Eff->Prop} {T:Prop} [i:HC f T] {α:Type} {m:Option α} {z:α} (e:m=some z) (l:Wt (ZAN O dst es' Z es vs)) (h:T->m=some z->SS P f es es':=by intro h e;apply h;exact e):ZbH P f j p X (XBy P O dst f (some vs) Z):=.inr (Zyr (h i.h e) l.h)
section
variable {d f k τ n:Nat} {Z:Eff->Prop} {dst:Option Nat} {b ok:Bool} {m:Int}
theorem ZCf {ks:List Nat}:fnK O d f Z (some ks)=(d<O.nt/\Z ⟨True,[(d,.one (.clo f ks))],[],[]⟩):=rfl
theorem Zyw:Zow []=some []:=rfl
theorem Zyv {vs:List V}:Zow (.one (.box k 0)::vs)=(Zow vs).map (k:: ·):=rfl
theorem ZAt {ks:List Nat} {vs:List V}:ZCn P O dst Z (some (.one (.clo f ks))) (some vs)=ZAJ P O dst f (vs++ks.map λk=>.one (.box k 0)) Z:=rfl
theorem ZxP {x y:Nat} {z:List Value}:ZxQ O d ok Z (some (⟨.int .i64,x,y,z⟩,.bool false)) (some (.one (.mp k))) (some (.one (.l (.int .i64 m))))=Zvt O d ok Z m (O.bx.lookup k):=rfl
theorem ZxR {M:List (Int×Bool)}:Zvt O d ok Z m (some [.mc (.ib M)])=(d<O.nt/\Z (ZtA d ok (ZgK M m))):=rfl
theorem ZxO {r:Option Bool}:ZtA d true r=⟨True,[(d,.tup [(false,[.l (.bool (r.getD false))]),(false,[.l (.bool r.isSome)])])],[],[]⟩:=rfl
theorem ZxN {r:Option Bool}:ZtA d false r=⟨True,[(d,.one (.l (.bool (r.getD false))))],[],[]⟩:=rfl
theorem ZxJ:ZxK O d Z none=(d<O.nt/\Z ⟨True,[(d,.one (.mp d))],[(d,[.mc (.ib [])])],[]⟩):=rfl
theorem Zy1 {x y:Nat} {z:List Value} {v:Value}:ZBf O Z (some (⟨.int .i64,x,y,z⟩,v)) (some (.one (.mp k))) (some (.one (.l (.int .i64 m)))) (some (.one (.l (.bool b))))=ZAK O k Z m b (O.bx.lookup k):=rfl
theorem Zy2 {M:List (Int×Bool)}:ZAK O k Z m b (some [.mc (.ib M)])=Z ⟨True,[],[(k,[.mc (.ib (Zjd M m b))])],[]⟩:=rfl
theorem ZBQ {x y:Nat} {z:List Value} {ks:List Nat}:nfK O d .eql Z (some ⟨.fn,x,y,z⟩) (some (.one (.clo f ks)))=(d<O.nt/\Z ⟨True,[(d,.one (.l (.bool false)))],[],[]⟩):=rfl
theorem ZBP {x y:Nat} {z:List Value} {ks:List Nat}:nfK O d .neq Z (some ⟨.fn,x,y,z⟩) (some (.one (.clo f ks)))=(d<O.nt/\Z ⟨True,[(d,.one (.l (.bool true)))],[],[]⟩):=rfl
theorem ZBO {x y:Nat} {z:List Value}:nfK O d .eql Z (some ⟨.fn,x,y,z⟩) (some (.one .nf))=(d<O.nt/\Z ⟨True,[(d,.one (.l (.bool true)))],[],[]⟩):=rfl
theorem ZBN {x y:Nat} {z:List Value}:nfK O d .neq Z (some ⟨.fn,x,y,z⟩) (some (.one .nf))=(d<O.nt/\Z ⟨True,[(d,.one (.l (.bool false)))],[],[]⟩):=rfl
theorem Zzd {es es':List (List L)}:ZAN O dst es' Z es [.one (.own τ n)]=ZAO O dst es' Z es τ n (O.ar.lookup τ):=rfl
theorem Zze {es es':List (List L)} {A:Arr}:ZAO O dst es' Z es τ n (some (some A))=(A.es=es/\es.length=n/\dO O.nt dst/\τ<1000000/\Z ⟨True,tmT dst,[],[(τ,some ⟨A.fr,es'⟩)]⟩):=rfl
theorem ZBj:tmT (some d)=[(d,.tup [])]:=rfl
theorem ZBi:tmT none=[]:=rfl
end
attribute [go_sem] Zzx ZCf Zyw Zyv ZAt ZxP ZxR ZxO ZxN ZxJ Zy1 Zy2 ZBQ ZBP ZBO ZBN Zzd Zze ZBj ZBi
end
def St.Zst:List (Nat×Nat)->St->St
 | [],O=>O
 | p::q,O=>St.Zst q (O.ren p.1 p.2)
def ZkQ:List (Nat×Nat)->St->Prop
 | [],_=>True
 | p::q,O=>(match O.ar.lookup p.1 with | some (some _)=>True| _=>False)/\O.ar.lookup p.2=none/\p.1<1000000/\p.2<1000000/\ZkQ q (O.ren p.1 p.2)
theorem ZdD:∀{q:List (Nat×Nat)} {O:St},ZkQ q O->ZaI (St.Zst q O) O
 | [],_,_=>λ_ _ _ _ h=>h
 | p::q,O,⟨j,l,r,s,t⟩=>λN w0 a w z=>ZdD t N w0 a w (Zvc j l r s N w0 a w z)
theorem fr {O j:St} {ι:Type} {S:ι->St} {I:ι->Prop} {K:St->Prop} (hK:∀i O',I i->ZaI (S i) O'->K O') (q:List (Nat×Nat)) (ts ks τs:List Nat) (i:ι) (hi:I i) (e:O.of ts ks τs [] [] []=j:=by simp [go_sem];exact rfl) (l:Ka j O:=by constructor<;>simp [go_sem,F]<;>omega)
  (p:ZkQ q j:=by simp [go_sem,ZkQ]) (h:Ka (S i) (St.Zst q j):=by constructor<;>simp [go_sem,St.Zst,F]<;>omega):K O:=hK i O hi λN w0 a w r=>h.into N w0 a w (ZdD p N w0 a w (l.into N w0 a w r))
theorem Zrc {P:Program} {O:St} {f n:Nat} {dst:Option Nat} {j vs:List V} {r:V} {l:List DV} {E:Bool} {X:Bool->Bool->List DV->Prop} {Z:Eff->Prop} {w t:List (Nat×List CV)} {s p:List (Nat×Option Arr)} (z:List Nat) (α β γ:Nat->Nat) (c:GC P f n j w s r t p) (C:gcK O dst n α β γ j w s r t p Z (ZeP O z vs)):ZbH P f l E X (XBy P O dst f (some vs) Z):=.inr (Zho z α β γ c C)
theorem rr {P:Program} {N:Nat->Prop} {w0:Bs} {Q:Exit->St->Prop} {x:Code} {O j:St} (l:List Nat) (q:List (Nat×Nat)) (ts ks τs:List Nat) (h:AW P N w0 x Q (St.Zst q (l.foldl St.Zek j))) (ch:List (Nat×V):=[]) (cb:List (Nat×List CV):=[]) (ca:List (Nat×Option Arr):=[]) (e:O.of ts ks τs ch cb ca=j:=by simp [go_sem];exact rfl) (p:Ka j O:=by constructor<;>simp [go_sem,F]<;>omega)
  (s:Zcw l j:=by simp [go_sem,Zcw,St.Zek]) (r:ZkQ q (l.foldl St.Zek j):=by simp [go_sem,ZkQ,St.Zek]):AW P N w0 x Q O:=Jk p.into (Jk (ZaY s) (Jk (ZdD r) h))
theorem rn {Q:Exit->St->Prop} {K:St->Prop} {O l:St} (hK:∀O' j,ZaI j O'->Q .normal j->K O') (p:List Nat) (q:List (Nat×Nat)) (ts ks τs:List Nat) (ch:List (Nat×V):=[]) (cb:List (Nat×List CV):=[]) (ca:List (Nat×Option Arr):=[]) (e:O.of ts ks τs ch cb ca=l:=by simp [go_sem];exact rfl) (r:Ka l O:=by constructor<;>simp [go_sem,F]<;>omega)
  (t:Zcw p l:=by simp [go_sem,Zcw,St.Zek]) (s:ZkQ q (p.foldl St.Zek l):=by simp [go_sem,ZkQ,St.Zek]) (h:Q .normal (St.Zst q (p.foldl St.Zek l)):=by simp (maxSteps:=9999999) [go_sem,St.Zst,St.Zek,F]):K O:=hK O _ (λN w0 a w z=>ZdD s N w0 a w (ZaY t N w0 a w (r.into N w0 a w z))) h
theorem ZCO {α:Type} {xs:List α} {i:Int} {x:α} (h:at? xs i=some x):0<=i/\i<(xs.length:Int):=by
 have j:=ZmP h;have l:=(Zaw h).1;omega
theorem ZwR {α:Type} {xs:List α} {i:Int} {v y:α} (h:at? (xs.set i.toNat v) i=some y):v=y:=by
 have j:=(Zaw h).2.1;rw [List.getElem?_set_self'] at j;cases l:xs[i.toNat]? with
 | none=>rw [l] at j;simp at j
 | some z=>rw [l] at j;simpa using j
@[go_sem] theorem ZC6 {α:Type} {l:List α} {i:Nat} {a:α}:(l.set i a)[i]? =(l[i]?).map λ_=>a:=by
 rw [List.getElem?_set_self'];cases l[i]? <;>rfl
class Enc (α:Type) where c:α->List L
instance:Enc Int:=⟨iC⟩
instance:Enc Ma:=⟨sC⟩
instance:Enc Bool:=⟨bC⟩
@[go_sem] theorem ZCi:(Enc.c:Int->List L)=iC:=rfl
@[go_sem] theorem ZCh:(Enc.c:Ma->List L)=sC:=rfl
@[go_sem] theorem ZAY:(Enc.c:Bool->List L)=bC:=rfl
theorem ZDq {α:Type} [Enc α] {xs:List α} {i:Int} {x:α} (h:at? xs i=some x):(xs.map Enc.c)[i.toNat]? =some (Enc.c x)/\∀h,(xs.map Enc.c)[i.toNat]'h=Enc.c x:=by
 refine ⟨by rw [HX,(Zh8 h).2.1];rfl,λk=> ?_⟩;have:=(Zh8 h).2.2.2 (by simpa using k);rw [List.getElem_map,this]
theorem ZDp {α:Type} {xs:List α} {n:Nat} {i:Int} {x:α} (h:at? ((xs.take n).drop (1:Int).toNat) i=some x):xs[i.toNat+1]? =some x/\∀h,xs[i.toNat+1]'h=x:=by
 have j:=(Zh8 h).2.1
 have l:xs[i.toNat+1]? =some x:=by
  rw [show (1:Int).toNat=1 from rfl,GP,Nat.add_comm] at j;rw [Gw] at j
  split at j
  ·exact j
  ·cases j
 exact ⟨l,λk=>(Hh.1 l).2⟩
@[go_sem] theorem ZBn (xs:List Ma):(∀e∈(xs.map sC).tail,e.length=1)↔True:=by
 simp only [iff_true];intro e j;obtain ⟨x,_,rfl⟩:=Hd.1 (List.mem_of_mem_tail j)
 rfl
theorem Zpi {α:Type} {c:α->List L} (hc:∀x,(c x).length=1) (xs:List α) (W:Nat):(∀e∈xs.map c,e.length=W)↔(xs=[]\/W=1):=by
 cases xs with
 | nil=>simp
 | cons x xs=>
  constructor
  ·intro h;exact .inr ((h (c x) Ha).symm.trans (hc x))
  ·rintro (h| rfl)
   ·cases h
   ·intro e j;obtain ⟨b,_,rfl⟩:=Hd.1 j;exact hc b
@[go_sem ↓ high] theorem ZDo (xs:List Bool) (W:Nat):(∀e∈xs.map bC,e.length=W)↔(xs=[]\/W=1):=Zpi (λ_=>rfl) xs W
@[go_sem ↓ high] theorem ZDg (xs:List Int) (W:Nat):(∀e∈xs.map iC,e.length=W)↔(xs=[]\/W=1):=Zpi (λ_=>rfl) xs W
@[go_sem ↓ high] theorem ZC7 (xs:List Ma) (W:Nat):(∀e∈xs.map sC,e.length=W)↔(xs=[]\/W=1):=Zpi (λ_=>rfl) xs W
@[go_sem ↓ high] theorem ZCS (xs ys:List (List L)) (W:Nat):(∀e∈xs++ys,e.length=W)↔(∀e∈xs,e.length=W)/\∀e∈ys,e.length=W:=List.forall_mem_append
@[go_sem ↓ high] theorem ZA1 (x:List L) (ys:List (List L)) (W:Nat):(∀e∈x::ys,e.length=W)↔x.length=W/\∀e∈ys,e.length=W:=List.forall_mem_cons
@[go_sem] theorem ZAH (n:Nat) (es:List (List L)) (h:es.all Zfw=true):(es.drop n).all Zfw=true:=by
 rw [Hj] at h ⊢;exact λx j=>h x (GJ j)
theorem ZwG {α:Type} {xs:List α} {i:Int} {K:Prop} (h:∃x,at? xs i=some x) (k:K):i<(xs.length:Int)/\K:=⟨(ZCO h.choose_spec).2,k⟩
theorem nm {j b c:Prop} (F:j) (h:b) (g:b->c:=by intro h;(try simp [go_sem] at h);exact h):j/\b/\c:=⟨F,h,g h⟩
theorem nf {j b c:Prop} (F:j) (h:b) (g:b->c:=by intro h;(try simp at h);exact h):j/\b/\c:=⟨F,h,g h⟩
theorem au {p:Prop} (h:p:=by
 repeat' (first
  | (obtain ⟨x,e,hM⟩:=bind_some hM
     first
     | (have q:=ZwR e;subst q)
     | (have q:=ZDp e;have F:=ZEJ F (ZEJ q (Zaw e)))
     | (have q:at? (_::_) _=some _:=e;have F:=ZEJ (ZEJ (nm F (ZDq e)) (ZCO e)) (Zaw e))
     | (have q:=Zaw e;have q':=q;simp only [Array.getElem_toList,Array.getElem?_toList,Int.toNat_zero,Int.toNat_one,Int.reduceToNat] at q';have F:=ZEJ F (ZEJ q q'))
     | have F:=ZEJ F (Zaw e)
     | (have q:=nz_spec e;have q':=q;(try simp at q');have F:=ZEJ F (ZEJ q q'))
     | (obtain ⟨c,q⟩:=Vm e;replace c:=c.symm;subst c;(try simp at q);have F:=ZEJ F q)
     | (obtain ⟨c,q⟩:=Zra e;replace c:=c.symm;subst c;(try simp [go_sem] at q);have F:=ZEJ F q)
     | (obtain ⟨c,q⟩:=ZnA e;replace c:=c.symm;subst c;(try simp at q);have F:=ZEJ F q)
     | (obtain ⟨c,q⟩:=Zma e;replace c:=c.symm;subst c;(try simp at q);have F:=ZEJ F q)
     | (obtain ⟨c,q⟩:=cut_spec e;replace c:=c.symm;subst c;(try simp at q);have F:=ZEJ F q)
     | (obtain ⟨c,q⟩:=cpy_spec e;replace c:=c.symm;subst c;(try simp at q);have F:=ZEJ F q)
     | (obtain ⟨c,q⟩:=ZhP e;replace c:=c.symm;subst c;(try simp at q);have F:=ZEJ F q))
  | (refine Zp (λK hK=> ?_);simp (maxSteps:=9999999) [go_sem,F])
  | (obtain rfl:=si hM;refine Zx ?_;simp (maxSteps:=9999999) [go_sem,F];done)
  | (refine Zx ?_;simp (maxSteps:=9999999) [go_sem,F])
  | (refine Y5 ?_)
  | (refine Zv ?_;simp (maxSteps:=9999999) [go_sem,St.Zst,St.Zek,F];done)
  | (refine Zv ?_)
  | (refine Zm1 ?_)
  | (refine Yh hM (λh hM=> ?_) (λh hM=> ?_)<;>(have F:=nf F h)<;>(first | have F:=ZEJ F (lT h)| have F:=ZEJ F (lF h)| have F:=ZEJ F (eT h)| have F:=ZEJ F (eF h)| have F:=ZEJ F (lT (nF h))| have F:=ZEJ F (lF (nT h))| have F:=ZEJ F (eT (nF h))| have F:=ZEJ F (eF (nT h))| skip))
  | (refine gd hM (λh hM=> ?_) (λh hM=> ?_)<;>(have F:=nf F h)<;>(first | have F:=ZEJ F (lT h)| have F:=ZEJ F (lF h)| have F:=ZEJ F (eT h)| have F:=ZEJ F (eF h)| have F:=ZEJ F (lT (nF h))| have F:=ZEJ F (lF (nT h))| have F:=ZEJ F (eT (nF h))| have F:=ZEJ F (eF (nT h))| skip))
  | (refine wt ?_;simp (maxSteps:=9999999) [go_sem,F])
  | (refine ZvZ ?_;simp (maxSteps:=9999999) [go_sem,F])
  | (refine Zou ?_;simp (maxSteps:=9999999) [go_sem,F])
  | (refine Zys ?_;simp (maxSteps:=9999999) [go_sem,F])
  | (refine ZpX ?_;simp (maxSteps:=9999999) [go_sem,F])
  | (refine Zup ?_;simp (maxSteps:=9999999) [go_sem,F])
  | (refine ZpW ?_;simp (maxSteps:=9999999) [go_sem,F])
  | (refine AW_ifT ?_)
  | (refine ZwW ?_)
  | (refine Zr (λK hK=> ?_))
  | (obtain rfl:=si hM;refine Z3 ?_;simp (maxSteps:=9999999) [go_sem,F];done)
  | (refine Z3 ?_;simp (maxSteps:=9999999) [go_sem,St.Zst,St.Zek,F];done)
  | (obtain rfl:=si hM;refine Z3 ?_;simp (maxSteps:=9999999) [go_sem,F];omega)
  | (refine hsq (by assumption) ?_)
  | (refine ⟨WF, ?_⟩)
  | (refine ZwG ⟨_,by assumption⟩ ?_)
  | (obtain rfl:=si hM;simp (maxSteps:=9999999) [go_sem,F];done)
  | (exact fs (by assumption) (by exact si hM))
  | (exact fs (by assumption) (by exact hM))
  | (exact fs2 (by assumption) (by intro a b h;dsimp only;exact h) (by exact hM))
  | (exact fs3 (by assumption) (by intro a b c h;dsimp only;exact h) (by exact hM))
  | (exact fs4 (by assumption) (by intro a b c d h;dsimp only;exact h) (by exact hM))
  | (exact fs5 (by assumption) (by intro a b c d f h;dsimp only;exact h) (by exact hM))
  | (exact fs6 (by assumption) (by intro a b c d f g h;dsimp only;exact h) (by exact hM))
  | (exact fs7 (by assumption) (by intro a b c d f g u h;dsimp only;exact h) (by exact hM))
  | (exact fs8 (by assumption) (by intro a b c d f g u v h;dsimp only;exact h) (by exact hM))
  | (exact fs9 (by assumption) (by intro a b c d f g u v x h;dsimp only;exact h) (by exact hM))
  | (exact fs10 (by assumption) (by intro a b c d f g u v x y h;dsimp only;exact h) (by exact hM))
  | (obtain ⟨x,ec,hM⟩:=bind_some hM
     first
     | refine qI ec ?_
     | refine qP ec ?_
     | refine qS ec ?_
     | refine qZ ec ?_
     | refine qT ec ?_
     | refine qU ec ?_
     | refine qM ec ?_
     | refine qQ ec ?_
     | refine qR ec ?_
     | (first | have F:=ZEJ F (ZcP ec)| have F:=ZEJ F (Zae ec)
        refine qV ec ?_)
     | refine qK ec ?_)
  | (obtain rfl:=si hM;(first | (have hM:=hR4;clear hR4)| (have hM:=hR3;clear hR3)| (have hM:=hR2;clear hR2)| (have hM:=hR1;clear hR1));dsimp only at hM))):p:=h
def cm:Code->Option Nat->Nat
 | .region _ l _,none=>if l.toList.any (λo=>o.guard.isSome) then 2 else 1
 | .skip,none=>1
 | .exit i,some j=>if i=j then 1 else 0
 | .seq a b,none=>if cm a none=0 then 0 else cm b none
 | .seq a b,some j=>cm a (some j)+if cm a none=0 then 0 else cm b (some j)
 | .cond _ a b,e=>cm a e+cm b e
 | .block i a,none=>cm a none+cm a (some i)
 | .block i a,some j=>if i=j then 0 else cm a (some j)
 | .loop a,some j=>if cm a (some j)=0 then 0 else 2
 | _,_=>0
inductive HT:Type 1
 | e
 | i (A B:HT)
 | j {ι:Type} (fz ts ks τs:List Nat) (ch:ι->List (Nat×V)) (cb:ι->List (Nat×List CV)) (ca:ι->List (Nat×Option Arr)) (A B:HT)
 | J {ι:Type} (fz ts ks τs:List Nat) (ch:ι->List (Nat×V)) (cb:ι->List (Nat×List CV)) (ca:ι->List (Nat×Option Arr)) (A B:HT)
 | l (n:Nat) {ι:Type} {p q:Prop} (h0:p) (h1:q) (fz ts ks τs:List Nat) (ch:ι->List (Nat×V)) (cb:ι->List (Nat×List CV)) (ca:ι->List (Nat×Option Arr)) (A:HT)
 | f (id:Nat) (ts ks τs:List Nat) (ch:List (Nat×V)) (cb:List (Nat×List CV)) (ca:List (Nat×Option Arr)) (A:HT)
 | p (id:Nat) (fz ts ks τs:List Nat) (A:HT)
 | t (th:List Nat) (A:HT)
 | q (n:Nat) (A:HT)
 | o (D:List (List Nat)) (A:HT)
 | r (th:List Nat) (q:List (Nat×Nat)) (ts ks τs:List Nat)
 | R (th:List Nat) (q:List (Nat×Nat)) (ts ks τs:List Nat) (ch:List (Nat×V)) (cb:List (Nat×List CV)) (ca:List (Nat×Option Arr))
def plA (τ n:Nat):Option (Option Arr)->CV
 | some (some A)=>.l (.sl A.es)
 | _=>.own τ n
def plC (O:St) (fz:List Nat):CV->CV
 | .own τ n=>if fz.contains τ then plA τ n (O.ar.lookup τ) else .own τ n
 | c=>c
def plZ (O:St) (fz:List Nat):List CV->List CV->List CV
 | o::l,.any::j=>plC O fz o::plZ O fz l j
 | _::l,n::j=>plC O fz n::plZ O fz l j
 | _,j=>j.map (plC O fz)
def plB (O:St) (fz:List Nat) (j:List CV):Option (List CV)->List CV
 | some l=>plZ O fz l j
 | none=>j.map (plC O fz)
def plT (O:St) (fz:List Nat):V->Option V->V
 | .one c,_=>.one (plC O fz c)
 | .agg j,some (.agg l)=>.agg (plZ O fz l j)
 | .agg j,_=>.agg (j.map (plC O fz))
 | .tup r,_=>.tup (r.map λp=>(p.1,p.2.map (plC O fz)))
 | .dead,_=>.dead
def St.pl (O j:St):List Nat->St
 | []=>O
 | f::fz=>⟨O.nt,O.tm.map (λp=>(p.1,plT j (f::fz) p.2 (j.tm.lookup p.1))),O.bx.map (λp=>(p.1,plB j (f::fz) p.2 (j.bx.lookup p.1))),O.ar⟩
inductive Ht:HT->Prop
 | mk (h:HT):Ht h
def kd:HT->Nat
 | .e=>0| .i .. =>1| .j .. =>2| .J .. =>3| .f .. =>4| .p .. =>5| .t .. =>6| .q .. =>7| .o .. =>8| .r .. =>9| .R .. =>10| .l n .. =>20+n
theorem kn {h:HT} {p:Prop} (H:Ht h) (e:Nat.blt 0 (kd h)=true) (k:p):p:=k
theorem kq (n:Nat) {h:HT} {p:Prop} (H:Ht h) (e:kd h=n) (k:p):p:=k
section
variable {ι:Type} (ts ks τs:List Nat)
abbrev hj (ch:ι->List (Nat×V)) (A:HT:=.e) (B:HT:=.e) (ca:ι->List (Nat×Option Arr):=λ_=>[]) (cb:ι->List (Nat×List CV):=λ_=>[]):HT:=.j [] ts ks τs ch cb ca A B
abbrev hJ (ch:ι->List (Nat×V)) (A:HT:=.e) (B:HT:=.e) (ca:ι->List (Nat×Option Arr):=λ_=>[]) (cb:ι->List (Nat×List CV):=λ_=>[]):HT:=.J [] ts ks τs ch cb ca A B
abbrev hU (A:HT:=.e) (B:HT:=.e):HT:=.J (ι:=Unit) [] ts ks τs (λ_=>[]) (λ_=>[]) (λ_=>[]) A B
abbrev hl (n:Nat) {p q:Prop} (j:p) (l:q) (ch:ι->List (Nat×V)) (A:HT:=.e) (ca:ι->List (Nat×Option Arr):=λ_=>[]) (cb:ι->List (Nat×List CV):=λ_=>[]):HT:=.l n j l [] ts ks τs ch cb ca A
abbrev hjz (fz:List Nat) (ch:ι->List (Nat×V)) (A:HT:=.e) (B:HT:=.e) (ca:ι->List (Nat×Option Arr):=λ_=>[]) (cb:ι->List (Nat×List CV):=λ_=>[]):HT:=.j fz ts ks τs ch cb ca A B
abbrev hJz (fz:List Nat) (ch:ι->List (Nat×V)) (A:HT:=.e) (B:HT:=.e) (ca:ι->List (Nat×Option Arr):=λ_=>[]) (cb:ι->List (Nat×List CV):=λ_=>[]):HT:=.J fz ts ks τs ch cb ca A B
abbrev hlz (fz:List Nat) (n:Nat) {p q:Prop} (j:p) (l:q) (ch:ι->List (Nat×V)) (A:HT:=.e) (ca:ι->List (Nat×Option Arr):=λ_=>[]) (cb:ι->List (Nat×List CV):=λ_=>[]):HT:=.l n j l fz ts ks τs ch cb ca A
abbrev hf (id:Nat) (A:HT:=.e) (ch:List (Nat×V):=[]) (ca:List (Nat×Option Arr):=[]) (cb:List (Nat×List CV):=[]):HT:=.f id ts ks τs ch cb ca A
abbrev hp (id:Nat) (fz:List Nat) (A:HT:=.e):HT:=.p id fz ts ks τs A
abbrev hR (j:List Nat) (q:List (Nat×Nat)) (ch:List (Nat×V):=[]) (ca:List (Nat×Option Arr):=[]) (cb:List (Nat×List CV):=[]):HT:=.R j q ts ks τs ch cb ca
end
abbrev hth (j:List Nat) (A:HT:=.e):HT:=.t j A
abbrev hq (n:Nat) (A:HT:=.e):HT:=.q n A
abbrev ho (D:List (List Nat)) (A:HT:=.e):HT:=.o D A
section
variable {P:Program} {N:Nat->Prop} {w0:Bs} {Q:Exit->St->Prop} {x y:Code} {O O':St} {K:St->Prop} {ι ρ α β γ δ ε ζ η θ κ μ:Type} {fz ts ks τs:List Nat} {ch:ι->List (Nat×V)} {cb:ι->List (Nat×List CV)} {ca:ι->List (Nat×Option Arr)} {A B:HT} {S:ι->St}
theorem jG (H:Ht (.j fz ts ks τs ch cb ca A B)) (hc:Nat.ble 2 (cm x none)=true) (h:AW P N w0 (.seq x y) Q O):AW P N w0 (.seq x y) Q O:=h
theorem JG (H:Ht (.J fz ts ks τs ch cb ca A B)) (hc:Nat.ble 2 (cm x none)=true) (h:AW P N w0 (.seq x y) Q O):AW P N w0 (.seq x y) Q O:=h
theorem jH {m:Option ι} {g:ι->Option ρ} {r:ρ} (H:Ht (.j fz ts ks τs ch cb ca A B)) (hM:m.bind g=some r) (s:∀e,m=some e->Ht A->∀K:St->Prop,(∀i O',i=e->ZaI (S i) O'->K O')->AW P N w0 x (Zax K Q) O) (t:∀i,g i=some r->Ht B->AW P N w0 y Q (S i)) (e:∀i,(O.of ts ks τs (ch i) (cb i) (ca i)).pl O fz=S i:=by intro i;simp [go_sem,St.pl,plT,plB,plZ,plC,plA];exact rfl):AW P N w0 (.seq x y) Q O:=
 let ⟨v,j,l⟩:=bind_some hM
 KZ S (λi=>i=v) (s v j (.mk _)) (λi p=>t i (p▸l) (.mk _))
theorem JH {m:Option (ι ⊕ α)} {g:ι ⊕ α->Option ρ} {r:ρ} (H:Ht (.J fz ts ks τs ch cb ca A B)) (hM:m.bind g=some r) (s:∀e,m=some e->g e=some r->Ht A->∀K:St->Prop,(∀i O',.inl i=e->ZaI (S i) O'->K O')->AW P N w0 x (Zax K Q) O) (t:∀i,g (.inl i)=some r->Ht B->AW P N w0 y Q (S i)) (e:∀i,(O.of ts ks τs (ch i) (cb i) (ca i)).pl O fz=S i:=by intro i;simp [go_sem,St.pl,plT,plB,plZ,plC,plA];exact rfl):AW P N w0 (.seq x y) Q O:=
 let ⟨v,l,j⟩:=bind_some hM
 KZ S (λi=>.inl i=v) (s v l j (.mk _)) (λi p=>t i (by rw [p];exact j) (.mk _))
theorem iH {b:Bool} {C D r:ρ} {o:Operand} (H:Ht (.i A B)) (hM:(if b=true then C else D)=r) (j:b=true->C=r->Ht A->AW P N w0 x Q O) (hf:b=false->D=r->Ht B->AW P N w0 y Q O) (ho:opd O o=some (.one (.l (.bool b))):=by simp [go_sem,F]):AW P N w0 (.cond o x y) Q O:=
 Yh hM (λa b=>j a b (.mk _)) (λa b=>hf a b (.mk _)) ho
theorem l0 {w:Nat} {p q:Prop} {j:p} {l:q} {ch:Unit->List (Nat×V)} {cb:Unit->List (Nat×List CV)} {ca:Unit->List (Nat×Option Arr)} {f:Nat->Option ρ} {k:Nat} {e:ρ} {S:Unit->St} (H:Ht (.l w j l fz ts ks τs ch cb ca A)) (hM:f k=some e) (r:∀(KL:St->Prop) (n:Nat),(∀i O',f n=some e->ZaI (S i) O'->KL O')->f (n+1)=some e->Ht A->q->AW P N w0 x (Zax KL Q) (S ())) (t:p->∀(_:Unit),¬f 0=some e:=by intro h;intros;simp [h]) (g:∀i,(O.of ts ks τs (ch i) (cb i) (ca i)).pl O fz=S i:=by intro i;simp [go_sem,St.pl,plT,plB,plZ,plC,plA];exact rfl) (s:Ka (S ()) O:=by constructor<;>simp [go_sem,F]<;>omega):AW P N w0 (.loop x) Q O:=
 ZkC S (λn i=>f n=some e) k () hM s.into (λi=>t j i) λKL n i hL hM=>r KL n hL hM (.mk _) l
theorem l1 {w:Nat} {p q:Prop} {j:p} {l:q} {ch:α->List (Nat×V)} {cb:α->List (Nat×List CV)} {ca:α->List (Nat×Option Arr)} {f:Nat->α->Option ρ} {k:Nat} {a0:α} {e:ρ} {S:α->St} (H:Ht (.l w j l fz ts ks τs ch cb ca A)) (hM:f k a0=some e) (r:∀(KL:St->Prop) (n:Nat) (a0:α),(∀i O',f n i=some e->ZaI (S i) O'->KL O')->f (n+1) a0=some e->Ht A->q->AW P N w0 x (Zax KL Q) (S a0)) (t:p->∀(a0:α),¬f 0 a0=some e:=by intro h;intros;simp [h]) (g:∀i,(O.of ts ks τs (ch i) (cb i) (ca i)).pl O fz=S i:=by intro i;simp [go_sem,St.pl,plT,plB,plZ,plC,plA];exact rfl) (s:Ka (S a0) O:=by constructor<;>simp [go_sem,F]<;>omega):AW P N w0 (.loop x) Q O:=
 ZkC S (λn i=>f n i=some e) k a0 hM s.into (λi=>t j i) λKL n i hL hM=>r KL n i hL hM (.mk _) l
theorem l2 {w:Nat} {p q:Prop} {j:p} {l:q} {ch:α×β->List (Nat×V)} {cb:α×β->List (Nat×List CV)} {ca:α×β->List (Nat×Option Arr)} {f:Nat->α->β->Option ρ} {k:Nat} {a0:α} {a1:β} {e:ρ} {S:α×β->St} (H:Ht (.l w j l fz ts ks τs ch cb ca A)) (hM:f k a0 a1=some e) (r:∀(KL:St->Prop) (n:Nat) (a0:α) (a1:β),(∀i O',f n i.1 i.2=some e->ZaI (S i) O'->KL O')->f (n+1) a0 a1=some e->Ht A->q->AW P N w0 x (Zax KL Q) (S (a0,a1))) (t:p->∀(a0:α) (a1:β),¬f 0 a0 a1=some e:=by intro h;intros;simp [h]) (g:∀i,(O.of ts ks τs (ch i) (cb i) (ca i)).pl O fz=S i:=by intro i;simp [go_sem,St.pl,plT,plB,plZ,plC,plA];exact rfl) (s:Ka (S (a0,a1)) O:=by constructor<;>simp [go_sem,F]<;>omega):AW P N w0 (.loop x) Q O:=
 ZkC S (λn i=>f n i.1 i.2=some e) k (a0,a1) hM s.into (λi=>t j i.1 i.2) λKL n i hL hM=>r KL n i.1 i.2 hL hM (.mk _) l
theorem l3 {w:Nat} {p q:Prop} {j:p} {l:q} {ch:α×β×γ->List (Nat×V)} {cb:α×β×γ->List (Nat×List CV)} {ca:α×β×γ->List (Nat×Option Arr)} {f:Nat->α->β->γ->Option ρ} {k:Nat} {a0:α} {a1:β} {a2:γ} {e:ρ} {S:α×β×γ->St} (H:Ht (.l w j l fz ts ks τs ch cb ca A)) (hM:f k a0 a1 a2=some e) (r:∀(KL:St->Prop) (n:Nat) (a0:α) (a1:β) (a2:γ),(∀i O',f n i.1 i.2.1 i.2.2=some e->ZaI (S i) O'->KL O')->f (n+1) a0 a1 a2=some e->Ht A->q->AW P N w0 x (Zax KL Q) (S (a0,a1,a2))) (t:p->∀(a0:α) (a1:β) (a2:γ),¬f 0 a0 a1 a2=some e:=by intro h;intros;simp [h]) (g:∀i,(O.of ts ks τs (ch i) (cb i) (ca i)).pl O fz=S i:=by intro i;simp [go_sem,St.pl,plT,plB,plZ,plC,plA];exact rfl) (s:Ka (S (a0,a1,a2)) O:=by constructor<;>simp [go_sem,F]<;>omega):AW P N w0 (.loop x) Q O:=
 ZkC S (λn i=>f n i.1 i.2.1 i.2.2=some e) k (a0,a1,a2) hM s.into (λi=>t j i.1 i.2.1 i.2.2) λKL n i hL hM=>r KL n i.1 i.2.1 i.2.2 hL hM (.mk _) l
theorem l4 {w:Nat} {p q:Prop} {j:p} {l:q} {ch:α×β×γ×δ->List (Nat×V)} {cb:α×β×γ×δ->List (Nat×List CV)} {ca:α×β×γ×δ->List (Nat×Option Arr)} {f:Nat->α->β->γ->δ->Option ρ} {k:Nat} {a0:α} {a1:β} {a2:γ} {a3:δ} {e:ρ} {S:α×β×γ×δ->St} (H:Ht (.l w j l fz ts ks τs ch cb ca A)) (hM:f k a0 a1 a2 a3=some e) (r:∀(KL:St->Prop) (n:Nat) (a0:α) (a1:β) (a2:γ) (a3:δ),(∀i O',f n i.1 i.2.1 i.2.2.1 i.2.2.2=some e->ZaI (S i) O'->KL O')->f (n+1) a0 a1 a2 a3=some e->Ht A->q->AW P N w0 x (Zax KL Q) (S (a0,a1,a2,a3))) (t:p->∀(a0:α) (a1:β) (a2:γ) (a3:δ),¬f 0 a0 a1 a2 a3=some e:=by intro h;intros;simp [h]) (g:∀i,(O.of ts ks τs (ch i) (cb i) (ca i)).pl O fz=S i:=by intro i;simp [go_sem,St.pl,plT,plB,plZ,plC,plA];exact rfl) (s:Ka (S (a0,a1,a2,a3)) O:=by constructor<;>simp [go_sem,F]<;>omega):AW P N w0 (.loop x) Q O:=
 ZkC S (λn i=>f n i.1 i.2.1 i.2.2.1 i.2.2.2=some e) k (a0,a1,a2,a3) hM s.into (λi=>t j i.1 i.2.1 i.2.2.1 i.2.2.2) λKL n i hL hM=>r KL n i.1 i.2.1 i.2.2.1 i.2.2.2 hL hM (.mk _) l
theorem l5 {w:Nat} {p q:Prop} {j:p} {l:q} {ch:α×β×γ×δ×ε->List (Nat×V)} {cb:α×β×γ×δ×ε->List (Nat×List CV)} {ca:α×β×γ×δ×ε->List (Nat×Option Arr)} {f:Nat->α->β->γ->δ->ε->Option ρ} {k:Nat} {a0:α} {a1:β} {a2:γ} {a3:δ} {a4:ε} {e:ρ} {S:α×β×γ×δ×ε->St} (H:Ht (.l w j l fz ts ks τs ch cb ca A)) (hM:f k a0 a1 a2 a3 a4=some e) (r:∀(KL:St->Prop) (n:Nat) (a0:α) (a1:β) (a2:γ) (a3:δ) (a4:ε),(∀i O',f n i.1 i.2.1 i.2.2.1 i.2.2.2.1 i.2.2.2.2=some e->ZaI (S i) O'->KL O')->f (n+1) a0 a1 a2 a3 a4=some e->Ht A->q->AW P N w0 x (Zax KL Q) (S (a0,a1,a2,a3,a4))) (t:p->∀(a0:α) (a1:β) (a2:γ) (a3:δ) (a4:ε),¬f 0 a0 a1 a2 a3 a4=some e:=by intro h;intros;simp [h]) (g:∀i,(O.of ts ks τs (ch i) (cb i) (ca i)).pl O fz=S i:=by intro i;simp [go_sem,St.pl,plT,plB,plZ,plC,plA];exact rfl) (s:Ka (S (a0,a1,a2,a3,a4)) O:=by constructor<;>simp [go_sem,F]<;>omega):AW P N w0 (.loop x) Q O:=
 ZkC S (λn i=>f n i.1 i.2.1 i.2.2.1 i.2.2.2.1 i.2.2.2.2=some e) k (a0,a1,a2,a3,a4) hM s.into (λi=>t j i.1 i.2.1 i.2.2.1 i.2.2.2.1 i.2.2.2.2) λKL n i hL hM=>r KL n i.1 i.2.1 i.2.2.1 i.2.2.2.1 i.2.2.2.2 hL hM (.mk _) l
theorem l6 {w:Nat} {p q:Prop} {j:p} {l:q} {ch:α×β×γ×δ×ε×ζ->List (Nat×V)} {cb:α×β×γ×δ×ε×ζ->List (Nat×List CV)} {ca:α×β×γ×δ×ε×ζ->List (Nat×Option Arr)} {f:Nat->α->β->γ->δ->ε->ζ->Option ρ} {k:Nat} {a0:α} {a1:β} {a2:γ} {a3:δ} {a4:ε} {a5:ζ} {e:ρ} {S:α×β×γ×δ×ε×ζ->St} (H:Ht (.l w j l fz ts ks τs ch cb ca A)) (hM:f k a0 a1 a2 a3 a4 a5=some e) (r:∀(KL:St->Prop) (n:Nat) (a0:α) (a1:β) (a2:γ) (a3:δ) (a4:ε) (a5:ζ),(∀i O',f n i.1 i.2.1 i.2.2.1 i.2.2.2.1 i.2.2.2.2.1 i.2.2.2.2.2=some e->ZaI (S i) O'->KL O')->f (n+1) a0 a1 a2 a3 a4 a5=some e->Ht A->q->AW P N w0 x (Zax KL Q) (S (a0,a1,a2,a3,a4,a5))) (t:p->∀(a0:α) (a1:β) (a2:γ) (a3:δ) (a4:ε) (a5:ζ),¬f 0 a0 a1 a2 a3 a4 a5=some e:=by intro h;intros;simp [h]) (g:∀i,(O.of ts ks τs (ch i) (cb i) (ca i)).pl O fz=S i:=by intro i;simp [go_sem,St.pl,plT,plB,plZ,plC,plA];exact rfl) (s:Ka (S (a0,a1,a2,a3,a4,a5)) O:=by constructor<;>simp [go_sem,F]<;>omega):AW P N w0 (.loop x) Q O:=
 ZkC S (λn i=>f n i.1 i.2.1 i.2.2.1 i.2.2.2.1 i.2.2.2.2.1 i.2.2.2.2.2=some e) k (a0,a1,a2,a3,a4,a5) hM s.into (λi=>t j i.1 i.2.1 i.2.2.1 i.2.2.2.1 i.2.2.2.2.1 i.2.2.2.2.2) λKL n i hL hM=>r KL n i.1 i.2.1 i.2.2.1 i.2.2.2.1 i.2.2.2.2.1 i.2.2.2.2.2 hL hM (.mk _) l
theorem l7 {w:Nat} {p q:Prop} {j:p} {l:q} {ch:α×β×γ×δ×ε×ζ×η->List (Nat×V)} {cb:α×β×γ×δ×ε×ζ×η->List (Nat×List CV)} {ca:α×β×γ×δ×ε×ζ×η->List (Nat×Option Arr)} {f:Nat->α->β->γ->δ->ε->ζ->η->Option ρ} {k:Nat} {a0:α} {a1:β} {a2:γ} {a3:δ} {a4:ε} {a5:ζ} {a6:η} {e:ρ} {S:α×β×γ×δ×ε×ζ×η->St} (H:Ht (.l w j l fz ts ks τs ch cb ca A)) (hM:f k a0 a1 a2 a3 a4 a5 a6=some e) (r:∀(KL:St->Prop) (n:Nat) (a0:α) (a1:β) (a2:γ) (a3:δ) (a4:ε) (a5:ζ) (a6:η),(∀i O',f n i.1 i.2.1 i.2.2.1 i.2.2.2.1 i.2.2.2.2.1 i.2.2.2.2.2.1 i.2.2.2.2.2.2=some e->ZaI (S i) O'->KL O')->f (n+1) a0 a1 a2 a3 a4 a5 a6=some e->Ht A->q->AW P N w0 x (Zax KL Q) (S (a0,a1,a2,a3,a4,a5,a6))) (t:p->∀(a0:α) (a1:β) (a2:γ) (a3:δ) (a4:ε) (a5:ζ) (a6:η),¬f 0 a0 a1 a2 a3 a4 a5 a6=some e:=by intro h;intros;simp [h]) (g:∀i,(O.of ts ks τs (ch i) (cb i) (ca i)).pl O fz=S i:=by intro i;simp [go_sem,St.pl,plT,plB,plZ,plC,plA];exact rfl) (s:Ka (S (a0,a1,a2,a3,a4,a5,a6)) O:=by constructor<;>simp [go_sem,F]<;>omega):AW P N w0 (.loop x) Q O:=
 ZkC S (λn i=>f n i.1 i.2.1 i.2.2.1 i.2.2.2.1 i.2.2.2.2.1 i.2.2.2.2.2.1 i.2.2.2.2.2.2=some e) k (a0,a1,a2,a3,a4,a5,a6) hM s.into (λi=>t j i.1 i.2.1 i.2.2.1 i.2.2.2.1 i.2.2.2.2.1 i.2.2.2.2.2.1 i.2.2.2.2.2.2) λKL n i hL hM=>r KL n i.1 i.2.1 i.2.2.1 i.2.2.2.1 i.2.2.2.2.1 i.2.2.2.2.2.1 i.2.2.2.2.2.2 hL hM (.mk _) l
theorem l8 {w:Nat} {p q:Prop} {j:p} {l:q} {ch:α×β×γ×δ×ε×ζ×η×θ->List (Nat×V)} {cb:α×β×γ×δ×ε×ζ×η×θ->List (Nat×List CV)} {ca:α×β×γ×δ×ε×ζ×η×θ->List (Nat×Option Arr)} {f:Nat->α->β->γ->δ->ε->ζ->η->θ->Option ρ} {k:Nat} {a0:α} {a1:β} {a2:γ} {a3:δ} {a4:ε} {a5:ζ} {a6:η} {a7:θ} {e:ρ} {S:α×β×γ×δ×ε×ζ×η×θ->St} (H:Ht (.l w j l fz ts ks τs ch cb ca A)) (hM:f k a0 a1 a2 a3 a4 a5 a6 a7=some e) (r:∀(KL:St->Prop) (n:Nat) (a0:α) (a1:β) (a2:γ) (a3:δ) (a4:ε) (a5:ζ) (a6:η) (a7:θ),(∀i O',f n i.1 i.2.1 i.2.2.1 i.2.2.2.1 i.2.2.2.2.1 i.2.2.2.2.2.1 i.2.2.2.2.2.2.1 i.2.2.2.2.2.2.2=some e->ZaI (S i) O'->KL O')->f (n+1) a0 a1 a2 a3 a4 a5 a6 a7=some e->Ht A->q->AW P N w0 x (Zax KL Q) (S (a0,a1,a2,a3,a4,a5,a6,a7))) (t:p->∀(a0:α) (a1:β) (a2:γ) (a3:δ) (a4:ε) (a5:ζ) (a6:η) (a7:θ),¬f 0 a0 a1 a2 a3 a4 a5 a6 a7=some e:=by intro h;intros;simp [h]) (g:∀i,(O.of ts ks τs (ch i) (cb i) (ca i)).pl O fz=S i:=by intro i;simp [go_sem,St.pl,plT,plB,plZ,plC,plA];exact rfl) (s:Ka (S (a0,a1,a2,a3,a4,a5,a6,a7)) O:=by constructor<;>simp [go_sem,F]<;>omega):AW P N w0 (.loop x) Q O:=
 ZkC S (λn i=>f n i.1 i.2.1 i.2.2.1 i.2.2.2.1 i.2.2.2.2.1 i.2.2.2.2.2.1 i.2.2.2.2.2.2.1 i.2.2.2.2.2.2.2=some e) k (a0,a1,a2,a3,a4,a5,a6,a7) hM s.into (λi=>t j i.1 i.2.1 i.2.2.1 i.2.2.2.1 i.2.2.2.2.1 i.2.2.2.2.2.1 i.2.2.2.2.2.2.1 i.2.2.2.2.2.2.2) λKL n i hL hM=>r KL n i.1 i.2.1 i.2.2.1 i.2.2.2.1 i.2.2.2.2.1 i.2.2.2.2.2.1 i.2.2.2.2.2.2.1 i.2.2.2.2.2.2.2 hL hM (.mk _) l
theorem l9 {w:Nat} {p q:Prop} {j:p} {l:q} {ch:α×β×γ×δ×ε×ζ×η×θ×κ->List (Nat×V)} {cb:α×β×γ×δ×ε×ζ×η×θ×κ->List (Nat×List CV)} {ca:α×β×γ×δ×ε×ζ×η×θ×κ->List (Nat×Option Arr)} {f:Nat->α->β->γ->δ->ε->ζ->η->θ->κ->Option ρ} {k:Nat} {a0:α} {a1:β} {a2:γ} {a3:δ} {a4:ε} {a5:ζ} {a6:η} {a7:θ} {a8:κ} {e:ρ} {S:α×β×γ×δ×ε×ζ×η×θ×κ->St} (H:Ht (.l w j l fz ts ks τs ch cb ca A)) (hM:f k a0 a1 a2 a3 a4 a5 a6 a7 a8=some e) (r:∀(KL:St->Prop) (n:Nat) (a0:α) (a1:β) (a2:γ) (a3:δ) (a4:ε) (a5:ζ) (a6:η) (a7:θ) (a8:κ),(∀i O',f n i.1 i.2.1 i.2.2.1 i.2.2.2.1 i.2.2.2.2.1 i.2.2.2.2.2.1 i.2.2.2.2.2.2.1 i.2.2.2.2.2.2.2.1 i.2.2.2.2.2.2.2.2=some e->ZaI (S i) O'->KL O')->f (n+1) a0 a1 a2 a3 a4 a5 a6 a7 a8=some e->Ht A->q->AW P N w0 x (Zax KL Q) (S (a0,a1,a2,a3,a4,a5,a6,a7,a8))) (t:p->∀(a0:α) (a1:β) (a2:γ) (a3:δ) (a4:ε) (a5:ζ) (a6:η) (a7:θ) (a8:κ),¬f 0 a0 a1 a2 a3 a4 a5 a6 a7 a8=some e:=by intro h;intros;simp [h]) (g:∀i,(O.of ts ks τs (ch i) (cb i) (ca i)).pl O fz=S i:=by intro i;simp [go_sem,St.pl,plT,plB,plZ,plC,plA];exact rfl) (s:Ka (S (a0,a1,a2,a3,a4,a5,a6,a7,a8)) O:=by constructor<;>simp [go_sem,F]<;>omega):AW P N w0 (.loop x) Q O:=
 ZkC S (λn i=>f n i.1 i.2.1 i.2.2.1 i.2.2.2.1 i.2.2.2.2.1 i.2.2.2.2.2.1 i.2.2.2.2.2.2.1 i.2.2.2.2.2.2.2.1 i.2.2.2.2.2.2.2.2=some e) k (a0,a1,a2,a3,a4,a5,a6,a7,a8) hM s.into (λi=>t j i.1 i.2.1 i.2.2.1 i.2.2.2.1 i.2.2.2.2.1 i.2.2.2.2.2.1 i.2.2.2.2.2.2.1 i.2.2.2.2.2.2.2.1 i.2.2.2.2.2.2.2.2) λKL n i hL hM=>r KL n i.1 i.2.1 i.2.2.1 i.2.2.2.1 i.2.2.2.2.1 i.2.2.2.2.2.1 i.2.2.2.2.2.2.1 i.2.2.2.2.2.2.2.1 i.2.2.2.2.2.2.2.2 hL hM (.mk _) l
theorem fH1 {id:Nat} {l:List Oper} {d:Bool} {ch:List (Nat×V)} {cb:List (Nat×List CV)} {ca:List (Nat×Option Arr)} (H:Ht (.f id ts ks τs ch cb ca A)) (h:Ht A->AW P N w0 (.seq (.region id l.toArray d) y) Q O') (e:O.of ts ks τs ch cb ca=O':=by simp [go_sem];exact rfl) (k:Ka O' O:=by constructor<;>simp [go_sem,F]<;>omega):AW P N w0 (.seq (.region id l.toArray d) y) Q O:=le1 ts ks τs (h (.mk _)) ch cb ca e k
theorem fH2 {id:Nat} {l:List Oper} {d:Bool} {ch:List (Nat×V)} {cb:List (Nat×List CV)} {ca:List (Nat×Option Arr)} (H:Ht (.f id ts ks τs ch cb ca A)) (h:Ht A->AW P N w0 (.region id l.toArray d) Q O') (e:O.of ts ks τs ch cb ca=O':=by simp [go_sem];exact rfl) (k:Ka O' O:=by constructor<;>simp [go_sem,F]<;>omega):AW P N w0 (.region id l.toArray d) Q O:=le1 ts ks τs (h (.mk _)) ch cb ca e k
theorem pH1 {id:Nat} {fz:List Nat} {l:List Oper} {d:Bool} (H:Ht (.p id fz ts ks τs A)) (h:Ht A->AW P N w0 (.seq (.region id l.toArray d) y) Q O') (e:(O.of ts ks τs [] [] []).pl O fz=O':=by simp [go_sem,St.pl,plT,plB,plZ,plC,plA];exact rfl) (k:Ka O' O:=by constructor<;>simp [go_sem,F]<;>omega):AW P N w0 (.seq (.region id l.toArray d) y) Q O:=Jk k.into (h (.mk _))
theorem pH2 {id:Nat} {fz:List Nat} {l:List Oper} {d:Bool} (H:Ht (.p id fz ts ks τs A)) (h:Ht A->AW P N w0 (.region id l.toArray d) Q O') (e:(O.of ts ks τs [] [] []).pl O fz=O':=by simp [go_sem,St.pl,plT,plB,plZ,plC,plA];exact rfl) (k:Ka O' O:=by constructor<;>simp [go_sem,F]<;>omega):AW P N w0 (.region id l.toArray d) Q O:=Jk k.into (h (.mk _))
theorem pH3 {id:Nat} {fz:List Nat} (H:Ht (.p id fz ts ks τs A)) (h:Ht A->AW P N w0 .ret Q O') (e:(O.of ts ks τs [] [] []).pl O fz=O':=by simp [go_sem,St.pl,plT,plB,plZ,plC,plA];exact rfl) (k:Ka O' O:=by constructor<;>simp [go_sem,F]<;>omega):AW P N w0 .ret Q O:=Jk k.into (h (.mk _))
theorem tH {j:List Nat} (H:Ht (.t j A)) (h:Ht A->AW P N w0 (.loop x) Q O') (l:Zcw j O:=by simp [go_sem,Zcw,St.Zek]) (e:j.foldl St.Zek O=O':=by simp [go_sem,St.Zek];exact rfl):AW P N w0 (.loop x) Q O:=Jk (ZaY l) (by rw [e];exact h (.mk _))
theorem qH {id n:Nat} {l:List Oper} (H:Ht (.q n A)) (hm:P.follows .mixedOrders=true) (hd:ZcI l (Zkl l)=true) (hl:ZtF l (Zkl l) n=true)
  (h:Ht A->Z9 P l.toArray (l.take n) O (λj=>j.bx.length=O.bx.length/\j.ar.length=O.ar.length/\Zke O (l.take n)/\Z9 P l.toArray (l.drop n) j (λO'=>Q .normal O'))) (p:(Zkl l).all (λd=>d.all λk=>decide (k<1000000))=true:=by kernel_rfl):AW P N w0 (.region id l.toArray true) Q O:=QL n hm hd hl (h (.mk _)) p
theorem oH {id:Nat} {D:List (List Nat)} {l:List Oper} (H:Ht (.o D A)) (hm:P.follows .mixedOrders=true) (hd:ZcI l D=true) (h:Ht A->Zfi P l.toArray O (λO'=>Q .normal O') D D l 0 []):AW P N w0 (.region id l.toArray true) Q O:=KY D hm hd (h (.mk _))
theorem rH {p:List Nat} {q:List (Nat×Nat)} {I:ι->Prop} {l:St} (H:Ht (.r p q ts ks τs)) (hK:∀i O',I i->ZaI (S i) O'->K O') (h:Ht .e->∀s:St->Prop,(∀i O',I i->ZaI (S i) O'->s O')->s (St.Zst q (p.foldl St.Zek l))) (e:O.of ts ks τs [] [] []=l:=by simp [go_sem];exact rfl) (t:Ka l O:=by constructor<;>simp [go_sem,F]<;>omega)
  (C:Zcw p l:=by simp [go_sem,Zcw,St.Zek]) (z:ZkQ q (p.foldl St.Zek l):=by simp [go_sem,ZkQ,St.Zek]):K O:=
 h (.mk _) (λτ=>∀j,ZaI τ j->K j) (λi O' E r j G=>hK i j E λN w0 a w J=>r N w0 a w (G N w0 a w J)) O λN w0 a w r=>ZdD z N w0 a w (ZaY C N w0 a w (t.into N w0 a w r))
theorem gA (h:AW P N w0 x Q O):AW P N w0 x Q O:=h
theorem gC {f:Nat} {j:List DV} {l:Bool} {X:Bool->Bool->List DV->Prop} {Y:Prop} (h:ZbH P f j l X Y):ZbH P f j l X Y:=h
theorem gG {ops:Array Oper} {o:Oper} {rest:List Oper} {want:Bool} {v:Option Bool} (h:Vu P ops o rest O K want v):Vu P ops o rest O K want v:=h
theorem gB {o:Oper} {Z:Eff->Prop} (h:HBy P O o Z):HBy P O o Z:=h
theorem gY {p:Prop} (h:p):p:=h
theorem esc {a:α} {e:β ⊕ α} (h:some (Sum.inr a)=some e):Sum.inr a=e:=ZEI h
end
theorem av {p:Prop} (h:p:=by
 repeat' (first
  | (obtain ⟨x,e,hM⟩:=bind_some hM
     first
     | ((with_reducible have q:=ZwR e);subst q)
     | ((with_reducible have q:=ZDp e);have F:=ZEJ F (ZEJ q (Zaw e)))
     | ((with_reducible have q:at? (_::_) _=some _:=e);have F:=ZEJ (ZEJ (nm F (ZDq e)) (ZCO e)) (Zaw e))
     | ((with_reducible have q:=Zaw e);have q':=ZEJ (ZmP e) q;simp only [Array.getElem_toList,Array.getElem?_toList,Int.toNat_zero,Int.toNat_one,Int.reduceToNat] at q';have F:=ZEJ F (ZEJ q q'))
     | with_reducible have F:=ZEJ F (Zaw e)
     | ((with_reducible have q:=nz_spec e);have q':=q;(try simp at q');have F:=ZEJ F (ZEJ q q'))
     | ((with_reducible have q:=Vm e);obtain ⟨c,q⟩:=q;replace c:=c.symm;subst c;(try simp at q);have F:=ZEJ F q)
     | ((with_reducible have q:=Zra e);obtain ⟨c,q⟩:=q;replace c:=c.symm;subst c;(try simp [go_sem] at q);have F:=ZEJ F q)
     | ((with_reducible have q:=ZnA e);obtain ⟨c,q⟩:=q;replace c:=c.symm;subst c;(try simp at q);have F:=ZEJ F q)
     | ((with_reducible have q:=Zma e);obtain ⟨c,q⟩:=q;replace c:=c.symm;subst c;(try simp at q);have F:=ZEJ F q)
     | ((with_reducible have q:=cut_spec e);obtain ⟨c,q⟩:=q;replace c:=c.symm;subst c;(try simp at q);have F:=ZEJ F q)
     | ((with_reducible have q:=cpy_spec e);obtain ⟨c,q⟩:=q;replace c:=c.symm;subst c;(try simp at q);have F:=ZEJ F q)
     | ((with_reducible have q:=ZhP e);obtain ⟨c,q⟩:=q;replace c:=c.symm;subst c;(try simp at q);have F:=ZEJ F q))
  | (obtain rfl:=esc hM;have hM:=hR;clear hR;dsimp only at hM)
  | (refine gA ?_
     first
     | (refine kn H Hb ?_
        first
        | (refine kq 2 H Hb ?_;refine jG H Hb ?_;refine jH H hM (λe hM H K hK=> ?_) ?_;rotate_left;intro i hM H;(repeat (obtain ⟨_,i⟩:_×_:=i));(try dsimp only at hM);rotate_right)
        | (refine kq 3 H Hb ?_;refine JG H Hb ?_;refine JH H hM (λe hM hR H K hK=> ?_) ?_;rotate_left;intro i hM H;(repeat (obtain ⟨_,i⟩:_×_:=i));(try dsimp only at hM);rotate_right)
        | (refine kq 20 H Hb ?_;refine l0 H hM (λKL n hL hM H hq=> ?_);rw [hq] at hM;clear hq)
        | (refine kq 21 H Hb ?_;refine l1 H hM (λKL n a0 hL hM H hq=> ?_);rw [hq] at hM;clear hq)
        | (refine kq 22 H Hb ?_;refine l2 H hM (λKL n a0 a1 hL hM H hq=> ?_);rw [hq] at hM;clear hq)
        | (refine kq 23 H Hb ?_;refine l3 H hM (λKL n a0 a1 a2 hL hM H hq=> ?_);rw [hq] at hM;clear hq)
        | (refine kq 24 H Hb ?_;refine l4 H hM (λKL n a0 a1 a2 a3 hL hM H hq=> ?_);rw [hq] at hM;clear hq)
        | (refine kq 25 H Hb ?_;refine l5 H hM (λKL n a0 a1 a2 a3 a4 hL hM H hq=> ?_);rw [hq] at hM;clear hq)
        | (refine kq 26 H Hb ?_;refine l6 H hM (λKL n a0 a1 a2 a3 a4 a5 hL hM H hq=> ?_);rw [hq] at hM;clear hq)
        | (refine kq 27 H Hb ?_;refine l7 H hM (λKL n a0 a1 a2 a3 a4 a5 a6 hL hM H hq=> ?_);rw [hq] at hM;clear hq)
        | (refine kq 28 H Hb ?_;refine l8 H hM (λKL n a0 a1 a2 a3 a4 a5 a6 a7 hL hM H hq=> ?_);rw [hq] at hM;clear hq)
        | (refine kq 29 H Hb ?_;refine l9 H hM (λKL n a0 a1 a2 a3 a4 a5 a6 a7 a8 hL hM H hq=> ?_);rw [hq] at hM;clear hq)
        | (refine kq 30 H Hb ?_;refine l10 H hM (λKL n a0 a1 a2 a3 a4 a5 a6 a7 a8 a9 hL hM H hq=> ?_);rw [hq] at hM;clear hq)
        | (refine kq 4 H Hb ?_;first | refine fH1 H (λH=> ?_)| refine fH2 H (λH=> ?_)| refine fH3 H (λH=> ?_))
        | (refine kq 5 H Hb ?_;first | refine pH1 H (λH=> ?_)| refine pH2 H (λH=> ?_)| refine pH3 H (λH=> ?_))
        | (refine kq 6 H Hb ?_;refine tH H (λH=> ?_))
        | (refine kq 7 H Hb ?_;refine qH H mixed WP WP (λH=> ?_);simp (maxSteps:=9999999) [go_sem,F])
        | (refine kq 8 H Hb ?_;refine oH H mixed WP (λH=> ?_);simp (maxSteps:=9999999) [go_sem,F])
        | (refine kq 10 H Hb ?_;obtain rfl:=si hM;refine RH H (λH=> ?_))
        | (refine kq 1 H Hb ?_;refine iH H hM (λh hM H=> ?_) (λh hM H=> ?_)<;>(have F:=nf F h)<;>(first | have F:=ZEJ F (lT h)| have F:=ZEJ F (lF h)| have F:=ZEJ F (eT h)| have F:=ZEJ F (eF h)| have F:=ZEJ F (lT (nF h))| have F:=ZEJ F (lF (nT h))| have F:=ZEJ F (eT (nF h))| have F:=ZEJ F (eF (nT h))| skip)))
     | (refine Zp (λK hK=> ?_);simp (maxSteps:=9999999) [go_sem,F])
     | (refine Zx ?_;simp (maxSteps:=9999999) [go_sem,F])
     | refine Y5 ?_
     | refine Zv ?_
     | refine Zm1 ?_
     | (refine Yh hM (λh hM=> ?_) (λh hM=> ?_)<;>(have F:=nf F h)<;>(first | have F:=ZEJ F (lT h)| have F:=ZEJ F (lF h)| have F:=ZEJ F (eT h)| have F:=ZEJ F (eF h)| have F:=ZEJ F (lT (nF h))| have F:=ZEJ F (lF (nT h))| have F:=ZEJ F (eT (nF h))| have F:=ZEJ F (eF (nT h))| skip))
     | refine AW_ifT ?_
     | refine ZwW ?_
     | refine Zr (λK hK=> ?_)
     | (obtain rfl:=si hM;refine Z3 ?_;simp (maxSteps:=9999999) [go_sem,St.Zst,St.Zek,F];(first | done| omega)))
  | (refine gC ?_;obtain ⟨x,ec,hM⟩:=bind_some hM
     first
     | refine qI ec ?_
     | refine qZ ec ?_
     | refine qU ec ?_
     | refine qM ec ?_
     | refine qR ec ?_
     | (first | have F:=ZEJ F (ZcP ec)| have F:=ZEJ F (Zae ec)
        refine qV ec ?_)
     | refine qP ec ?_
     | refine qS ec ?_
     | refine qT ec ?_
     | refine qQ ec ?_)
  | (refine gG ?_
     first
     | (refine gH H hM (λh hM H=> ?_) (λh hM H=> ?_)<;>(have F:=nf F h)<;>(first | have F:=ZEJ F (lT h)| have F:=ZEJ F (lF h)| have F:=ZEJ F (eT h)| have F:=ZEJ F (eF h)| have F:=ZEJ F (lT (nF h))| have F:=ZEJ F (lF (nT h))| have F:=ZEJ F (eT (nF h))| have F:=ZEJ F (eF (nT h))| skip))
     | (refine gd hM (λh hM=> ?_) (λh hM=> ?_)<;>(have F:=nf F h)<;>(first | have F:=ZEJ F (lT h)| have F:=ZEJ F (lF h)| have F:=ZEJ F (eT h)| have F:=ZEJ F (eF h)| have F:=ZEJ F (lT (nF h))| have F:=ZEJ F (lF (nT h))| have F:=ZEJ F (eT (nF h))| have F:=ZEJ F (eF (nT h))| skip)))
  | (refine wt ?_;simp (maxSteps:=9999999) [go_sem,F])
  | (refine gB ?_
     first
     | refine ZvZ ?_
     | refine Zou ?_
     | refine Zys ?_
     | refine ZpX ?_
     | refine Zup ?_
     | refine ZpW ?_
     simp (maxSteps:=9999999) [go_sem,F])
  | (refine hsq (by assumption) ?_)
  | (refine kn H Hb ?_;refine kq 9 H Hb ?_;refine rH H (by assumption) (λH K hK=> ?_);simp (maxSteps:=9999999) [go_sem,St.Zst,St.Zek,F])
  | (exact fs (by assumption) (by exact si hM))
  | (exact fs (by assumption) (by exact hM))
  | (exact fs2 (by assumption) (by intro a b h;dsimp only;exact h) (by exact hM))
  | (exact fs3 (by assumption) (by intro a b c h;dsimp only;exact h) (by exact hM))
  | (exact fs4 (by assumption) (by intro a b c d h;dsimp only;exact h) (by exact hM))
  | (exact fs5 (by assumption) (by intro a b c d f h;dsimp only;exact h) (by exact hM))
  | (exact fs6 (by assumption) (by intro a b c d f g h;dsimp only;exact h) (by exact hM))
  | (exact fs7 (by assumption) (by intro a b c d f g u h;dsimp only;exact h) (by exact hM))
  | (exact fs8 (by assumption) (by intro a b c d f g u v h;dsimp only;exact h) (by exact hM))
  | (exact fs9 (by assumption) (by intro a b c d f g u v x h;dsimp only;exact h) (by exact hM))
  | (exact fs10 (by assumption) (by intro a b c d f g u v x y h;dsimp only;exact h) (by exact hM))
  | (refine ⟨XI WP, ?_⟩)
  | (refine ⟨WF, ?_⟩)
  | (refine ZwG ⟨_,by assumption⟩ ?_)
  | (refine gY ?_;obtain ⟨x,ec,hM⟩:=bind_some hM;first | refine qP ec ?_| refine qS ec ?_| refine qT ec ?_| refine qQ ec ?_| refine qK ec ?_)
  | (obtain rfl:=si hM;simp (maxSteps:=9999999) [go_sem,F];done)
  | (obtain rfl:=si hM;have hM:=hR;clear hR;dsimp only at hM))):p:=h
theorem wM {P:Program} {f:Nat} {fn:Func} {c:Code} {nt:Nat} {C:Array ResultVar} (hf:P.funcs[f]? =some fn) (r:fn.ntmps=nt) (w:fn.results=C) (H:HT) {j:List DV} {fr:Bool} {z:List DV} (s:Y9 P f=true:=by kernel_rfl) (l:fn.body=some c:=by rfl) (p:j.length<=nt:=by simp)
  (h:∀N w0,Bok N w0->True->Ht H->AW P N w0 c (ZAe P C fr z) ⟨nt,Zft 0 j,[],[]⟩:=by intro N w0 hbad F H;exact av):Ctr P f j fr z:=ZfF hf r w (λN w0 l t=>h N w0 l t (.mk _)) s l p
theorem wP {P:Program} {f:Nat} {fn:Func} {c:Code} {nt:Nat} {C:Array ResultVar} (hf:P.funcs[f]? =some fn) (p:fn.ntmps=nt) (s:fn.results=C) (H:HT) {d1 d2:List DV} {cs w:List L} {fr:Bool} {z:List DV} (r:Y9 P f=true:=by kernel_rfl) (j:fn.body=some c:=by rfl) (l:d1.length+1+d2.length<=nt:=by simp)
  (h:∀N w0,Bok N w0->True->Ht H->AW P N w0 c (ZAf P C fr z nt (nt+d1.length) w) ⟨nt,Zft 0 d1++(d1.length,.one (.box (nt+d1.length) 0))::Zft (d1.length+1) d2,[(nt+d1.length,cs.map .l)],[]⟩:=by intro N w0 hbad F H;exact av):ZeC P f d1 cs d2 fr z w:=ZA9 hf p s (λN w0 j t=>h N w0 j t (.mk _)) r j l
class Da (α:Type) where d:α->DV
instance:Da Int:=⟨λn=>.one (.int .i64 n)⟩
instance:Da Bool:=⟨λb=>.one (.bool b)⟩
instance:Da Ma:=⟨λs=>.one (.str s)⟩
instance {α:Type} [Enc α]:Da (List α):=⟨λj=>.one (.sl (j.map Enc.c))⟩
class Rs (ρ:Type) where l:ρ->List DV
instance {α:Type} [Da α]:Rs α:=⟨λx=>[Da.d x]⟩
instance {α β:Type} [Da α] [Rs β]:Rs (α×β):=⟨λx=>Da.d x.1::Rs.l x.2⟩
instance:Rs Unit:=⟨λ_=>[]⟩
instance {α:Type} [Enc α]:Enc (List α):=⟨lC Enc.c⟩
@[go_sem] theorem ZAX {α:Type} [Enc α]:(Enc.c:List α->List L)=lC Enc.c:=rfl
@[go_sem] theorem ZDl (n:Int):Da.d n= .one (.int .i64 n):=rfl
@[go_sem] theorem ZCm (b:Bool):Da.d b= .one (.bool b):=rfl
@[go_sem] theorem ZDk (s:Ma):Da.d s= .one (.str s):=rfl
@[go_sem] theorem ZCl {α:Type} [Enc α] (xs:List α):Da.d xs= .one (.sl (xs.map Enc.c)):=rfl
@[go_sem] theorem ZC9 {α:Type} [Da α] (x:α):Rs.l x=[Da.d x]:=rfl
@[go_sem] theorem ZC8 {α β:Type} [Da α] [Rs β] (x:α×β):Rs.l x=Da.d x.1::Rs.l x.2:=rfl
@[go_sem] theorem ZBo (x:Unit):Rs.l x=[]:=rfl
class CT (φ:Type) where
 t:(List DV->List DV->Prop)->φ->Prop
 m:∀{C C':List DV->List DV->Prop} {g:φ},(∀ds rs,C ds rs->C' ds rs)->t C g->t C' g
instance {α β:Type} [Da α] [CT β]:CT (α->β):=⟨λC g=>∀a:α,CT.t (λj l=>C (Da.d a::j) l) (g a),λh k a=>CT.m (λ_ _=>h _ _) (k a)⟩
instance {β:Type} [CT β]:CT (Nat->β):=⟨λC g=>∀k:Nat,CT.t C (g k),λh k n=>CT.m h (k n)⟩
instance {ρ:Type} [Rs ρ]:CT (Option ρ):=⟨λC m=>∀r,m=some r->C [] (Rs.l r),λh k r e=>h _ _ (k r e)⟩
abbrev kT (P:Program) (f:Nat) (fr:Bool) {j:Type} [CT j] (g:j):Prop:=CT.t (λl p=>Ctr P f l fr p) g
abbrev UV (f:Nat) (b:Bool) {φ:Type} [CT φ] (g:φ):Prop:=HC f (kT Tryz.prog f b g)
theorem wK {P:Program} {f:Nat} {fn:Func} {c:Code} {nt:Nat} {z:Array ResultVar} {fr:Bool} {C:Type} [CT C] {g:C} {q:Prop} (hf:P.funcs[f]? =some fn) (p:fn.ntmps=nt) (s:fn.results=z) (hq:q) (H:HT) (r:Y9 P f=true:=by kernel_rfl) (l:fn.body=some c:=by rfl)
  (h:q->CT.t (λj w=>j.length<=nt/\∀N w0,Bok N w0->True->Ht H->AW P N w0 c (ZAe P z fr w) ⟨nt,Zft 0 j,[],[]⟩) g:=by intro hq;(repeat intro hM);rw [hq] at hM;refine ⟨Ha, ?_⟩;intro N w0 hbad F H;exact av):kT P f fr g:=
 CT.m (λj w k=>ZfF hf p s (λN w0 l t=>k.2 N w0 l t (.mk _)) r l k.1) (h hq)
end Go.Proofs.YtmcfegjoccgpoaaGreatDoor.Am
namespace Go.Proofs.YtmcfegjoccgpoaaGreatDoor
open Go.RowKit Am
instance:Da Zo:=⟨λx=>.agg x.c⟩
@[go_sem] theorem Zo.da (x:Zo):Da.d x= .agg x.c:=rfl
instance:Enc Zo:=⟨Zo.c⟩
@[go_sem] theorem Zo.enc:(Enc.c:Zo->List L)=Zo.c:=rfl
instance:Da Zg:=⟨λx=>.agg x.c⟩
@[go_sem] theorem Zg.da (x:Zg):Da.d x= .agg x.c:=rfl
instance:Enc Zg:=⟨Zg.c⟩
@[go_sem] theorem Zg.enc:(Enc.c:Zg->List L)=Zg.c:=rfl
instance:Da Zq:=⟨λx=>.agg x.c⟩
@[go_sem] theorem Zq.da (x:Zq):Da.d x= .agg x.c:=rfl
instance:Enc Zq:=⟨Zq.c⟩
@[go_sem] theorem Zq.enc:(Enc.c:Zq->List L)=Zq.c:=rfl
instance:Da ZD:=⟨λx=>.agg x.c⟩
@[go_sem] theorem ZD.da (x:ZD):Da.d x= .agg x.c:=rfl
instance:Enc ZD:=⟨ZD.c⟩
@[go_sem] theorem ZD.enc:(Enc.c:ZD->List L)=ZD.c:=rfl
instance:Da Zk:=⟨λx=>.agg x.c⟩
@[go_sem] theorem Zk.da (x:Zk):Da.d x= .agg x.c:=rfl
instance:Enc Zk:=⟨Zk.c⟩
@[go_sem] theorem Zk.enc:(Enc.c:Zk->List L)=Zk.c:=rfl
instance:Da ZP:=⟨λx=>.agg x.c⟩
@[go_sem] theorem ZP.da (x:ZP):Da.d x= .agg x.c:=rfl
instance:Enc ZP:=⟨ZP.c⟩
@[go_sem] theorem ZP.enc:(Enc.c:ZP->List L)=ZP.c:=rfl
instance:Da Zb:=⟨λx=>.agg x.c⟩
@[go_sem] theorem Zb.da (x:Zb):Da.d x= .agg x.c:=rfl
instance:Enc Zb:=⟨Zb.c⟩
@[go_sem] theorem Zb.enc:(Enc.c:Zb->List L)=Zb.c:=rfl
instance:Da Zw:=⟨λx=>.agg x.c⟩
@[go_sem] theorem Zw.da (x:Zw):Da.d x= .agg x.c:=rfl
instance:Enc Zw:=⟨Zw.c⟩
@[go_sem] theorem Zw.enc:(Enc.c:Zw->List L)=Zw.c:=rfl
instance:Da Zn:=⟨λx=>.agg x.c⟩
@[go_sem] theorem Zn.da (x:Zn):Da.d x= .agg x.c:=rfl
instance:Enc Zn:=⟨Zn.c⟩
@[go_sem] theorem Zn.enc:(Enc.c:Zn->List L)=Zn.c:=rfl
instance:Da Ze:=⟨λx=>.agg x.c⟩
@[go_sem] theorem Ze.da (x:Ze):Da.d x= .agg x.c:=rfl
instance:Enc Ze:=⟨Ze.c⟩
@[go_sem] theorem Ze.enc:(Enc.c:Ze->List L)=Ze.c:=rfl
instance:Da Za:=⟨λx=>.agg x.c⟩
@[go_sem] theorem Za.da (x:Za):Da.d x= .agg x.c:=rfl
instance:Enc Za:=⟨Za.c⟩
@[go_sem] theorem Za.enc:(Enc.c:Za->List L)=Za.c:=rfl
instance:Da Zj:=⟨λx=>.agg x.c⟩
@[go_sem] theorem Zj.da (x:Zj):Da.d x= .agg x.c:=rfl
instance:Enc Zj:=⟨Zj.c⟩
@[go_sem] theorem Zj.enc:(Enc.c:Zj->List L)=Zj.c:=rfl
instance:Da Zd:=⟨λx=>.agg x.c⟩
@[go_sem] theorem Zd.da (x:Zd):Da.d x= .agg x.c:=rfl
instance:Enc Zd:=⟨Zd.c⟩
@[go_sem] theorem Zd.enc:(Enc.c:Zd->List L)=Zd.c:=rfl
instance:Da Zc:=⟨λx=>.agg x.c⟩
@[go_sem] theorem Zc.da (x:Zc):Da.d x= .agg x.c:=rfl
instance:Enc Zc:=⟨Zc.c⟩
@[go_sem] theorem Zc.enc:(Enc.c:Zc->List L)=Zc.c:=rfl
instance:Da Zl:=⟨λx=>.agg x.c⟩
@[go_sem] theorem Zl.da (x:Zl):Da.d x= .agg x.c:=rfl
instance:Enc Zl:=⟨Zl.c⟩
@[go_sem] theorem Zl.enc:(Enc.c:Zl->List L)=Zl.c:=rfl
instance:Da Yb:=⟨λx=>.agg x.c⟩
@[go_sem] theorem Yb.da (x:Yb):Da.d x= .agg x.c:=rfl
instance:Enc Yb:=⟨Yb.c⟩
@[go_sem] theorem Yb.enc:(Enc.c:Yb->List L)=Yb.c:=rfl
instance:Da Zf:=⟨λx=>.agg x.c⟩
@[go_sem] theorem Zf.da (x:Zf):Da.d x= .agg x.c:=rfl
instance:Enc Zf:=⟨Zf.c⟩
@[go_sem] theorem Zf.enc:(Enc.c:Zf->List L)=Zf.c:=rfl
open Go.RowKit Am
def YC (a0 a1:Ma):Option Bool:=some (Lib.hasPrefix a0.data.toList a1.data.toList)
def YB (a0:Ma) (a1:Int):Option Int:=some (Lib.indexByte a0.data.toList a1.toNat.toUInt8)
def Y6 (a0 a1:Ma):Option (List Ma):=if a0.size<4294967281/\1<=a1.size then some (Lib.splitB a1 0 (Lib.countB a0 a1) a0) else none
def XM (a0:Ma) (a1 a2:Int):Int×Bool:=
 match Lib.atoiAll a0.data.toList with
 | .ok n=>if a1<=n/\n<=a2/\(⟨(Lib.itoa n).toArray⟩:Ma)=a0 then (n,true) else (0,false)
 | _=>(0,false)
def ZdG (a0:Ma) (a1 a2:Int):Option (Int×Bool):=if a0.size<=281474976710656 then some (XM a0 a1 a2) else none
open Go.RowKit Am
def JX (a0:Int) (a1:Int) (a2:Int):Option Bool:= (if (decide (a1<=a0)) then some (decide (a0<=a2)) else some false).bind λj=> some j
def YU (a0:Ma):Nat->Int->Option (Unit ⊕ Bool) | 0,_=>none | p+1,j=> if (decide (j<(a0.size:Int))) then ((at? a0.data.toList j).bind λl=> if (decide ((l.toNat:Int)<32)) then some true else some (decide (126<(l.toNat:Int)))).bind λr=> if r then some (.inr false) else YU a0 p (GZ (j+1)) else some (.inl ())
def XY (k:Nat) (a0:Ma):Option Bool:= (YU a0 k 0:Option (Unit ⊕ Bool)).bind fun | .inl _=>( some (decide ((a0.size:Int)<=120))) | .inr j=>( some j)
def V0 (a0:Ma):Nat->Int->Option (Unit ⊕ Bool) | 0,_=>none | r+1,j=> if (decide (j<(a0.size:Int))) then ((at? a0.data.toList j).bind λl=> if (decide (97<=(l.toNat:Int))) then some (decide ((l.toNat:Int)<=122)) else some false).bind λs=> ((at? a0.data.toList j).bind λp=> if (decide (48<=(p.toNat:Int))) then some (decide ((p.toNat:Int)<=57)) else some false).bind λt=> (if (!s) then if (decide (j=0)) then some true else some (!t) else some false).bind λw=> if w then some (.inr false) else V0 a0 r (GZ (j+1)) else some (.inl ())
def Zdk (k:Nat) (a0:Ma):Option Bool:= (V0 a0 k 0:Option (Unit ⊕ Bool)).bind fun | .inl _=>( some (decide (0<(a0.size:Int)))) | .inr j=>( some j)
def Q0:Option (List Ma):= some [(⟨#[108,101,116]⟩:Ma),(⟨#[105,110]⟩:Ma),(⟨#[105,102]⟩:Ma),(⟨#[116,104,101,110]⟩:Ma),(⟨#[101,108,115,101]⟩:Ma),(⟨#[102,111,114]⟩:Ma),(⟨#[100,111]⟩:Ma),(⟨#[108,101,110]⟩:Ma),(⟨#[115,117,109]⟩:Ma),(⟨#[116,97,107,101]⟩:Ma),(⟨#[115,107,105,112]⟩:Ma),(⟨#[114,97,110,103,101]⟩:Ma),(⟨#[110,116,104]⟩:Ma),(⟨#[119,104,101,114,101]⟩:Ma),(⟨#[107,101,101,112]⟩:Ma),(⟨#[97,100,100]⟩:Ma),(⟨#[103,114,111,117,112]⟩:Ma),(⟨#[106,111,105,110]⟩:Ma),(⟨#[99,111,108,117,109,110]⟩:Ma),(⟨#[114,111,119,115]⟩:Ma),(⟨#[99,108,111,99,107]⟩:Ma),(⟨#[99,104,97,110,99,101]⟩:Ma),(⟨#[102,105,108,101]⟩:Ma),(⟨#[116,97,98,108,101]⟩:Ma)]
def V3 (a0:List Ma) (a1:Ma):Nat->Int->Option (Unit ⊕ Bool) | 0,_=>none | l+1,j=> if (decide (j<(a0.length:Int))) then (at? a0 j).bind λp=> if (decide (p=a1)) then some (.inr true) else V3 a0 a1 l (GZ (j+1)) else some (.inl ())
def ZbX (k:Nat) (a0:List Ma) (a1:Ma):Option Bool:= (V3 a0 a1 k 0:Option (Unit ⊕ Bool)).bind fun | .inl _=>( some false) | .inr j=>( some j)
def JE (k:Nat) (a0:Ma):Option Bool:= (Q0).bind λj=> (ZbX k j a0).bind λl=> some l
def Z7 (k:Nat) (a0:Ma):Option Bool:= ((Zdk k a0).bind λl=> if l then if (decide ((a0.size:Int)<=8)) then (JE k a0).bind λp=> some (!p) else some false else some false).bind λj=> some j
def Ql (k:Nat) (a0:Zo):Option Bool:= ((JX a0.id 1 999).bind λr=> if (!r) then some true else (JX a0.version 1 999).bind λs=> if (!s) then some true else (XY k a0.code).bind λt=> some (!t)).bind λp=> if p then some false else if (decide (a0.kind=1)) then (if (decide (a0.name=(⟨#[]⟩:Ma))) then some (decide (a0.n=0)) else some false).bind λw=> some w else (if (decide (a0.kind=2)) then some true else some (decide (a0.kind=4))).bind λz=> if z then ((Z7 k a0.name).bind λE=> if E then some (decide (a0.n=0)) else some false).bind λC=> some C else if (decide (a0.kind=3)) then ((Z7 k a0.name).bind λj=> if j then if (decide (a0.code=(⟨#[]⟩:Ma))) then (JX a0.n 0 100).bind λl=> some l else some false else some false).bind λG=> some G else some false
def YM (a0:Zg) (a1:Int):Nat->Int->Option (Unit ⊕ Int) | 0,_=>none | l+1,j=> if (decide (j<(a0.cells.length:Int))) then (at? a0.cells j).bind λp=> if (decide (p.id=a1)) then some (.inr j) else YM a0 a1 l (GZ (j+1)) else some (.inl ())
def YD (k:Nat) (a0:Zg) (a1:Int):Option Int:= (YM a0 a1 k 0:Option (Unit ⊕ Int)).bind fun | .inl _=>( some (-1)) | .inr j=>( some j)
def YS (k:Nat) (a0:Zg):Nat->Int->Option (Unit ⊕ Bool) | 0,_=>none | p+1,j=> if (decide (j<(a0.cells.length:Int))) then ((at? a0.cells j).bind λl=> (Ql k l).bind λs=> if (!s) then some true else (YD k a0 l.id).bind λt=> some (!decide (t=j))).bind λr=> if r then some (.inr false) else YS k a0 p (GZ (j+1)) else some (.inl ())
def Xy (k:Nat) (a0:Zg):Option Bool:= (YS k a0 k 0:Option (Unit ⊕ Bool)).bind fun | .inl _=>( some (decide ((a0.cells.length:Int)<=8))) | .inr j=>( some j)
def UL (a0:Int):Option Bool:= (if (decide (97<=a0)) then some (decide (a0<=122)) else some false).bind λj=> some j
def Jz (a0:Int):Option Bool:= (if (decide (48<=a0)) then some (decide (a0<=57)) else some false).bind λj=> some j
def Yc:Nat->Int->Ma->Option Ma | 0,_,_=>none | p+1,j,l=> if (!decide (j=0)) then (if (decide ((GZ (j.tmod 10))<0)) then some (GZ (0-(GZ (j.tmod 10)))) else some (GZ (j.tmod 10))).bind λr=> (Zyp (Zp1 [(IntKind.u8.wrap (GZ (48+r)))]) l).bind λs=> Yc p (GZ (j.tdiv 10)) s else some l
def KF (k:Nat) (a0:Int):Option Ma:= if (decide (a0=0)) then some (⟨#[48]⟩:Ma) else (Yc k a0 (⟨#[]⟩:Ma)).bind λj=> if (decide (a0<0)) then (Zyp (⟨#[45]⟩:Ma) j).bind λl=> some l else some j
def VH (l:Ma):Nat->Int->Int->Option (Int ⊕ (Int×Bool)) | 0,_,_=>none | t+1,s,p=> if (decide (p<(l.size:Int))) then ((at? l.data.toList p).bind λj=> if (decide ((j.toNat:Int)<48)) then some true else some (decide (57<(j.toNat:Int)))).bind λw=> if w then some (.inr (0,false)) else (at? l.data.toList p).bind λr=> VH l t (GZ ((GZ (10*s))+(GZ (IntKind.u8.wrap ((r.toNat:Int)-48))))) (GZ (p+1)) else some (.inl s)
def Zgk (k:Nat) (a0:Ma) (a1:Int):Option (Int×Bool):= (if (decide (0<(a0.size:Int))) then (at? a0.data.toList 0).bind λw=> some (decide ((w.toNat:Int)=45)) else some false).bind λs=> (if s then (J2 a0 1 (a0.size:Int)).bind λz=> some z else some a0).bind λp=> (if (decide ((p.size:Int)<1)) then some true else some (decide (a1<(p.size:Int)))).bind λC=> if C then some (0,false) else (VH p k 0 0:Option (Int ⊕ (Int×Bool))).bind fun | .inl t=>( (if s then some (GZ (0-t)) else some t).bind λj=> (KF k j).bind λl=> if (!decide (l=a0)) then some (0,false) else some (j,true)) | .inr r=>( some r)
open Go.RowKit Am
def W8 (k:Nat) (a0:Ma):Option (Int×Bool):= (Zgk k a0 12).bind λj=> some (j.1,j.2)
def QQ (a0:Ma):Nat->Int->Option (Unit ⊕ Bool) | 0,_=>none | p+1,j=> if (decide (j<(a0.size:Int))) then ((at? a0.data.toList j).bind λl=> if (decide ((l.toNat:Int)<32)) then some true else if (decide (126<(l.toNat:Int))) then some true else some (decide ((l.toNat:Int)=34))).bind λr=> if r then some (.inr false) else QQ a0 p (GZ (j+1)) else some (.inl ())
def XX (k:Nat) (a0:Ma):Option Bool:= (QQ a0 k 0:Option (Unit ⊕ Bool)).bind fun | .inl _=>( some (decide ((a0.size:Int)<=20))) | .inr j=>( some j)
def Kf (a0:Ma) (a1:Int):Option Int:= (at? a0.data.toList a1).bind λj=> (if (decide ((j.toNat:Int)=40)) then some true else if (decide ((j.toNat:Int)=41)) then some true else if (decide ((j.toNat:Int)=91)) then some true else if (decide ((j.toNat:Int)=93)) then some true else if (decide ((j.toNat:Int)=44)) then some true else if (decide ((j.toNat:Int)=43)) then some true else if (decide ((j.toNat:Int)=45)) then some true else if (decide ((j.toNat:Int)=42)) then some true else some (decide ((j.toNat:Int)=60))).bind λl=> if l then some 1 else if (decide ((j.toNat:Int)=61)) then (if (decide ((GZ (a1+1))<(a0.size:Int))) then (at? a0.data.toList (GZ (a1+1))).bind λr=> some (decide ((r.toNat:Int)=61)) else some false).bind λp=> if p then some 2 else some 1 else some 0
def Wz (a0:Ma):Nat->Int->Option Int | 0,_=>none | s+1,l=> (if (decide (l<(a0.size:Int))) then (at? a0.data.toList l).bind λj=> (UL (j.toNat:Int)).bind λp=> if p then some true else (Jz (j.toNat:Int)).bind λr=> some r else some false).bind λt=> if t then Wz a0 s (GZ (l+1)) else some l
def Wy (a0:Ma):Nat->Int->Option Int | 0,_=>none | s+1,j=> (if (decide (j<(a0.size:Int))) then (at? a0.data.toList j).bind λp=> (Jz (p.toNat:Int)).bind λr=> some r else some false).bind λl=> if l then Wy a0 s (GZ (j+1)) else some j
def Wx (a0:Ma):Nat->Int->Option Int | 0,_=>none | r+1,j=> (if (decide (j<(a0.size:Int))) then (at? a0.data.toList j).bind λp=> some (!decide ((p.toNat:Int)=34)) else some false).bind λl=> if l then Wx a0 r (GZ (j+1)) else some j
def Xq (k:Nat) (a0:Ma) (a1:Int):Option (Zj×Int):= ((at? a0.data.toList a1).bind λJ=> (UL (J.toNat:Int)).bind λY=> if Y then (Wz a0 k a1).bind λM=> (J2 a0 a1 M).bind λr=> if (decide (8<(GZ (M-a1)))) then some (.inr ((Zj.mk 1 0 a1 r),0)) else some (.inl (1,0,r,M)) else (Jz (J.toNat:Int)).bind λw=> if w then (Wy a0 k a1).bind λs=> (J2 a0 a1 s).bind λz=> (W8 k z).bind λj=> (if (!j.2) then some true else some (decide (1000000000<j.1))).bind λC=> if C then some (.inr ((Zj.mk 2 j.1 a1 (⟨#[]⟩:Ma)),0)) else some (.inl (2,j.1,(⟨#[]⟩:Ma),s)) else if (decide ((J.toNat:Int)=34)) then (Wx a0 k (GZ (a1+1))).bind λl=> (J2 a0 (GZ (a1+1)) l).bind λp=> (if (decide (l=(a0.size:Int))) then some true else (XX k p).bind λG=> some (!G)).bind λE=> if E then some (.inr ((Zj.mk 3 0 a1 p),0)) else some (.inl (3,0,p,(GZ (l+1)))) else (Kf a0 a1).bind λt=> (J2 a0 a1 (GZ (a1+t))).bind λI=> some (.inl (4,0,I,(GZ (a1+t)))):Option ((Int×Int×Ma×Int) ⊕ (Zj×Int))).bind fun | .inl (T,U,W,X)=>( some ((Zj.mk T U a1 W),(GZ (X-a1)))) | .inr R=>( some R)
def Yf (k:Nat) (a0:Ma):Nat->(List Zj)->Int->Option ((List Zj) ⊕ ((List Zj)×Int)) | 0,_,_=>none | r+1,l,j=> if (decide (j<(a0.size:Int))) then (at? a0.data.toList j).bind λs=> if (decide ((s.toNat:Int)=32)) then Yf k a0 r l (GZ (j+1)) else (Xq k a0 j).bind λp=> (if (decide (p.2=0)) then some true else some (decide ((l.length:Int)=60))).bind λt=> if t then some (.inr (([]:List Zj),j)) else (YJ 40 l [p.1]).bind λw=> Yf k a0 r w (GZ (j+p.2)) else some (.inl l)
def UU (k:Nat) (a0:Ma):Option ((List Zj)×Int):= if (decide (120<(a0.size:Int))) then some (([]:List Zj),120) else (Yf k a0 k ([]:List Zj) 0:Option ((List Zj) ⊕ ((List Zj)×Int))).bind fun | .inl j=>( some (j,(-1))) | .inr l=>( some l)
def Va (a0:Zj) (a1:Ma):Option Bool:= (if (decide (a0.kind=4)) then some (decide (a0.text=a1)) else some false).bind λj=> some j
def KE (a0:Zj) (a1:Ma):Option Bool:= (if (decide (a0.kind=1)) then some (decide (a0.text=a1)) else some false).bind λj=> some j
def Zt (a0:Zd) (a1:Ma):Option (Bool×Zd):= (if (decide (a0.bad<0)) then if (decide (a0.i<(a0.toks.length:Int))) then (at? a0.toks a0.i).bind λj=> (Va j a1).bind λp=> if p then some true else (KE j a1).bind λr=> some r else some false else some false).bind λl=> some (l,a0)
def Y1 (a0:Zd):Option (Zc×Zd):= (if (decide (a0.bad<0)) then if (decide (a0.i<(a0.toks.length:Int))) then (at? a0.toks a0.i).bind λl=> some l.at_ else some a0.end_ else some a0.bad).bind λj=> some ((Zc.mk 0 0 (⟨#[]⟩:Ma) []),(Zd.mk a0.toks a0.i a0.end_ j))
def X5 (k:Nat) (a0:Zd):Option (Ma×Zd):= (if (decide (0<=a0.bad)) then some true else if (decide ((a0.toks.length:Int)<=a0.i)) then some true else (at? a0.toks a0.i).bind λj=> if (!decide (j.kind=1)) then some true else (Z7 k j.text).bind λp=> some (!p)).bind λl=> if l then (Y1 a0).bind λr=> some ((⟨#[]⟩:Ma),r.2) else (at? a0.toks (GZ ((GZ (a0.i+1))-1))).bind λs=> some (s.text,(Zd.mk a0.toks (GZ (a0.i+1)) a0.end_ a0.bad))
def ZH (a0:Zd) (a1:Ma):Option Zd:= (Zt a0 a1).bind λj=> if (!j.1) then (Y1 j.2).bind λl=> some l.2 else some (Zd.mk j.2.toks (GZ (j.2.i+1)) j.2.end_ j.2.bad)
def Zgu (a0:Int):Option Zc:= some (Zc.mk 1 a0 (⟨#[]⟩:Ma) [])
def Zdo (a0:Ma):Option Zc:= some (Zc.mk 3 0 a0 [])
def Yi (a0:Ma):Option Int:= if (decide (a0=(⟨#[99,108,111,99,107]⟩:Ma))) then some 0 else (if (decide (a0=(⟨#[108,101,110]⟩:Ma))) then some true else if (decide (a0=(⟨#[115,117,109]⟩:Ma))) then some true else if (decide (a0=(⟨#[114,111,119,115]⟩:Ma))) then some true else if (decide (a0=(⟨#[99,104,97,110,99,101]⟩:Ma))) then some true else some (decide (a0=(⟨#[102,105,108,101]⟩:Ma)))).bind λj=> if j then some 1 else (if (decide (a0=(⟨#[116,97,107,101]⟩:Ma))) then some true else if (decide (a0=(⟨#[115,107,105,112]⟩:Ma))) then some true else if (decide (a0=(⟨#[114,97,110,103,101]⟩:Ma))) then some true else if (decide (a0=(⟨#[110,116,104]⟩:Ma))) then some true else if (decide (a0=(⟨#[107,101,101,112]⟩:Ma))) then some true else if (decide (a0=(⟨#[99,111,108,117,109,110]⟩:Ma))) then some true else some (decide (a0=(⟨#[116,97,98,108,101]⟩:Ma)))).bind λl=> if l then some 2 else (if (decide (a0=(⟨#[119,104,101,114,101]⟩:Ma))) then some true else if (decide (a0=(⟨#[103,114,111,117,112]⟩:Ma))) then some true else some (decide (a0=(⟨#[106,111,105,110]⟩:Ma)))).bind λp=> if p then some 3 else if (decide (a0=(⟨#[97,100,100]⟩:Ma))) then some 4 else some (-1)
open Go.RowKit Am
def ZbY (a0:Int) (a1:Zc) (a2:Zc):Option Zc:= some (Zc.mk 6 a0 (⟨#[]⟩:Ma) [a1,a2])
def WG (j:Zd->Option (Zc×Zd)):Nat->(List Zj)->Int->Int->Int->(List Zc)->Option ((List Zj)×Int×Int×Int×(List Zc)) | 0,_,_,_,_,_=>none | E+1,w,z,C,p,r=> if (decide (p<0)) then (j (Zd.mk w z C p)).bind λs=> (YJ 56 r [s.1]).bind λt=> (Zt s.2 (⟨#[44]⟩:Ma)).bind λl=> if (!l.1) then some (l.2.toks,l.2.i,l.2.end_,l.2.bad,t) else WG j E l.2.toks (GZ (l.2.i+1)) l.2.end_ l.2.bad t else some (w,z,C,p,r)
def QI (j:Zd->Option (Zc×Zd)):Nat->(List Zj)->Int->Int->Int->Int->Int->Ma->(List Zc)->Option (Int×Int×Ma×(List Zc)×(List Zj)×Int×Int×Int) | 0,_,_,_,_,_,_,_,_=>none | J+1,C,E,G,I,s,t,w,z=> (Zt (Zd.mk C E G I) (⟨#[42]⟩:Ma)).bind λl=> if l.1 then (j (Zd.mk l.2.toks (GZ (l.2.i+1)) l.2.end_ l.2.bad)).bind λp=> (ZbY 3 (Zc.mk s t w z) p.1).bind λr=> QI j J p.2.toks p.2.i p.2.end_ p.2.bad r.kind r.n r.text r.args else some (s,t,w,z,l.2.toks,l.2.i,l.2.end_,l.2.bad)
def VI (j:Zd->Option (Zc×Zd)):Nat->(List Zj)->Int->Int->Int->Int->Int->Ma->(List Zc)->Option (Int×Int×Ma×(List Zc)×(List Zj)×Int×Int×Int) | 0,_,_,_,_,_,_,_,_=>none | n_+1,R,T,U,W,w,z,C,E=> ((Zt (Zd.mk R T U W) (⟨#[43]⟩:Ma)).bind λp=> if p.1 then some (p.2.toks,p.2.i,p.2.end_,p.2.bad,true) else (Zt p.2 (⟨#[45]⟩:Ma)).bind λr=> some (r.2.toks,r.2.i,r.2.end_,r.2.bad,r.1)).bind λ(G,I,J,M,X)=> if X then ((Zt (Zd.mk G I J M) (⟨#[45]⟩:Ma)).bind λl=> if l.1 then some (l.2.toks,l.2.i,l.2.end_,l.2.bad,2) else some (l.2.toks,l.2.i,l.2.end_,l.2.bad,1)).bind λ(Y,b0,b1,b2,b3)=> (j (Zd.mk Y (GZ (b0+1)) b1 b2)).bind λs=> (ZbY b3 (Zc.mk w z C E) s.1).bind λt=> VI j n_ s.2.toks s.2.i s.2.end_ s.2.bad t.kind t.n t.text t.args else some (w,z,C,E,G,I,J,M)
mutual
def Vq:Nat->Zd->Ma->Option ((List Zc)×Zd) | 0,_,_=>none | k+1,a0,a1=> (Zt a0 a1).bind λj=> if j.1 then some (([]:List Zc),(Zd.mk j.2.toks (GZ (j.2.i+1)) j.2.end_ j.2.bad)) else (WG (ZC k) k j.2.toks j.2.i j.2.end_ j.2.bad ([]:List Zc)).bind λ(r,l,C,s,z)=> (ZH (Zd.mk r l C s) a1).bind λw=> some (z,w)
def Yo:Nat->Zd->Option (Zc×Zd) | 0,_=>none | k+1,a0=> (if (decide (0<=a0.bad)) then some true else some (decide ((a0.toks.length:Int)<=a0.i))).bind λj=> if j then (Y1 a0).bind λr=> some (r.1,r.2) else (at? a0.toks a0.i).bind λl=> if (decide (l.kind=2)) then (Zgu l.n).bind λC=> some (C,(Zd.mk a0.toks (GZ (a0.i+1)) a0.end_ a0.bad)) else if (decide (l.kind=3)) then some ((Zc.mk 2 0 l.text []),(Zd.mk a0.toks (GZ (a0.i+1)) a0.end_ a0.bad)) else (if (decide (l.kind=1)) then (Z7 k l.text).bind λz=> some z else some false).bind λs=> if s then (Zdo l.text).bind λt=> some (t,(Zd.mk a0.toks (GZ (a0.i+1)) a0.end_ a0.bad)) else (if (decide (l.kind=1)) then (Yi l.text).bind λU=> some (decide (0<=U)) else some false).bind λT=> if T then (ZH (Zd.mk a0.toks (GZ (a0.i+1)) a0.end_ a0.bad) (⟨#[40]⟩:Ma)).bind λE=> (Vq k E (⟨#[41]⟩:Ma)).bind λG=> some ((Zc.mk 5 0 l.text G.1),G.2) else (Va l (⟨#[91]⟩:Ma)).bind λI=> if I then (Vq k (Zd.mk a0.toks (GZ (a0.i+1)) a0.end_ a0.bad) (⟨#[93]⟩:Ma)).bind λp=> some ((Zc.mk 4 0 (⟨#[]⟩:Ma) p.1),p.2) else (Va l (⟨#[40]⟩:Ma)).bind λJ=> if J then (ZC k (Zd.mk a0.toks (GZ (a0.i+1)) a0.end_ a0.bad)).bind λw=> (ZH w.2 (⟨#[41]⟩:Ma)).bind λM=> some (w.1,M) else (Y1 a0).bind λR=> some (R.1,R.2)
def ZW:Nat->Zd->Option (Zc×Zd) | 0,_=>none | k+1,a0=> (Yo k a0).bind λj=> (QI (Yo k) k j.2.toks j.2.i j.2.end_ j.2.bad j.1.kind j.1.n j.1.text j.1.args).bind λ(r,l,C,s,z,t,T,U)=> some ((Zc.mk r l C s),(Zd.mk z t T U))
def XV:Nat->Zd->Option (Zc×Zd) | 0,_=>none | k+1,a0=> (ZW k a0).bind λj=> (VI (ZW k) k j.2.toks j.2.i j.2.end_ j.2.bad j.1.kind j.1.n j.1.text j.1.args).bind λ(r,l,C,s,z,t,T,U)=> some ((Zc.mk r l C s),(Zd.mk z t T U))
def Q4:Nat->Zd->Option (Zc×Zd) | 0,_=>none | k+1,a0=> (XV k a0).bind λj=> (Zt j.2 (⟨#[60]⟩:Ma)).bind λr=> if r.1 then (XV k (Zd.mk r.2.toks (GZ (r.2.i+1)) r.2.end_ r.2.bad)).bind λl=> (ZbY 4 j.1 l.1).bind λC=> some (C,l.2) else (Zt r.2 (⟨#[61,61]⟩:Ma)).bind λs=> if s.1 then (XV k (Zd.mk s.2.toks (GZ (s.2.i+1)) s.2.end_ s.2.bad)).bind λz=> (ZbY 5 j.1 z.1).bind λt=> some (t,z.2) else some (j.1,s.2)
def ZC:Nat->Zd->Option (Zc×Zd) | 0,_=>none | k+1,a0=> (Zt a0 (⟨#[108,101,116]⟩:Ma)).bind λj=> if j.1 then (X5 k (Zd.mk j.2.toks (GZ (j.2.i+1)) j.2.end_ j.2.bad)).bind λr=> (ZH r.2 (⟨#[61]⟩:Ma)).bind λl=> (ZC k l).bind λC=> (ZH C.2 (⟨#[105,110]⟩:Ma)).bind λs=> (ZC k s).bind λz=> some ((Zc.mk 7 0 r.1 [C.1,z.1]),z.2) else (Zt j.2 (⟨#[105,102]⟩:Ma)).bind λt=> if t.1 then (ZC k (Zd.mk t.2.toks (GZ (t.2.i+1)) t.2.end_ t.2.bad)).bind λT=> (ZH T.2 (⟨#[116,104,101,110]⟩:Ma)).bind λU=> (ZC k U).bind λE=> (ZH E.2 (⟨#[101,108,115,101]⟩:Ma)).bind λG=> (ZC k G).bind λI=> some ((Zc.mk 8 0 (⟨#[]⟩:Ma) [T.1,E.1,I.1]),I.2) else (Zt t.2 (⟨#[102,111,114]⟩:Ma)).bind λp=> if p.1 then (X5 k (Zd.mk p.2.toks (GZ (p.2.i+1)) p.2.end_ p.2.bad)).bind λJ=> (ZH J.2 (⟨#[105,110]⟩:Ma)).bind λw=> (ZC k w).bind λM=> (ZH M.2 (⟨#[100,111]⟩:Ma)).bind λR=> (ZC k R).bind λW=> some ((Zc.mk 9 0 J.1 [M.1,W.1]),W.2) else (Q4 k p.2).bind λX=> some (X.1,X.2)
end
def WH (j:Zc->Int->Option Int) (a0:Zc):Nat->Int->Int->Option Int | 0,_,_=>none | r+1,l,p=> (if (decide (p<(a0.args.length:Int))) then some (decide (0<=l)) else some false).bind λs=> if s then (at? a0.args p).bind λt=> (j t l).bind λw=> WH j a0 r w (GZ (p+1)) else some l
def Uk:Nat->Zc->Int->Option Int | 0,_,_=>none | k+1,a0,a1=> (WH (Uk k) a0 k (GZ (a1-1)) 0).bind λj=> some j
def ZbW (a0:Int) (a1:Int):Option Int:= if (decide (a1<a0)) then some a0 else some a1
def Xi (j:Zc->Option Int) (a0:Zc):Nat->Int->Int->Option Int | 0,_,_=>none | r+1,p,l=> if (decide (l<(a0.args.length:Int))) then (at? a0.args l).bind λs=> (j s).bind λt=> (ZbW p t).bind λw=> Xi j a0 r w (GZ (l+1)) else some p
def Xj:Nat->Zc->Option Int | 0,_=>none | k+1,a0=> (Xi (Xj k) a0 k 0 0).bind λj=> some (GZ (j+1))
def KD (k:Nat) (a0:Zc):Option Bool:= if (decide (a0.kind=1)) then (if (decide ((a0.args.length:Int)=0)) then if (decide (a0.text=(⟨#[]⟩:Ma))) then (JX a0.n 0 1000000000).bind λz=> some z else some false else some false).bind λw=> some w else if (decide (a0.kind=2)) then (if (decide ((a0.args.length:Int)=0)) then if (decide (a0.n=0)) then (XX k a0.text).bind λE=> some E else some false else some false).bind λC=> some C else if (decide (a0.kind=3)) then (if (decide ((a0.args.length:Int)=0)) then if (decide (a0.n=0)) then (Z7 k a0.text).bind λI=> some I else some false else some false).bind λG=> some G else if (decide (a0.kind=4)) then (if (decide (a0.n=0)) then if (decide (a0.text=(⟨#[]⟩:Ma))) then some (decide ((a0.args.length:Int)<=8)) else some false else some false).bind λJ=> some J else if (decide (a0.kind=5)) then (if (decide (a0.n=0)) then (Yi a0.text).bind λR=> some (decide ((a0.args.length:Int)=R)) else some false).bind λM=> some M else if (decide (a0.kind=6)) then (if (decide (a0.text=(⟨#[]⟩:Ma))) then if (decide ((a0.args.length:Int)=2)) then (JX a0.n 1 5).bind λl=> some l else some false else some false).bind λj=> some j else (if (decide (a0.kind=7)) then some true else some (decide (a0.kind=9))).bind λp=> if p then (if (decide (a0.n=0)) then if (decide ((a0.args.length:Int)=2)) then (Z7 k a0.text).bind λs=> some s else some false else some false).bind λr=> some r else if (decide (a0.kind=8)) then (if (decide (a0.n=0)) then if (decide (a0.text=(⟨#[]⟩:Ma))) then some (decide ((a0.args.length:Int)=3)) else some false else some false).bind λt=> some t else some false
def UT (j:Zc->Option Bool) (a0:Zc):Nat->Int->Option (Unit ⊕ Bool) | 0,_=>none | p+1,l=> if (decide (l<(a0.args.length:Int))) then (at? a0.args l).bind λr=> (j r).bind λs=> if (!s) then some (.inr false) else UT j a0 p (GZ (l+1)) else some (.inl ())
def Vy:Nat->Zc->Option Bool | 0,_=>none | k+1,a0=> (UT (Vy k) a0 k 0:Option (Unit ⊕ Bool)).bind fun | .inl _=>( (KD k a0).bind λj=> some j) | .inr l=>( some l)
def W9 (k:Nat) (a0:Zc):Option Bool:= ((Uk k a0 40).bind λl=> if (decide (0<=l)) then (Xj k a0).bind λp=> if (decide (p<=8)) then (Vy k a0).bind λr=> some r else some false else some false).bind λj=> some j
def WI (k:Nat) (a0:Ma):Option (Zc×Int):= (UU k a0).bind λl=> if (decide (0<=l.2)) then some ((Zc.mk 0 0 (⟨#[]⟩:Ma) []),l.2) else (ZC k (Zd.mk l.1 0 (a0.size:Int) (-1))).bind λj=> ((if (decide (j.2.bad<0)) then some (decide (j.2.i<(l.1.length:Int))) else some false).bind λs=> if s then (Y1 j.2).bind λp=> some (p.2.toks,p.2.i,p.2.end_,p.2.bad) else some (j.2.toks,j.2.i,j.2.end_,j.2.bad)).bind λ(w,z,C,r)=> if (decide (0<=r)) then some ((Zc.mk 0 0 (⟨#[]⟩:Ma) []),r) else (W9 k j.1).bind λt=> if (!t) then some ((Zc.mk 0 0 (⟨#[]⟩:Ma) []),0) else some (j.1,(-1))
open Go.RowKit Am
def Q5 (a0:Int):Option Zb:= some (Zb.mk 6 a0 0 (⟨#[]⟩:Ma) [] [] [])
def Zb0 (a0:Int):Option Zb:= some (Zb.mk 1 a0 0 (⟨#[]⟩:Ma) [] [] [])
def Ye (a0:Ma):Nat->(List Ma)->Int->Int->Option ((List Ma)×Int) | 0,_,_,_=>none | w+1,s,t,j=> if (decide ((GZ (j+1))<(a0.size:Int))) then (((at? a0.data.toList j).bind λG=> if (decide ((G.toNat:Int)=59)) then (at? a0.data.toList (GZ (j+1))).bind λl=> some (decide ((l.toNat:Int)=32)) else some false).bind λE=> if E then (J2 a0 t j).bind λp=> (YJ 16 s [p]).bind λr=> some (r,(GZ (j+2))) else some (s,t)).bind λ(z,C)=> Ye a0 w z C (GZ (j+1)) else some (s,t)
def Ki (k:Nat) (a0:Ma):Option (List Ma):= (Ye a0 k ([]:List Ma) 0 0).bind λ(p,r)=> (J2 a0 r (a0.size:Int)).bind λj=> (YJ 16 p [j]).bind λl=> some l
def Qw (a0:Ma) (a1:Int):Nat->(List Ma)->Int->Int->Option (List Ma) | 0,_,_,_=>none | s+1,p,r,j=> if (decide (j<=(a0.size:Int))) then ((if (decide (j=(a0.size:Int))) then some true else (at? a0.data.toList j).bind λC=> some (decide ((C.toNat:Int)=a1))).bind λz=> if z then (J2 a0 r j).bind λE=> (YJ 16 p [E]).bind λl=> some (l,(GZ (j+1))) else some (p,r)).bind λ(t,w)=> Qw a0 a1 s t w (GZ (j+1)) else some p
def VJ (k:Nat) (a0:Ma) (a1:Int):Option (List Ma):= (Qw a0 a1 k ([]:List Ma) 0 0).bind λj=> some j
def Qa (a0:Int):Option Bool:= (JX a0 (-1000000000) 1000000000).bind λj=> some j
def Qc (k:Nat) (j:List Ma):Nat->(List Int)->Int->Option ((List Int) ⊕ ((List Int)×Bool)) | 0,_,_=>none | s+1,l,p=> if (decide (p<(j.length:Int))) then (at? j p).bind λt=> (W8 k t).bind λr=> (if (!r.2) then some true else (Qa r.1).bind λz=> some (!z)).bind λw=> if w then some (.inr (l,false)) else (YJ 8 l [r.1]).bind λC=> Qc k j s C (GZ (p+1)) else some (.inl l)
def Zaj (k:Nat) (a0:Ma) (a1:Int):Option ((List Int)×Bool):= (VJ k a0 32).bind λp=> (Qc k p k ([]:List Int) 0:Option ((List Int) ⊕ ((List Int)×Bool))).bind fun | .inl l=>( some (l,(decide ((l.length:Int)=a1)))) | .inr j=>( some j)
def KA (a0:Zb):Option Bool:= (if (decide (a0.kind=1)) then some true else if (decide (a0.kind=2)) then some true else some (decide (a0.kind=3))).bind λj=> some j
def V5 (j:Zb->Option Int) (a0:Zb):Nat->Int->Int->Option Int | 0,_,_=>none | r+1,p,l=> if (decide (l<(a0.list.length:Int))) then (at? a0.list l).bind λs=> (j s).bind λt=> (ZbW p t).bind λw=> V5 j a0 r w (GZ (l+1)) else some p
def X6:Nat->Zb->Option Int | 0,_=>none | k+1,a0=> (V5 (X6 k) a0 k 0 0).bind λj=> some (GZ (j+1))
def YV (k:Nat) (a0:List Ma):Nat->Int->Option (Unit ⊕ Bool) | 0,_=>none | l+1,j=> if (decide (j<(a0.length:Int))) then (ZkD a0 0 j).bind λp=> (at? a0 j).bind λr=> (ZbX k p r).bind λs=> if s then some (.inr false) else YV k a0 l (GZ (j+1)) else some (.inl ())
def Um (k:Nat) (a0:List Ma):Option Bool:= (YV k a0 k 0:Option (Unit ⊕ Bool)).bind fun | .inl _=>( some true) | .inr j=>( some j)
def Wh (k:Nat) (a0:List Ma):Nat->Int->Option (Unit ⊕ Bool) | 0,_=>none | l+1,j=> if (decide (j<(a0.length:Int))) then (at? a0 j).bind λp=> (Z7 k p).bind λr=> if (!r) then some (.inr false) else Wh k a0 l (GZ (j+1)) else some (.inl ())
def UQ (k:Nat) (a0:List Ma):Option Bool:= (Wh k a0 k 0:Option (Unit ⊕ Bool)).bind fun | .inl _=>( ((JX (a0.length:Int) 1 4).bind λl=> if l then (Um k a0).bind λp=> some p else some false).bind λj=> some j) | .inr r=>( some r)
def UR (a0:Zk) (a1:Zk):Option Bool:= (if (decide (a0.cell<a1.cell)) then some true else if (decide (a0.cell=a1.cell)) then some (decide (a0.row<a1.row)) else some false).bind λj=> some j
def QP (a0:List Zk):Nat->Int->Option (Unit ⊕ Bool) | 0,_=>none | p+1,j=> if (decide (j<(a0.length:Int))) then ((at? a0 j).bind λl=> if (decide (l.cell<0)) then some true else if (decide (l.row<0)) then some true else if (decide (0<j)) then (at? a0 (GZ (j-1))).bind λs=> (UR s l).bind λt=> some (!t) else some false).bind λr=> if r then some (.inr false) else QP a0 p (GZ (j+1)) else some (.inl ())
def W4 (k:Nat) (a0:List Zk):Option Bool:= (QP a0 k 0:Option (Unit ⊕ Bool)).bind fun | .inl _=>( some true) | .inr j=>( some j)
def WA (j:ZP):Nat->Int->Option (Unit ⊕ Bool) | 0,_=>none | p+1,l=> if (decide (l<(j.cells.length:Int))) then (at? j.cells l).bind λr=> (Qa r).bind λs=> if (!s) then some (.inr false) else WA j p (GZ (l+1)) else some (.inl ())
def QZ (k:Nat) (a0:Zb):Nat->Int->Option (Unit ⊕ Bool) | 0,_=>none | r+1,j=> if (decide (j<(a0.rows.length:Int))) then ((at? a0.rows j).bind λl=> (if (!decide ((l.cells.length:Int)=(a0.columns.length:Int))) then some true else (W4 k l.from_).bind λt=> some (!t)).bind λs=> if s then some (.inr false) else WA l k 0:Option (Unit ⊕ Bool)).bind fun | .inl _=>( QZ k a0 r (GZ (j+1))) | .inr p=>( some (.inr p)) else some (.inl ())
def Zdg (k:Nat) (a0:Zb):Option Bool:= ((UQ k a0.columns).bind λp=> if (!p) then some true else some (decide (12<(a0.rows.length:Int)))).bind λl=> if l then some false else (QZ k a0 k 0:Option (Unit ⊕ Bool)).bind fun | .inl _=>( some true) | .inr j=>( some j)
def UN (j:Zb->Option Bool) (a0:Zb):Nat->Int->Option (Unit ⊕ Bool) | 0,_=>none | r+1,l=> if (decide (l<(a0.list.length:Int))) then ((at? a0.list l).bind λp=> (KA p).bind λt=> if (!t) then some true else (j p).bind λw=> some (!w)).bind λs=> if s then some (.inr false) else UN j a0 r (GZ (l+1)) else some (.inl ())
mutual
def Zai:Nat->Zb->Option Bool | 0,_=>none | k+1,a0=> (UN (ZZ k) a0 k 0:Option (Unit ⊕ Bool)).bind fun | .inl _=>( (if (decide ((a0.list.length:Int)<=8)) then (X6 k a0).bind λt=> some (decide (t<=3)) else some false).bind λs=> some s) | .inr M=>( some M)
def ZZ:Nat->Zb->Option Bool | 0,_=>none | k+1,a0=> (if (!decide (a0.kind=3)) then if (decide (0<(a0.list.length:Int))) then some true else if (!decide (a0.kind=5)) then some (decide (0<(GZ ((a0.columns.length:Int)+(a0.rows.length:Int))))) else some false else some (decide (0<(GZ ((a0.columns.length:Int)+(a0.rows.length:Int)))))).bind λw=> if w then some false else (if (!decide (a0.kind=2)) then if (!decide (a0.text=(⟨#[]⟩:Ma))) then some true else if (!decide (a0.kind=4)) then some (!decide (a0.step=0)) else some false else some (!decide (a0.step=0))).bind λz=> if z then some false else if (decide (a0.kind=1)) then (Qa a0.n).bind λC=> some C else if (decide (a0.kind=2)) then (if (decide (a0.n=0)) then (XX k a0.text).bind λG=> some G else some false).bind λE=> some E else if (decide (a0.kind=3)) then (if (decide (a0.n=0)) then (Zai k a0).bind λt=> some t else some false).bind λs=> some s else if (decide (a0.kind=4)) then ((Qa a0.n).bind λJ=> if J then (Qa a0.step).bind λj=> some j else some false).bind λI=> some I else if (decide (a0.kind=5)) then (if (decide (a0.n=0)) then (Zdg k a0).bind λp=> some p else some false).bind λl=> some l else if (decide (a0.kind=6)) then (JX a0.n 1 8).bind λr=> some r else some false
end
open Go.RowKit Am
def Qx (k:Nat) (j:List Ma) (p:List Ma):Nat->(List ZP)->Int->Option ((List ZP) ⊕ (Zb×Bool)) | 0,_,_=>none | t+1,r,l=> if (decide (l<(j.length:Int))) then (at? j l).bind λw=> (Zaj k w (p.length:Int)).bind λs=> if (!s.2) then some (.inr ((Zb.mk 0 0 0 (⟨#[]⟩:Ma) [] [] []),false)) else (YJ 48 r [(ZP.mk s.1 [])]).bind λz=> Qx k j p t z (GZ (l+1)) else some (.inl r)
def UX (k:Nat) (a0:Ma):Option (Zb×Bool):= (Ki k a0).bind λr=> (at? r 0).bind λt=> (VJ k t 32).bind λl=> (Qx k r l k [] 1:Option ((List ZP) ⊕ (Zb×Bool))).bind fun | .inl s=>( (ZZ k (Zb.mk 5 0 0 (⟨#[]⟩:Ma) [] l s)).bind λj=> if (!j) then some ((Zb.mk 0 0 0 (⟨#[]⟩:Ma) [] [] []),false) else some ((Zb.mk 5 0 0 (⟨#[]⟩:Ma) [] l s),true)) | .inr p=>( some p)
def Qz (k:Nat) (l:List Ma) (p:List Ma):Nat->Int->Option (Unit ⊕ Int) | 0,_=>none | r+1,j=> if (decide (j<(l.length:Int))) then (at? l j).bind λs=> (Zaj k s (p.length:Int)).bind λt=> (if (!t.2) then some true else some (decide (12<j))).bind λw=> if w then some (.inr j) else Qz k l p r (GZ (j+1)) else some (.inl ())
def KH (k:Nat) (a0:Ma):Option Int:= (Ki k a0).bind λj=> (at? j 0).bind λp=> (VJ k p 32).bind λl=> (UQ k l).bind λr=> if (!r) then some 0 else (Qz k j l k 1:Option (Unit ⊕ Int)).bind fun | .inl _=>( some (-1)) | .inr s=>( some s)
def ZhA (a0:ZP):Option ZP:= (YJ 8 ([]:List Int) a0.cells).bind λj=> (YJ 16 ([]:List Zk) a0.from_).bind λl=> some (ZP.mk j l)
def UP (j:Zb->Option Zb) (a0:Zb):Nat->(List Zb)->Int->Option (List Zb) | 0,_,_=>none | r+1,p,l=> if (decide (l<(a0.list.length:Int))) then (at? a0.list l).bind λs=> (j s).bind λt=> (YJ 112 p [t]).bind λw=> UP j a0 r w (GZ (l+1)) else some p
def UO (a0:Zb):Nat->(List ZP)->Int->Option (List ZP) | 0,_,_=>none | t+1,s,j=> if (decide (j<(a0.rows.length:Int))) then (at? a0.rows j).bind λl=> (ZhA l).bind λp=> (YJ 48 s [p]).bind λr=> UO a0 t r (GZ (j+1)) else some s
def Wv:Nat->Zb->Option Zb | 0,_=>none | k+1,a0=> (YJ 16 ([]:List Ma) a0.columns).bind λj=> (UP (Wv k) a0 k [] 0).bind λl=> (UO a0 k [] 0).bind λp=> some (Zb.mk a0.kind a0.n a0.step a0.text l j p)
def Yl (a0:Int):Nat->(List ZP)->Int->Option (List ZP) | 0,_,_=>none | p+1,l,j=> if (decide (j<(l.length:Int))) then (at? l j).bind λr=> Yl a0 p (l.set j.toNat (ZP.mk r.cells [(Zk.mk a0 j)])) (GZ (j+1)) else some l
def Ul (k:Nat) (a0:Int) (a1:Zb):Option Zb:= (if (!decide (a1.kind=5)) then some true else (ZZ k a1).bind λp=> if (!p) then some true else some (decide (a0<0))).bind λl=> if l then (Q5 4).bind λr=> some r else (Wv k a1).bind λj=> (Yl a0 k j.rows 0).bind λs=> some (Zb.mk j.kind j.n j.step j.text j.list j.columns s)
def Yx (k:Nat) (a0:Zo):Option Zl:= (Ql k a0).bind λp=> if (!p) then some (Zl.mk 0 (⟨#[]⟩:Ma) (Zc.mk 0 0 (⟨#[]⟩:Ma) []) (Zb.mk 0 0 0 (⟨#[]⟩:Ma) [] [] []) 0) else if (decide (a0.kind=2)) then (WI k a0.code).bind λj=> if (decide (0<=j.2)) then (Q5 8).bind λr=> some (Zl.mk 4 a0.name (Zc.mk 0 0 (⟨#[]⟩:Ma) []) r j.2) else some (Zl.mk 2 a0.name j.1 (Zb.mk 0 0 0 (⟨#[]⟩:Ma) [] [] []) 0) else if (decide (a0.kind=3)) then (Zb0 a0.n).bind λs=> some (Zl.mk 3 a0.name (Zc.mk 0 0 (⟨#[]⟩:Ma) []) s 0) else if (decide (a0.kind=4)) then (UX k a0.code).bind λl=> if (!l.2) then (Q5 8).bind λt=> (KH k a0.code).bind λw=> some (Zl.mk 4 a0.name (Zc.mk 0 0 (⟨#[]⟩:Ma) []) t w) else (Ul k a0.id l.1).bind λz=> some (Zl.mk 3 a0.name (Zc.mk 0 0 (⟨#[]⟩:Ma) []) z 0) else some (Zl.mk 1 (⟨#[]⟩:Ma) (Zc.mk 0 0 (⟨#[]⟩:Ma) []) (Zb.mk 0 0 0 (⟨#[]⟩:Ma) [] [] []) 0)
def Xz (k:Nat) (a0:Zg):Nat->(List Zl)->Int->Option (List Zl) | 0,_,_=>none | p+1,l,j=> if (decide (j<(a0.cells.length:Int))) then (at? a0.cells j).bind λr=> (Yx k r).bind λs=> (YJ 200 l [s]).bind λt=> Xz k a0 p t (GZ (j+1)) else some l
def WJ (k:Nat) (a0:Zg):Option (List Zl):= (Xy k a0).bind λj=> if (!j) then some ([]:List Zl) else (Xz k a0 k ([]:List Zl) 0).bind λl=> some l
def Q3 (j:Zc->(List Ma)->Option (List Ma)) (a0:Zc) (a1:List Ma):Nat->(List Ma)->Int->Option (List Ma) | 0,_,_=>none | z+1,w,l=> if (decide (l<(a0.args.length:Int))) then ((if (decide (a0.kind=7)) then some (decide (0<l)) else if (decide (a0.kind=9)) then some (decide (0<l)) else some false).bind λE=> if E then (YJ 16 ([]:List Ma) a1).bind λG=> (YJ 16 G [a0.text]).bind λp=> some p else some a1).bind λC=> (at? a0.args l).bind λr=> (j r C).bind λs=> (YJ 16 w s).bind λt=> Q3 j a0 a1 z t (GZ (l+1)) else some w
def Xx:Nat->Zc->(List Ma)->Option (List Ma) | 0,_,_=>none | k+1,a0,a1=> (if (decide (a0.kind=3)) then (ZbX k a1 a0.text).bind λl=> some (!l) else some false).bind λj=> if j then (YJ 16 ([]:List Ma) [a0.text]).bind λp=> some p else (Q3 (Xx k) a0 a1 k ([]:List Ma) 0).bind λr=> some r
def Wj (a0:List Ma) (l:List Ma) (p:Int):Nat->Int->Option Int | 0,_=>none | r+1,j=> (if (decide (j<(l.length:Int))) then (at? l j).bind λt=> (at? a0 p).bind λw=> some (Zpb t w) else some false).bind λs=> if s then Wj a0 l p r (GZ (j+1)) else some j
def Wk (k:Nat) (a0:List Ma):Nat->(List Ma)->Int->Option (List Ma) | 0,_,_=>none | J+1,j,l=> if (decide (l<(a0.length:Int))) then ((Wj a0 j l k 0).bind λp=> (if (decide (p<(j.length:Int))) then (at? j p).bind λs=> (at? a0 l).bind λt=> some (decide (s=t)) else some false).bind λr=> if r then some j else (ZkD j p (j.length:Int)).bind λw=> (YJ 16 ([]:List Ma) w).bind λz=> (ZkD j 0 p).bind λC=> (at? a0 l).bind λE=> (YJ 16 C [E]).bind λG=> (YJ 16 G z).bind λI=> some I).bind λM=> Wk k a0 J M (GZ (l+1)) else some j
def UW (k:Nat) (a0:List Ma):Option (List Ma):= (Wk k a0 k ([]:List Ma) 0).bind λj=> some j
def Zb1 (k:Nat) (a0:Zc):Option (List Ma):= (Xx k a0 ([]:List Ma)).bind λj=> (UW k j).bind λl=> some l
def W7 (k:Nat) (a0:Zl):Option (List Ma):= if (!decide (a0.kind=2)) then some ([]:List Ma) else (Zb1 k a0.expr).bind λj=> some j
def Yw (a0:List Zl) (a1:Ma):Nat->(List Int)->Int->Option (List Int) | 0,_,_=>none | r+1,l,j=> if (decide (j<(a0.length:Int))) then (((at? a0 j).bind λp=> if (!decide (p.kind=1)) then some (decide (p.name=a1)) else some false).bind λt=> if t then (YJ 8 l [j]).bind λw=> some w else some l).bind λs=> Yw a0 a1 r s (GZ (j+1)) else some l
def Wl (k:Nat) (a0:List Zl) (a1:Ma):Option (List Int):= (Yw a0 a1 k ([]:List Int) 0).bind λj=> some j
def QJ (k:Nat) (a0:List Zl) (a1:Ma):Option Int:= (Wl k a0 a1).bind λj=> if (decide ((j.length:Int)=0)) then some (-1) else if (decide ((j.length:Int)=1)) then (at? j 0).bind λl=> some l else some (-2)
def Qk (a0:List Int) (a1:Int):Nat->Int->Option (Unit ⊕ Bool) | 0,_=>none | l+1,j=> if (decide (j<(a0.length:Int))) then (at? a0 j).bind λp=> if (decide (p=a1)) then some (.inr true) else Qk a0 a1 l (GZ (j+1)) else some (.inl ())
def YG (k:Nat) (a0:List Int) (a1:Int):Option Bool:= (Qk a0 a1 k 0:Option (Unit ⊕ Bool)).bind fun | .inl _=>( some false) | .inr j=>( some j)
end Go.Proofs.YtmcfegjoccgpoaaGreatDoor
