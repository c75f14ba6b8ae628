import Derived.Test.YtpblakfidofgfaaGreatDoorZJ3
import Derived.Lib.ItoaNum
import Derived.Lib.Join
import Derived.Lib.AtoiAll
import Derived.Lib.Strings
import Derived.Lib.Bytealg
import Derived.Lib.SplitLaws
set_option linter.unusedSimpArgs false
set_option linter.unusedVariables false
namespace Go.Proofs.YtpblakfidofgfaaGreatDoor.Am
open Go.RowKit
abbrev Ty {p:Prop} (_:p):Prop:=p
class HC (f:Nat) (T:outParam Prop):Prop where h:T
def oI (n:Int):V:=.one (.l (.int .i64 n))
def oB (b:Bool):V:=.one (.l (.bool b))
def oS (s:ByteArray):V:=.one (.l (.str s))
def oL {α:Type} (c:α->List L) (xs:List α):V:=.one (.l (.sl (xs.map c)))
def oO (τ n:Nat):V:=.one (.own τ n)
def cI (n:Int):CV:=.l (.int .i64 n)
def cS (s:ByteArray):CV:=.l (.str s)
def cL {α:Type} (c:α->List L) (xs:List α):CV:=.l (.sl (xs.map c))
def aT {α:Type} (c:α->List L) (xs:List α):Option Arr:=some ⟨true,xs.map c⟩
def aF {α:Type} (c:α->List L) (xs:List α):Option Arr:=some ⟨false,xs.map c⟩
def pk {α:Type} (l:List (Nat×α)):List Nat->List (Nat×α)
 | []=>[]
 | t::ts=>match l.lookup t with | some v=>(t,v)::pk l ts| none=>pk l ts
def pkO {α:Type} (l:List (Nat×α)) (ts:List Nat) (t:Nat):Option α->List (Nat×α)
 | some v=>(t,v)::pk l ts
 | none=>pk l ts
theorem Zvd {α:Type} (l:List (Nat×α)):pk l []=[]:=rfl
theorem Zth {α:Type} (l:List (Nat×α)) (t:Nat) (ts:List Nat):pk l (t::ts)=pkO l ts t (l.lookup t):=by
 rw [pk];cases l.lookup t<;>rfl
def St.of (O:St) (ts ks τs:List Nat) (ch:List (Nat×V)) (cb:List (Nat×List CV)) (ca:List (Nat×Option Arr)):St:=⟨O.nt,ch++pk O.tm ts,cb++pk O.bx ks,ca++pk O.ar τs⟩
attribute [go_sem] oI oB oS oL oO cI cS cL aT aF Zvd Zth pkO St.of
structure Wt (p:Prop):Prop where
 h:p
theorem wt {p:Prop} (h:p):Wt p:=⟨h⟩
section
variable {P:Program} {ops:Array Oper} {O O':St} {K:St->Prop} {o:Oper} {rest:List Oper} {b want:Bool}
theorem gd {ρ:Type} {b':Bool} {A B r:ρ} (hM:(if b=true then A else B)=r) (ht:b=true->A=r->Wt (WL P ops o rest O K want (some b'))) (hf:b=false->B=r->Wt (WL P ops o rest O K want (some b'))):WL P ops o rest O K want (some b'):=by
 cases b
 ·exact (hf rfl (by simpa using hM)).h
 ·exact (ht rfl (by simpa using hM)).h
end
section
variable {P:Program} {N:Nat->Prop} {w0:Bs} {Q:Exit->St->Prop} {x y:Code} {O O':St} {K:St->Prop}
theorem hsq (hK:∀O,AW P N w0 y Q O->K O) (h:AW P N w0 y Q O):K O:=hK O h
theorem fs {ι:Type} {S:ι->St} {I:ι->Prop} (hK:∀i O',I i->Zai (S i) O'->K O') {i:ι} (hi:I i) (h:JK (S i) O:=by constructor<;>simp [go_sem,F]<;>omega):K O:=hK i O hi h.into
theorem fs2 {α β:Type} {S:α×β->St} {I:α×β->Prop} {J:α->β->Prop} (hK:∀i O',I i->Zai (S i) O'->K O') (hJ:∀a b,J a b->I (a,b)) {a:α} {b:β} (hi:J a b) (h:JK (S (a,b)) O:=by constructor<;>simp [go_sem,F]<;>omega):K O:=hK _ O (hJ _ _ hi) h.into
theorem fs3 {α β γ:Type} {S:α×β×γ->St} {I:α×β×γ->Prop} {J:α->β->γ->Prop} (hK:∀i O',I i->Zai (S i) O'->K O') (hJ:∀a b c,J a b c->I (a,b,c)) {a:α} {b:β} {c:γ} (hi:J a b c) (h:JK (S (a,b,c)) O:=by constructor<;>simp [go_sem,F]<;>omega):K O:=hK _ O (hJ _ _ _ hi) h.into
theorem fs4 {α β γ δ:Type} {S:α×β×γ×δ->St} {I:α×β×γ×δ->Prop} {J:α->β->γ->δ->Prop} (hK:∀i O',I i->Zai (S i) O'->K O') (hJ:∀a b c d,J a b c d->I (a,b,c,d)) {a:α} {b:β} {c:γ} {d:δ} (hi:J a b c d) (h:JK (S (a,b,c,d)) O:=by constructor<;>simp [go_sem,F]<;>omega):K O:=hK _ O (hJ _ _ _ _ hi) h.into
theorem fs5 {α β γ δ ε:Type} {S:α×β×γ×δ×ε->St} {I:α×β×γ×δ×ε->Prop} {J:α->β->γ->δ->ε->Prop} (hK:∀i O',I i->Zai (S i) O'->K O') (hJ:∀a b c d f,J a b c d f->I (a,b,c,d,f)) {a:α} {b:β} {c:γ} {d:δ} {f:ε} (hi:J a b c d f) (h:JK (S (a,b,c,d,f)) O:=by constructor<;>simp [go_sem,F]<;>omega):K O:=hK _ O (hJ _ _ _ _ _ hi) h.into
theorem fs7 {α β γ δ ε ζ η:Type} {S:α×β×γ×δ×ε×ζ×η->St} {I:α×β×γ×δ×ε×ζ×η->Prop} {J:α->β->γ->δ->ε->ζ->η->Prop} (hK:∀i O',I i->Zai (S i) O'->K O') (hJ:∀a b c d f g u,J a b c d f g u->I (a,b,c,d,f,g,u)) {a:α} {b:β} {c:γ} {d:δ} {f:ε} {g:ζ} {u:η} (hi:J a b c d f g u) (h:JK (S (a,b,c,d,f,g,u)) O:=by constructor<;>simp [go_sem,F]<;>omega):K O:=hK _ O (hJ _ _ _ _ _ _ _ hi) h.into
theorem fs8 {α β γ δ ε ζ η θ:Type} {S:α×β×γ×δ×ε×ζ×η×θ->St} {I:α×β×γ×δ×ε×ζ×η×θ->Prop} {J:α->β->γ->δ->ε->ζ->η->θ->Prop} (hK:∀i O',I i->Zai (S i) O'->K O') (hJ:∀a b c d f g u v,J a b c d f g u v->I (a,b,c,d,f,g,u,v)) {a:α} {b:β} {c:γ} {d:δ} {f:ε} {g:ζ} {u:η} {v:θ} (hi:J a b c d f g u v) (h:JK (S (a,b,c,d,f,g,u,v)) O:=by constructor<;>simp [go_sem,F]<;>omega):K O:=hK _ O (hJ _ _ _ _ _ _ _ _ hi) h.into
theorem ZsL {o:Operand} (h:AW P N w0 y Q O) (ho:opd O o=some (.one (.l (.bool false))):=by first | (simp [go_sem,F];done)| fail):AW P N w0 (.cond o x y) Q O:=Znn ho (fun h=>nomatch h) (fun _=>h)
theorem S1 {id:Nat} {l:List Oper} (h:AW P N w0 y Q O') (ho:∀K:St->Prop,K O'->ZW P l.toArray l O K:=by intro K h;simp (maxSteps:=9999999) [go_sem,F];exact h):AW P N w0 (.seq (.region id l.toArray false) y) Q O:=XX fun K hK=>ho K (hK _ h)
theorem le1 (ts ks τs:List Nat) (h:AW P N w0 x Q O') (ch:List (Nat×V):=[]) (cb:List (Nat×List CV):=[]) (ca:List (Nat×Option Arr):=[]) (e:O.of ts ks τs ch cb ca=O':=by simp [go_sem];exact rfl) (k:JK O' O:=by constructor<;>simp [go_sem,F]<;>omega):AW P N w0 x Q O:=JJ k.into h
theorem mj {ι ρ:Type} (ts ks τs:List Nat) (ch:ι->List (Nat×V)) {m:Option ι} {g:ι->Option ρ} {r:ρ} {S:ι->St} (hM:m.bind g=some r) (hx:∀e,m=some e->∀K:St->Prop,(∀i O',i=e->Zai (S i) O'->K O')->AW P N w0 x (Kq K Q) O) (hy:∀i,g i=some r->AW P N w0 y Q (S i))
  (cb:ι->List (Nat×List CV):=fun _=>[]) (ca:ι->List (Nat×Option Arr):=fun _=>[]) (e:∀i,O.of ts ks τs (ch i) (cb i) (ca i)=S i:=by intro i;simp [go_sem];exact rfl):AW P N w0 (.seq x y) Q O:=by
 obtain ⟨v,h1,h2⟩:=bind_some hM;exact Zot S (fun i=>i=v) (hx v h1) (fun i hi=>hy i (hi▸h2))
theorem mjE {ι κ ρ:Type} (ts ks τs:List Nat) (ch:ι->List (Nat×V)) {m:Option (ι ⊕ κ)} {g:ι ⊕ κ->Option ρ} {r:ρ} {S:ι->St} (hM:m.bind g=some r) (hx:∀e,m=some e->g e=some r->∀K:St->Prop,(∀i O',.inl i=e->Zai (S i) O'->K O')->AW P N w0 x (Kq K Q) O) (hy:∀i,g (.inl i)=some r->AW P N w0 y Q (S i))
  (cb:ι->List (Nat×List CV):=fun _=>[]) (ca:ι->List (Nat×Option Arr):=fun _=>[]) (e:∀i,O.of ts ks τs (ch i) (cb i) (ca i)=S i:=by intro i;simp [go_sem];exact rfl):AW P N w0 (.seq x y) Q O:=by
 obtain ⟨v,h1,h2⟩:=bind_some hM;exact Zot S (fun i=>.inl i=v) (hx v h1 h2) (fun i hi=>hy i (by rw [hi];exact h2))
theorem lp {ι:Type} (ts ks τs:List Nat) (ch:ι->List (Nat×V)) (I:Nat->ι->Prop) (n0:Nat) (i0:ι) {S:ι->St} (h0:I n0 i0) (hz:∀i,¬I 0 i)
  (body:∀(KL:St->Prop) (n:Nat) (i:ι),(∀i' O',I n i'->Zai (S i') O'->KL O')->I (n+1) i->True->AW P N w0 x (Kq KL Q) (S i)) (cb:ι->List (Nat×List CV):=fun _=>[]) (ca:ι->List (Nat×Option Arr):=fun _=>[])
  (e:∀i,O.of ts ks τs (ch i) (cb i) (ca i)=S i:=by intro i;simp [go_sem];exact rfl) (hk:JK (S i0) O:=by constructor<;>simp [go_sem,F]<;>omega):AW P N w0 (.loop x) Q O:=
 Zys S I n0 i0 h0 hz body hk
theorem qI {f:Nat} {ds ds':List DV} {fr pu:Bool} {rs:List DV} {X:Bool->Bool->List DV->Prop} {Y:Prop} {T:Prop} [i:HC f T] {α:Type} {m:Option α} {z:α} (e:m=some z) (hx:Wt (X fr false rs)) (h:T->m=some z->Ctr P f ds fr rs:=by intro h e;apply h;exact e) (hd:ds'=ds:=by first | (simp [go_sem,F];done)| fail) (hp:fr=false->pu=true:=by first | exact fun _=>rfl| (intro h;contradiction)):Za5 P f ds' pu X Y:=
 ZsH false (h i.h e) hd hp hx.h
theorem qP {f:Nat} {dst:Option Nat} {vs:List V} {d1 d2:List DV} {ls ls':List L} {fr:Bool} {rs:List DV} {Z:Eff->Prop} {T:Prop} [i:HC f T] {α:Type} {m:Option α} {z:α} (e:m=some z) (hx:Wt (Zwi O dst d1.length d1 ls d2 fr rs ls' Z (ZkS O d1.length vs))) (h:T->m=some z->ZcU P f d1 ls d2 fr rs ls':=by intro h e;apply h;exact e):XBy P O dst f (some vs) Z:=
 Zv1 _ (h i.h e) hx.h
theorem qU {f n:Nat} {dst:Option Nat} {vs:List V} {ds ds' rs:List DV} {pu:Bool} {X:Bool->Bool->List DV->Prop} {Z:Eff->Prop} {T:Prop} [i:HC f T] {α:Type} {m:Option α} {z:α} (e:m=some z) (hx:Wt (Zwd O n ds rs Z vs dst)) (h:T->m=some z->TC P f n ds rs:=by intro h e;apply h;exact e):Za5 P f ds' pu X (XBy P O dst f (some vs) Z):=.inr (Zyc (h i.h e) hx.h)
theorem qR {f:Nat} {dst:Option Nat} {vs:List V} {ds ds':List DV} {pu:Bool} {X:Bool->Bool->List DV->Prop} {cs:List L} {Z:Eff->Prop} {T:Prop} [i:HC f T] {α:Type} {m:Option α} {z:α} (e:m=some z) (hx:Wt (Zv3 O dst ds cs Z (Zf2 O vs))) (h:T->m=some z->Zr8 P f ds cs:=by intro h e;apply h;exact e):Za5 P f ds' pu X (XBy P O dst f (some vs) Z):=Zue (h i.h e) hx.h
theorem qV {f:Nat} {dst:Option Nat} {vs:List V} {ds':List DV} {pu:Bool} {X:Bool->Bool->List DV->Prop} {es es':List (List L)} {Z:Eff->Prop} {T:Prop} [i:HC f T] {α:Type} {m:Option α} {z:α} (e:m=some z) (hx:Wt (Zwf O dst es' Z es vs)) (h:T->m=some z->SS P f es es':=by intro h e;apply h;exact e):Za5 P f ds' pu X (XBy P O dst f (some vs) Z):=.inr (Zuc (h i.h e) hx.h)
section
variable {d f k τ n:Nat} {Z:Eff->Prop} {dst:Option Nat} {b ok:Bool} {m:Int}
theorem ZxG {ks:List Nat}:fnK O d f Z (some ks)=(d<O.nt/\Z ⟨True,[(d,.one (.clo f ks))],[],[]⟩):=rfl
theorem Zuh:Zl6 []=some []:=rfl
theorem Zug {vs:List V}:Zl6 (.one (.box k 0)::vs)=(Zl6 vs).map (k:: ·):=rfl
theorem ZvW {ks:List Nat} {vs:List V}:ZxO P O dst Z (some (.one (.clo f ks))) (some vs)=Zwb P O dst f (vs++ks.map fun k=>.one (.box k 0)) Z:=rfl
theorem ZtC {x y:Nat} {z:List Value}:ZtD O d ok Z (some (⟨.int .i64,x,y,z⟩,.bool false)) (some (.one (.mp k))) (some (.one (.l (.int .i64 m))))=ZrB O d ok Z m (O.bx.lookup k):=rfl
theorem ZtE {M:List (Int×Bool)}:ZrB O d ok Z m (some [.mc (.ib M)])=(d<O.nt/\Z (Zqa d ok (Ze8 M m))):=rfl
theorem ZtB {r:Option Bool}:Zqa d true r=⟨True,[(d,.tup [(false,[.l (.bool (r.getD false))]),(false,[.l (.bool r.isSome)])])],[],[]⟩:=rfl
theorem ZtA {r:Option Bool}:Zqa d false r=⟨True,[(d,.one (.l (.bool (r.getD false))))],[],[]⟩:=rfl
theorem Ztw:Ztx O d Z none=(d<O.nt/\Z ⟨True,[(d,.one (.mp d))],[(d,[.mc (.ib [])])],[]⟩):=rfl
theorem ZuG {x y:Nat} {z:List Value} {v:Value}:ZwG O Z (some (⟨.int .i64,x,y,z⟩,v)) (some (.one (.mp k))) (some (.one (.l (.int .i64 m)))) (some (.one (.l (.bool b))))=Zwc O k Z m b (O.bx.lookup k):=rfl
theorem ZuH {M:List (Int×Bool)}:Zwc O k Z m b (some [.mc (.ib M)])=Z ⟨True,[],[(k,[.mc (.ib (Zg9 M m b))])],[]⟩:=rfl
theorem Zxh {x y:Nat} {z:List Value} {ks:List Nat}:nfK O d .eql Z (some ⟨.fn,x,y,z⟩) (some (.one (.clo f ks)))=(d<O.nt/\Z ⟨True,[(d,.one (.l (.bool false)))],[],[]⟩):=rfl
theorem Zxg {x y:Nat} {z:List Value} {ks:List Nat}:nfK O d .neq Z (some ⟨.fn,x,y,z⟩) (some (.one (.clo f ks)))=(d<O.nt/\Z ⟨True,[(d,.one (.l (.bool true)))],[],[]⟩):=rfl
theorem Zxf {x y:Nat} {z:List Value}:nfK O d .eql Z (some ⟨.fn,x,y,z⟩) (some (.one .nf))=(d<O.nt/\Z ⟨True,[(d,.one (.l (.bool true)))],[],[]⟩):=rfl
theorem Zxe {x y:Nat} {z:List Value}:nfK O d .neq Z (some ⟨.fn,x,y,z⟩) (some (.one .nf))=(d<O.nt/\Z ⟨True,[(d,.one (.l (.bool false)))],[],[]⟩):=rfl
theorem ZuS {es es':List (List L)}:Zwf O dst es' Z es [.one (.own τ n)]=Zwg O dst es' Z es τ n (O.ar.lookup τ):=rfl
theorem ZuT {es es':List (List L)} {A:Arr}:Zwg O dst es' Z es τ n (some (some A))=(A.es=es/\es.length=n/\dO O.nt dst/\τ<1000000/\Z ⟨True,tmT dst,[],[(τ,some ⟨A.fr,es'⟩)]⟩):=rfl
theorem ZwK:tmT (some d)=[(d,.tup [])]:=rfl
theorem ZwJ:tmT none=[]:=rfl
end
attribute [go_sem] Zvc ZxG Zuh Zug ZvW ZtC ZtE ZtB ZtA Ztw ZuG ZuH Zxh Zxg Zxf Zxe ZuS ZuT ZwK ZwJ
end
def St.Zpl:List (Nat×Nat)->St->St
 | [],O=>O
 | p::q,O=>St.Zpl q (O.ren p.1 p.2)
def ZiR:List (Nat×Nat)->St->Prop
 | [],_=>True
 | p::q,O=>(match O.ar.lookup p.1 with | some (some _)=>True| _=>False)/\O.ar.lookup p.2=none/\p.1<1000000/\p.2<1000000/\ZiR q (O.ren p.1 p.2)
theorem ZbZ:∀{q:List (Nat×Nat)} {O:St},ZiR q O->Zai (St.Zpl q O) O
 | [],_,_=>fun _ _ _ _ h=>h
 | p::q,O,⟨h1,h2,h3,h4,h5⟩=>fun N w0 a w hs=>ZbZ h5 N w0 a w (Zru h1 h2 h3 h4 N w0 a w hs)
theorem fr {O O1:St} {ι:Type} {S:ι->St} {I:ι->Prop} {K:St->Prop} (hK:∀i O',I i->Zai (S i) O'->K O') (q:List (Nat×Nat)) (ts ks τs:List Nat) (i:ι) (hi:I i) (e:O.of ts ks τs [] [] []=O1:=by simp [go_sem];exact rfl) (h1:JK O1 O:=by constructor<;>simp [go_sem,F]<;>omega)
  (hA:ZiR q O1:=by simp [go_sem,ZiR]) (h:JK (S i) (St.Zpl q O1):=by constructor<;>simp [go_sem,St.Zpl,F]<;>omega):K O:=hK i O hi fun N w0 a w hs=>h.into N w0 a w (ZbZ hA N w0 a w (h1.into N w0 a w hs))
theorem Zoe {P:Program} {O:St} {f n:Nat} {dst:Option Nat} {vs0 vs:List V} {r:V} {ds':List DV} {pu:Bool} {X:Bool->Bool->List DV->Prop} {Z:Eff->Prop} {bx bo:List (Nat×List CV)} {ar ao:List (Nat×Option Arr)} (mv:List Nat) (α β γ:Nat->Nat) (c:GC P f n vs0 bx ar r bo ao) (hx:gcK O dst n α β γ vs0 bx ar r bo ao Z (Zdc O mv vs)):Za5 P f ds' pu X (XBy P O dst f (some vs) Z):=.inr (Zd1 mv α β γ c hx)
theorem rr {P:Program} {N:Nat->Prop} {w0:Bs} {Q:Exit->St->Prop} {x:Code} {O O1:St} (th:List Nat) (q:List (Nat×Nat)) (ts ks τs:List Nat) (h:AW P N w0 x Q (St.Zpl q (th.foldl St.ZcB O1))) (ch:List (Nat×V):=[]) (cb:List (Nat×List CV):=[]) (ca:List (Nat×Option Arr):=[]) (e:O.of ts ks τs ch cb ca=O1:=by simp [go_sem];exact rfl) (h1:JK O1 O:=by constructor<;>simp [go_sem,F]<;>omega)
  (hT:ZaR th O1:=by simp [go_sem,ZaR,St.ZcB]) (hA:ZiR q (th.foldl St.ZcB O1):=by simp [go_sem,ZiR,St.ZcB]):AW P N w0 x Q O:=JJ h1.into (JJ (Kr hT) (JJ (ZbZ hA) h))
theorem rn {Q:Exit->St->Prop} {K:St->Prop} {O O1:St} (hK:∀O' O'',Zai O'' O'->Q .normal O''->K O') (th:List Nat) (q:List (Nat×Nat)) (ts ks τs:List Nat) (ch:List (Nat×V):=[]) (cb:List (Nat×List CV):=[]) (ca:List (Nat×Option Arr):=[]) (e:O.of ts ks τs ch cb ca=O1:=by simp [go_sem];exact rfl) (h1:JK O1 O:=by constructor<;>simp [go_sem,F]<;>omega)
  (hT:ZaR th O1:=by simp [go_sem,ZaR,St.ZcB]) (hA:ZiR q (th.foldl St.ZcB O1):=by simp [go_sem,ZiR,St.ZcB]) (h:Q .normal (St.Zpl q (th.foldl St.ZcB O1)):=by simp (maxSteps:=9999999) [go_sem,St.Zpl,St.ZcB,F]):K O:=hK O _ (fun N w0 a w hs=>ZbZ hA N w0 a w (Kr hT N w0 a w (h1.into N w0 a w hs))) h
theorem Zyg {α:Type} {xs:List α} {i:Int} {x:α} (h:at? xs i=some x):0<=i/\i<(xs.length:Int):=by
 have h1:=ZkE h;have h2:=(Zaf h).1;omega
class Enc (α:Type) where c:α->List L
instance:Enc Int:=⟨iC⟩
instance:Enc ByteArray:=⟨sC⟩
instance:Enc Bool:=⟨bC⟩
@[go_sem] theorem ZxJ:(Enc.c:Int->List L)=iC:=rfl
@[go_sem] theorem ZxI:(Enc.c:ByteArray->List L)=sC:=rfl
@[go_sem] theorem Zwq:(Enc.c:Bool->List L)=bC:=rfl
theorem ZyO {α:Type} [Enc α] {xs:List α} {i:Int} {x:α} (h:at? xs i=some x):(xs.map Enc.c)[i.toNat]? =some (Enc.c x)/\∀h,(xs.map Enc.c)[i.toNat]'h=Enc.c x:=by
 refine ⟨by rw [List.getElem?_map,(Zf8 h).2.1];rfl,fun k=> ?_⟩;have:=(Zf8 h).2.2.2 (by simpa using k);rw [List.getElem_map,this]
theorem ZyN {α:Type} {xs:List α} {n:Nat} {i:Int} {x:α} (h:at? ((xs.take n).drop (1:Int).toNat) i=some x):xs[i.toNat+1]? =some x/\∀h,xs[i.toNat+1]'h=x:=by
 have h1:=(Zf8 h).2.1
 have h2:xs[i.toNat+1]? =some x:=by
  rw [show (1:Int).toNat=1 from rfl,List.getElem?_drop,Nat.add_comm] at h1;rw [List.getElem?_take] at h1
  split at h1
  ·exact h1
  ·cases h1
 exact ⟨h2,fun k=>(List.getElem?_eq_some_iff.1 h2).2⟩
@[go_sem] theorem ZwO (xs:List ByteArray):(∀e∈(xs.map sC).tail,e.length=1)↔True:=by
 simp only [iff_true];intro e he;obtain ⟨x,_,rfl⟩:=List.mem_map.1 (List.mem_of_mem_tail he)
 rfl
theorem ZmG {α:Type} {c:α->List L} (hc:∀x,(c x).length=1) (xs:List α) (W:Nat):(∀e∈xs.map c,e.length=W)↔(xs=[]\/W=1):=by
 cases xs with
 | nil=>simp
 | cons x xs=>
  constructor
  ·intro h;exact .inr ((h (c x) (by simp)).symm.trans (hc x))
  ·rintro (h| rfl)
   ·cases h
   ·intro e he;obtain ⟨b,_,rfl⟩:=List.mem_map.1 he;exact hc b
@[go_sem ↓ high] theorem ZyM (xs:List Bool) (W:Nat):(∀e∈xs.map bC,e.length=W)↔(xs=[]\/W=1):=ZmG (fun _=>rfl) xs W
@[go_sem ↓ high] theorem ZyE (xs:List Int) (W:Nat):(∀e∈xs.map iC,e.length=W)↔(xs=[]\/W=1):=ZmG (fun _=>rfl) xs W
@[go_sem ↓ high] theorem Zyw (xs:List ByteArray) (W:Nat):(∀e∈xs.map sC,e.length=W)↔(xs=[]\/W=1):=ZmG (fun _=>rfl) xs W
@[go_sem ↓ high] theorem Zyk (xs ys:List (List L)) (W:Nat):(∀e∈xs++ys,e.length=W)↔(∀e∈xs,e.length=W)/\∀e∈ys,e.length=W:=List.forall_mem_append
@[go_sem ↓ high] theorem Zwt (x:List L) (ys:List (List L)) (W:Nat):(∀e∈x::ys,e.length=W)↔x.length=W/\∀e∈ys,e.length=W:=List.forall_mem_cons
@[go_sem] theorem Zv8 (n:Nat) (es:List (List L)) (h:es.all Zil=true):(es.drop n).all Zil=true:=by
 rw [List.all_eq_true] at h ⊢;exact fun x hx=>h x (List.mem_of_mem_drop hx)
theorem Zsz {α:Type} {xs:List α} {i:Int} {K:Prop} (h:∃x,at? xs i=some x) (k:K):i<(xs.length:Int)/\K:=⟨(Zyg h.choose_spec).2,k⟩
theorem nm {Φ b c:Prop} (F:Φ) (h:b) (g:b->c:=by intro h;(try simp [go_sem] at h);exact h):Φ/\b/\c:=⟨F,h,g h⟩
theorem nf {Φ b c:Prop} (F:Φ) (h:b) (g:b->c:=by intro h;(try simp at h);exact h):Φ/\b/\c:=⟨F,h,g h⟩
theorem au {p:Prop} (h:p:=by
 repeat' (first
  | (obtain ⟨x,e,hM⟩:=bind_some hM
     first
     | (have q:=at_set e;subst q)
     | (have q:=ZyN e;have F:=ZAa F (ZAa q (Zaf e)))
     | (have q:at? (_::_) _=some _:=e;have F:=ZAa (ZAa (nm F (ZyO e)) (Zyg e)) (Zaf e))
     | (have q:=Zaf e;have q':=q;simp only [Array.getElem_toList,Array.getElem?_toList,Int.toNat_zero,Int.toNat_one,Int.reduceToNat] at q';have F:=ZAa F (ZAa q q'))
     | have F:=ZAa F (Zaf e)
     | (have q:=nz_spec e;have q':=q;(try simp at q');have F:=ZAa F (ZAa q q'))
     | (obtain ⟨c,q⟩:=WG e;replace c:=c.symm;subst c;(try simp at q);have F:=ZAa F q)
     | (obtain ⟨c,q⟩:=Zoc e;replace c:=c.symm;subst c;(try simp [go_sem] at q);have F:=ZAa F q)
     | (obtain ⟨c,q⟩:=Zln e;replace c:=c.symm;subst c;(try simp at q);have F:=ZAa F q)
     | (obtain ⟨c,q⟩:=Zj1 e;replace c:=c.symm;subst c;(try simp at q);have F:=ZAa F q)
     | (obtain ⟨c,q⟩:=cut_spec e;replace c:=c.symm;subst c;(try simp at q);have F:=ZAa F q)
     | (obtain ⟨c,q⟩:=cpy_spec e;replace c:=c.symm;subst c;(try simp at q);have F:=ZAa F q)
     | (obtain ⟨c,q⟩:=ZfS e;replace c:=c.symm;subst c;(try simp at q);have F:=ZAa F q))
  | (refine XX (fun K hK=> ?_);simp (maxSteps:=9999999) [go_sem,F])
  | (obtain rfl:=si hM;refine WM ?_;simp (maxSteps:=9999999) [go_sem,F];done)
  | (refine WM ?_;simp (maxSteps:=9999999) [go_sem,F])
  | (refine YK ?_)
  | (refine YT ?_;simp (maxSteps:=9999999) [go_sem,St.Zpl,St.ZcB,F];done)
  | (refine YT ?_)
  | (refine ZkR ?_)
  | (refine VK hM (fun h hM=> ?_) (fun h hM=> ?_)<;>(have F:=nf F h)<;>(first | have F:=ZAa F (lT h)| have F:=ZAa F (lF h)| have F:=ZAa F (eT h)| have F:=ZAa F (eF h)| have F:=ZAa F (lT (nF h))| have F:=ZAa F (lF (nT h))| have F:=ZAa F (eT (nF h))| have F:=ZAa F (eF (nT h))| skip))
  | (refine gd hM (fun h hM=> ?_) (fun h hM=> ?_)<;>(have F:=nf F h)<;>(first | have F:=ZAa F (lT h)| have F:=ZAa F (lF h)| have F:=ZAa F (eT h)| have F:=ZAa F (eF h)| have F:=ZAa F (lT (nF h))| have F:=ZAa F (lF (nT h))| have F:=ZAa F (eT (nF h))| have F:=ZAa F (eF (nT h))| skip))
  | (refine wt ?_;simp (maxSteps:=9999999) [go_sem,F])
  | (refine ZrZ ?_;simp (maxSteps:=9999999) [go_sem,F])
  | (refine Zl4 ?_;simp (maxSteps:=9999999) [go_sem,F])
  | (refine Zud ?_;simp (maxSteps:=9999999) [go_sem,F])
  | (refine Zna ?_;simp (maxSteps:=9999999) [go_sem,F])
  | (refine ZqQ ?_;simp (maxSteps:=9999999) [go_sem,F])
  | (refine Zm9 ?_;simp (maxSteps:=9999999) [go_sem,F])
  | (refine AW_ifT ?_)
  | (refine ZsL ?_)
  | (refine YP (fun K hK=> ?_))
  | (obtain rfl:=si hM;refine Zmg ?_;simp (maxSteps:=9999999) [go_sem,F];done)
  | (refine Zmg ?_;simp (maxSteps:=9999999) [go_sem,St.Zpl,St.ZcB,F];done)
  | (obtain rfl:=si hM;refine Zmg ?_;simp (maxSteps:=9999999) [go_sem,F];omega)
  | (refine hsq (by assumption) ?_)
  | (refine ⟨by omega, ?_⟩)
  | (refine Zsz ⟨_,by assumption⟩ ?_)
  | (obtain rfl:=si hM;simp (maxSteps:=9999999) [go_sem,F];done)
  | (exact fs (by assumption) (by exact si hM))
  | (exact fs (by assumption) (by exact hM))
  | (exact fs2 (by assumption) (by intro a b h;dsimp only;exact h) (by exact hM))
  | (exact fs3 (by assumption) (by intro a b c h;dsimp only;exact h) (by exact hM))
  | (exact fs4 (by assumption) (by intro a b c d h;dsimp only;exact h) (by exact hM))
  | (exact fs5 (by assumption) (by intro a b c d f h;dsimp only;exact h) (by exact hM))
  | (exact fs6 (by assumption) (by intro a b c d f g h;dsimp only;exact h) (by exact hM))
  | (exact fs7 (by assumption) (by intro a b c d f g u h;dsimp only;exact h) (by exact hM))
  | (exact fs8 (by assumption) (by intro a b c d f g u v h;dsimp only;exact h) (by exact hM))
  | (exact fs9 (by assumption) (by intro a b c d f g u v x h;dsimp only;exact h) (by exact hM))
  | (exact fs10 (by assumption) (by intro a b c d f g u v x y h;dsimp only;exact h) (by exact hM))
  | (obtain ⟨x,ec,hM⟩:=bind_some hM
     first
     | refine qI ec ?_
     | refine qP ec ?_
     | refine qS ec ?_
     | refine qZ ec ?_
     | refine qT ec ?_
     | refine qU ec ?_
     | refine qM ec ?_
     | refine qQ ec ?_
     | refine qR ec ?_
     | (first | have F:=ZAa F (Zbc ec)| have F:=ZAa F (JO ec)
        refine qV ec ?_)
     | refine qK ec ?_)
  | (obtain rfl:=si hM;(first | (have hM:=hR4;clear hR4)| (have hM:=hR3;clear hR3)| (have hM:=hR2;clear hR2)| (have hM:=hR1;clear hR1));dsimp only at hM))):p:=h
def cm:Code->Option Nat->Nat
 | .region _ l _,none=>if l.toList.any (fun o=>o.guard.isSome) then 2 else 1
 | .skip,none=>1
 | .exit i,some j=>if i=j then 1 else 0
 | .seq a b,none=>if cm a none=0 then 0 else cm b none
 | .seq a b,some j=>cm a (some j)+if cm a none=0 then 0 else cm b (some j)
 | .cond _ a b,e=>cm a e+cm b e
 | .block i a,none=>cm a none+cm a (some i)
 | .block i a,some j=>if i=j then 0 else cm a (some j)
 | .loop a,some j=>if cm a (some j)=0 then 0 else 2
 | _,_=>0
inductive HT:Type 1
 | e
 | i (A B:HT)
 | j {ι:Type} (fz ts ks τs:List Nat) (ch:ι->List (Nat×V)) (cb:ι->List (Nat×List CV)) (ca:ι->List (Nat×Option Arr)) (A B:HT)
 | J {ι:Type} (fz ts ks τs:List Nat) (ch:ι->List (Nat×V)) (cb:ι->List (Nat×List CV)) (ca:ι->List (Nat×Option Arr)) (A B:HT)
 | l (n:Nat) {ι:Type} {p q:Prop} (h0:p) (h1:q) (fz ts ks τs:List Nat) (ch:ι->List (Nat×V)) (cb:ι->List (Nat×List CV)) (ca:ι->List (Nat×Option Arr)) (A:HT)
 | f (id:Nat) (ts ks τs:List Nat) (ch:List (Nat×V)) (cb:List (Nat×List CV)) (ca:List (Nat×Option Arr)) (A:HT)
 | p (id:Nat) (fz ts ks τs:List Nat) (A:HT)
 | t (th:List Nat) (A:HT)
 | q (n:Nat) (A:HT)
 | o (D:List (List Nat)) (A:HT)
 | r (th:List Nat) (q:List (Nat×Nat)) (ts ks τs:List Nat)
 | R (th:List Nat) (q:List (Nat×Nat)) (ts ks τs:List Nat) (ch:List (Nat×V)) (cb:List (Nat×List CV)) (ca:List (Nat×Option Arr))
def plA (τ n:Nat):Option (Option Arr)->CV
 | some (some A)=>.l (.sl A.es)
 | _=>.own τ n
def plC (O:St) (fz:List Nat):CV->CV
 | .own τ n=>if fz.contains τ then plA τ n (O.ar.lookup τ) else .own τ n
 | c=>c
def plZ (O:St) (fz:List Nat):List CV->List CV->List CV
 | o::os,.any::ns=>plC O fz o::plZ O fz os ns
 | _::os,n::ns=>plC O fz n::plZ O fz os ns
 | _,ns=>ns.map (plC O fz)
def plB (O:St) (fz:List Nat) (ns:List CV):Option (List CV)->List CV
 | some os=>plZ O fz os ns
 | none=>ns.map (plC O fz)
def plT (O:St) (fz:List Nat):V->Option V->V
 | .one c,_=>.one (plC O fz c)
 | .agg ns,some (.agg os)=>.agg (plZ O fz os ns)
 | .agg ns,_=>.agg (ns.map (plC O fz))
 | .tup ps,_=>.tup (ps.map fun p=>(p.1,p.2.map (plC O fz)))
 | .dead,_=>.dead
def St.pl (O O0:St):List Nat->St
 | []=>O
 | f::fz=>⟨O.nt,O.tm.map (fun p=>(p.1,plT O0 (f::fz) p.2 (O0.tm.lookup p.1))),O.bx.map (fun p=>(p.1,plB O0 (f::fz) p.2 (O0.bx.lookup p.1))),O.ar⟩
inductive Ht:HT->Prop
 | mk (h:HT):Ht h
def kd:HT->Nat
 | .e=>0| .i .. =>1| .j .. =>2| .J .. =>3| .f .. =>4| .p .. =>5| .t .. =>6| .q .. =>7| .o .. =>8| .r .. =>9| .R .. =>10| .l n .. =>20+n
theorem kn {h:HT} {p:Prop} (H:Ht h) (e:Nat.blt 0 (kd h)=true) (k:p):p:=k
theorem kq (n:Nat) {h:HT} {p:Prop} (H:Ht h) (e:kd h=n) (k:p):p:=k
section
variable {ι:Type} (ts ks τs:List Nat)
abbrev hj (ch:ι->List (Nat×V)) (A:HT:=.e) (B:HT:=.e) (ca:ι->List (Nat×Option Arr):=fun _=>[]) (cb:ι->List (Nat×List CV):=fun _=>[]):HT:=.j [] ts ks τs ch cb ca A B
abbrev hJ (ch:ι->List (Nat×V)) (A:HT:=.e) (B:HT:=.e) (ca:ι->List (Nat×Option Arr):=fun _=>[]) (cb:ι->List (Nat×List CV):=fun _=>[]):HT:=.J [] ts ks τs ch cb ca A B
abbrev hU (A:HT:=.e) (B:HT:=.e):HT:=.J (ι:=Unit) [] ts ks τs (fun _=>[]) (fun _=>[]) (fun _=>[]) A B
abbrev hl (n:Nat) {p q:Prop} (h0:p) (h1:q) (ch:ι->List (Nat×V)) (A:HT:=.e) (ca:ι->List (Nat×Option Arr):=fun _=>[]) (cb:ι->List (Nat×List CV):=fun _=>[]):HT:=.l n h0 h1 [] ts ks τs ch cb ca A
abbrev hjz (fz:List Nat) (ch:ι->List (Nat×V)) (A:HT:=.e) (B:HT:=.e) (ca:ι->List (Nat×Option Arr):=fun _=>[]) (cb:ι->List (Nat×List CV):=fun _=>[]):HT:=.j fz ts ks τs ch cb ca A B
abbrev hJz (fz:List Nat) (ch:ι->List (Nat×V)) (A:HT:=.e) (B:HT:=.e) (ca:ι->List (Nat×Option Arr):=fun _=>[]) (cb:ι->List (Nat×List CV):=fun _=>[]):HT:=.J fz ts ks τs ch cb ca A B
abbrev hlz (fz:List Nat) (n:Nat) {p q:Prop} (h0:p) (h1:q) (ch:ι->List (Nat×V)) (A:HT:=.e) (ca:ι->List (Nat×Option Arr):=fun _=>[]) (cb:ι->List (Nat×List CV):=fun _=>[]):HT:=.l n h0 h1 fz ts ks τs ch cb ca A
abbrev hf (id:Nat) (A:HT:=.e) (ch:List (Nat×V):=[]) (ca:List (Nat×Option Arr):=[]) (cb:List (Nat×List CV):=[]):HT:=.f id ts ks τs ch cb ca A
abbrev hp (id:Nat) (fz:List Nat) (A:HT:=.e):HT:=.p id fz ts ks τs A
abbrev hR (th:List Nat) (q:List (Nat×Nat)) (ch:List (Nat×V):=[]) (ca:List (Nat×Option Arr):=[]) (cb:List (Nat×List CV):=[]):HT:=.R th q ts ks τs ch cb ca
end
abbrev hth (th:List Nat) (A:HT:=.e):HT:=.t th A
abbrev hq (n:Nat) (A:HT:=.e):HT:=.q n A
abbrev ho (D:List (List Nat)) (A:HT:=.e):HT:=.o D A
section
variable {P:Program} {N:Nat->Prop} {w0:Bs} {Q:Exit->St->Prop} {x y:Code} {O O':St} {K:St->Prop} {ι ρ α β γ δ ε ζ η θ κ μ:Type} {fz ts ks τs:List Nat} {ch:ι->List (Nat×V)} {cb:ι->List (Nat×List CV)} {ca:ι->List (Nat×Option Arr)} {A B:HT} {S:ι->St}
theorem jG (H:Ht (.j fz ts ks τs ch cb ca A B)) (hc:Nat.ble 2 (cm x none)=true) (h:AW P N w0 (.seq x y) Q O):AW P N w0 (.seq x y) Q O:=h
theorem JG (H:Ht (.J fz ts ks τs ch cb ca A B)) (hc:Nat.ble 2 (cm x none)=true) (h:AW P N w0 (.seq x y) Q O):AW P N w0 (.seq x y) Q O:=h
theorem jH {m:Option ι} {g:ι->Option ρ} {r:ρ} (H:Ht (.j fz ts ks τs ch cb ca A B)) (hM:m.bind g=some r) (hx:∀e,m=some e->Ht A->∀K:St->Prop,(∀i O',i=e->Zai (S i) O'->K O')->AW P N w0 x (Kq K Q) O) (hy:∀i,g i=some r->Ht B->AW P N w0 y Q (S i)) (e:∀i,(O.of ts ks τs (ch i) (cb i) (ca i)).pl O fz=S i:=by intro i;simp [go_sem,St.pl,plT,plB,plZ,plC,plA];exact rfl):AW P N w0 (.seq x y) Q O:=
 let ⟨v,h1,h2⟩:=bind_some hM
 Zot S (fun i=>i=v) (hx v h1 (.mk _)) (fun i hi=>hy i (hi▸h2) (.mk _))
theorem JH {m:Option (ι ⊕ α)} {g:ι ⊕ α->Option ρ} {r:ρ} (H:Ht (.J fz ts ks τs ch cb ca A B)) (hM:m.bind g=some r) (hx:∀e,m=some e->g e=some r->Ht A->∀K:St->Prop,(∀i O',.inl i=e->Zai (S i) O'->K O')->AW P N w0 x (Kq K Q) O) (hy:∀i,g (.inl i)=some r->Ht B->AW P N w0 y Q (S i)) (e:∀i,(O.of ts ks τs (ch i) (cb i) (ca i)).pl O fz=S i:=by intro i;simp [go_sem,St.pl,plT,plB,plZ,plC,plA];exact rfl):AW P N w0 (.seq x y) Q O:=
 let ⟨v,h1,h2⟩:=bind_some hM
 Zot S (fun i=>.inl i=v) (hx v h1 h2 (.mk _)) (fun i hi=>hy i (by rw [hi];exact h2) (.mk _))
theorem iH {b:Bool} {C D r:ρ} {o:Operand} (H:Ht (.i A B)) (hM:(if b=true then C else D)=r) (ht:b=true->C=r->Ht A->AW P N w0 x Q O) (hf:b=false->D=r->Ht B->AW P N w0 y Q O) (ho:opd O o=some (.one (.l (.bool b))):=by simp [go_sem,F]):AW P N w0 (.cond o x y) Q O:=
 VK hM (fun a b=>ht a b (.mk _)) (fun a b=>hf a b (.mk _)) ho
theorem l0 {n0:Nat} {p q:Prop} {h0:p} {h1:q} {ch:Unit->List (Nat×V)} {cb:Unit->List (Nat×List CV)} {ca:Unit->List (Nat×Option Arr)} {f:Nat->Option ρ} {k:Nat} {e:ρ} {S:Unit->St} (H:Ht (.l n0 h0 h1 fz ts ks τs ch cb ca A)) (hM:f k=some e) (hb:∀(KL:St->Prop) (n:Nat),(∀i O',f n=some e->Zai (S i) O'->KL O')->f (n+1)=some e->Ht A->q->AW P N w0 x (Kq KL Q) (S ())) (hz:p->∀(_:Unit),¬f 0=some e:=by intro h;intros;simp [h]) (g:∀i,(O.of ts ks τs (ch i) (cb i) (ca i)).pl O fz=S i:=by intro i;simp [go_sem,St.pl,plT,plB,plZ,plC,plA];exact rfl) (hk:JK (S ()) O:=by constructor<;>simp [go_sem,F]<;>omega):AW P N w0 (.loop x) Q O:=
 Zi0 S (fun n i=>f n=some e) k () hM hk.into (fun i=>hz h0 i) fun KL n i hL hM=>hb KL n hL hM (.mk _) h1
theorem l1 {n0:Nat} {p q:Prop} {h0:p} {h1:q} {ch:α->List (Nat×V)} {cb:α->List (Nat×List CV)} {ca:α->List (Nat×Option Arr)} {f:Nat->α->Option ρ} {k:Nat} {a0:α} {e:ρ} {S:α->St} (H:Ht (.l n0 h0 h1 fz ts ks τs ch cb ca A)) (hM:f k a0=some e) (hb:∀(KL:St->Prop) (n:Nat) (a0:α),(∀i O',f n i=some e->Zai (S i) O'->KL O')->f (n+1) a0=some e->Ht A->q->AW P N w0 x (Kq KL Q) (S a0)) (hz:p->∀(a0:α),¬f 0 a0=some e:=by intro h;intros;simp [h]) (g:∀i,(O.of ts ks τs (ch i) (cb i) (ca i)).pl O fz=S i:=by intro i;simp [go_sem,St.pl,plT,plB,plZ,plC,plA];exact rfl) (hk:JK (S a0) O:=by constructor<;>simp [go_sem,F]<;>omega):AW P N w0 (.loop x) Q O:=
 Zi0 S (fun n i=>f n i=some e) k a0 hM hk.into (fun i=>hz h0 i) fun KL n i hL hM=>hb KL n i hL hM (.mk _) h1
theorem l2 {n0:Nat} {p q:Prop} {h0:p} {h1:q} {ch:α×β->List (Nat×V)} {cb:α×β->List (Nat×List CV)} {ca:α×β->List (Nat×Option Arr)} {f:Nat->α->β->Option ρ} {k:Nat} {a0:α} {a1:β} {e:ρ} {S:α×β->St} (H:Ht (.l n0 h0 h1 fz ts ks τs ch cb ca A)) (hM:f k a0 a1=some e) (hb:∀(KL:St->Prop) (n:Nat) (a0:α) (a1:β),(∀i O',f n i.1 i.2=some e->Zai (S i) O'->KL O')->f (n+1) a0 a1=some e->Ht A->q->AW P N w0 x (Kq KL Q) (S (a0,a1))) (hz:p->∀(a0:α) (a1:β),¬f 0 a0 a1=some e:=by intro h;intros;simp [h]) (g:∀i,(O.of ts ks τs (ch i) (cb i) (ca i)).pl O fz=S i:=by intro i;simp [go_sem,St.pl,plT,plB,plZ,plC,plA];exact rfl) (hk:JK (S (a0,a1)) O:=by constructor<;>simp [go_sem,F]<;>omega):AW P N w0 (.loop x) Q O:=
 Zi0 S (fun n i=>f n i.1 i.2=some e) k (a0,a1) hM hk.into (fun i=>hz h0 i.1 i.2) fun KL n i hL hM=>hb KL n i.1 i.2 hL hM (.mk _) h1
theorem l3 {n0:Nat} {p q:Prop} {h0:p} {h1:q} {ch:α×β×γ->List (Nat×V)} {cb:α×β×γ->List (Nat×List CV)} {ca:α×β×γ->List (Nat×Option Arr)} {f:Nat->α->β->γ->Option ρ} {k:Nat} {a0:α} {a1:β} {a2:γ} {e:ρ} {S:α×β×γ->St} (H:Ht (.l n0 h0 h1 fz ts ks τs ch cb ca A)) (hM:f k a0 a1 a2=some e) (hb:∀(KL:St->Prop) (n:Nat) (a0:α) (a1:β) (a2:γ),(∀i O',f n i.1 i.2.1 i.2.2=some e->Zai (S i) O'->KL O')->f (n+1) a0 a1 a2=some e->Ht A->q->AW P N w0 x (Kq KL Q) (S (a0,a1,a2))) (hz:p->∀(a0:α) (a1:β) (a2:γ),¬f 0 a0 a1 a2=some e:=by intro h;intros;simp [h]) (g:∀i,(O.of ts ks τs (ch i) (cb i) (ca i)).pl O fz=S i:=by intro i;simp [go_sem,St.pl,plT,plB,plZ,plC,plA];exact rfl) (hk:JK (S (a0,a1,a2)) O:=by constructor<;>simp [go_sem,F]<;>omega):AW P N w0 (.loop x) Q O:=
 Zi0 S (fun n i=>f n i.1 i.2.1 i.2.2=some e) k (a0,a1,a2) hM hk.into (fun i=>hz h0 i.1 i.2.1 i.2.2) fun KL n i hL hM=>hb KL n i.1 i.2.1 i.2.2 hL hM (.mk _) h1
theorem l4 {n0:Nat} {p q:Prop} {h0:p} {h1:q} {ch:α×β×γ×δ->List (Nat×V)} {cb:α×β×γ×δ->List (Nat×List CV)} {ca:α×β×γ×δ->List (Nat×Option Arr)} {f:Nat->α->β->γ->δ->Option ρ} {k:Nat} {a0:α} {a1:β} {a2:γ} {a3:δ} {e:ρ} {S:α×β×γ×δ->St} (H:Ht (.l n0 h0 h1 fz ts ks τs ch cb ca A)) (hM:f k a0 a1 a2 a3=some e) (hb:∀(KL:St->Prop) (n:Nat) (a0:α) (a1:β) (a2:γ) (a3:δ),(∀i O',f n i.1 i.2.1 i.2.2.1 i.2.2.2=some e->Zai (S i) O'->KL O')->f (n+1) a0 a1 a2 a3=some e->Ht A->q->AW P N w0 x (Kq KL Q) (S (a0,a1,a2,a3))) (hz:p->∀(a0:α) (a1:β) (a2:γ) (a3:δ),¬f 0 a0 a1 a2 a3=some e:=by intro h;intros;simp [h]) (g:∀i,(O.of ts ks τs (ch i) (cb i) (ca i)).pl O fz=S i:=by intro i;simp [go_sem,St.pl,plT,plB,plZ,plC,plA];exact rfl) (hk:JK (S (a0,a1,a2,a3)) O:=by constructor<;>simp [go_sem,F]<;>omega):AW P N w0 (.loop x) Q O:=
 Zi0 S (fun n i=>f n i.1 i.2.1 i.2.2.1 i.2.2.2=some e) k (a0,a1,a2,a3) hM hk.into (fun i=>hz h0 i.1 i.2.1 i.2.2.1 i.2.2.2) fun KL n i hL hM=>hb KL n i.1 i.2.1 i.2.2.1 i.2.2.2 hL hM (.mk _) h1
theorem l5 {n0:Nat} {p q:Prop} {h0:p} {h1:q} {ch:α×β×γ×δ×ε->List (Nat×V)} {cb:α×β×γ×δ×ε->List (Nat×List CV)} {ca:α×β×γ×δ×ε->List (Nat×Option Arr)} {f:Nat->α->β->γ->δ->ε->Option ρ} {k:Nat} {a0:α} {a1:β} {a2:γ} {a3:δ} {a4:ε} {e:ρ} {S:α×β×γ×δ×ε->St} (H:Ht (.l n0 h0 h1 fz ts ks τs ch cb ca A)) (hM:f k a0 a1 a2 a3 a4=some e) (hb:∀(KL:St->Prop) (n:Nat) (a0:α) (a1:β) (a2:γ) (a3:δ) (a4:ε),(∀i O',f n i.1 i.2.1 i.2.2.1 i.2.2.2.1 i.2.2.2.2=some e->Zai (S i) O'->KL O')->f (n+1) a0 a1 a2 a3 a4=some e->Ht A->q->AW P N w0 x (Kq KL Q) (S (a0,a1,a2,a3,a4))) (hz:p->∀(a0:α) (a1:β) (a2:γ) (a3:δ) (a4:ε),¬f 0 a0 a1 a2 a3 a4=some e:=by intro h;intros;simp [h]) (g:∀i,(O.of ts ks τs (ch i) (cb i) (ca i)).pl O fz=S i:=by intro i;simp [go_sem,St.pl,plT,plB,plZ,plC,plA];exact rfl) (hk:JK (S (a0,a1,a2,a3,a4)) O:=by constructor<;>simp [go_sem,F]<;>omega):AW P N w0 (.loop x) Q O:=
 Zi0 S (fun n i=>f n i.1 i.2.1 i.2.2.1 i.2.2.2.1 i.2.2.2.2=some e) k (a0,a1,a2,a3,a4) hM hk.into (fun i=>hz h0 i.1 i.2.1 i.2.2.1 i.2.2.2.1 i.2.2.2.2) fun KL n i hL hM=>hb KL n i.1 i.2.1 i.2.2.1 i.2.2.2.1 i.2.2.2.2 hL hM (.mk _) h1
theorem l6 {n0:Nat} {p q:Prop} {h0:p} {h1:q} {ch:α×β×γ×δ×ε×ζ->List (Nat×V)} {cb:α×β×γ×δ×ε×ζ->List (Nat×List CV)} {ca:α×β×γ×δ×ε×ζ->List (Nat×Option Arr)} {f:Nat->α->β->γ->δ->ε->ζ->Option ρ} {k:Nat} {a0:α} {a1:β} {a2:γ} {a3:δ} {a4:ε} {a5:ζ} {e:ρ} {S:α×β×γ×δ×ε×ζ->St} (H:Ht (.l n0 h0 h1 fz ts ks τs ch cb ca A)) (hM:f k a0 a1 a2 a3 a4 a5=some e) (hb:∀(KL:St->Prop) (n:Nat) (a0:α) (a1:β) (a2:γ) (a3:δ) (a4:ε) (a5:ζ),(∀i O',f n i.1 i.2.1 i.2.2.1 i.2.2.2.1 i.2.2.2.2.1 i.2.2.2.2.2=some e->Zai (S i) O'->KL O')->f (n+1) a0 a1 a2 a3 a4 a5=some e->Ht A->q->AW P N w0 x (Kq KL Q) (S (a0,a1,a2,a3,a4,a5))) (hz:p->∀(a0:α) (a1:β) (a2:γ) (a3:δ) (a4:ε) (a5:ζ),¬f 0 a0 a1 a2 a3 a4 a5=some e:=by intro h;intros;simp [h]) (g:∀i,(O.of ts ks τs (ch i) (cb i) (ca i)).pl O fz=S i:=by intro i;simp [go_sem,St.pl,plT,plB,plZ,plC,plA];exact rfl) (hk:JK (S (a0,a1,a2,a3,a4,a5)) O:=by constructor<;>simp [go_sem,F]<;>omega):AW P N w0 (.loop x) Q O:=
 Zi0 S (fun n i=>f n i.1 i.2.1 i.2.2.1 i.2.2.2.1 i.2.2.2.2.1 i.2.2.2.2.2=some e) k (a0,a1,a2,a3,a4,a5) hM hk.into (fun i=>hz h0 i.1 i.2.1 i.2.2.1 i.2.2.2.1 i.2.2.2.2.1 i.2.2.2.2.2) fun KL n i hL hM=>hb KL n i.1 i.2.1 i.2.2.1 i.2.2.2.1 i.2.2.2.2.1 i.2.2.2.2.2 hL hM (.mk _) h1
theorem l7 {n0:Nat} {p q:Prop} {h0:p} {h1:q} {ch:α×β×γ×δ×ε×ζ×η->List (Nat×V)} {cb:α×β×γ×δ×ε×ζ×η->List (Nat×List CV)} {ca:α×β×γ×δ×ε×ζ×η->List (Nat×Option Arr)} {f:Nat->α->β->γ->δ->ε->ζ->η->Option ρ} {k:Nat} {a0:α} {a1:β} {a2:γ} {a3:δ} {a4:ε} {a5:ζ} {a6:η} {e:ρ} {S:α×β×γ×δ×ε×ζ×η->St} (H:Ht (.l n0 h0 h1 fz ts ks τs ch cb ca A)) (hM:f k a0 a1 a2 a3 a4 a5 a6=some e) (hb:∀(KL:St->Prop) (n:Nat) (a0:α) (a1:β) (a2:γ) (a3:δ) (a4:ε) (a5:ζ) (a6:η),(∀i O',f n i.1 i.2.1 i.2.2.1 i.2.2.2.1 i.2.2.2.2.1 i.2.2.2.2.2.1 i.2.2.2.2.2.2=some e->Zai (S i) O'->KL O')->f (n+1) a0 a1 a2 a3 a4 a5 a6=some e->Ht A->q->AW P N w0 x (Kq KL Q) (S (a0,a1,a2,a3,a4,a5,a6))) (hz:p->∀(a0:α) (a1:β) (a2:γ) (a3:δ) (a4:ε) (a5:ζ) (a6:η),¬f 0 a0 a1 a2 a3 a4 a5 a6=some e:=by intro h;intros;simp [h]) (g:∀i,(O.of ts ks τs (ch i) (cb i) (ca i)).pl O fz=S i:=by intro i;simp [go_sem,St.pl,plT,plB,plZ,plC,plA];exact rfl) (hk:JK (S (a0,a1,a2,a3,a4,a5,a6)) O:=by constructor<;>simp [go_sem,F]<;>omega):AW P N w0 (.loop x) Q O:=
 Zi0 S (fun n i=>f n i.1 i.2.1 i.2.2.1 i.2.2.2.1 i.2.2.2.2.1 i.2.2.2.2.2.1 i.2.2.2.2.2.2=some e) k (a0,a1,a2,a3,a4,a5,a6) hM hk.into (fun i=>hz h0 i.1 i.2.1 i.2.2.1 i.2.2.2.1 i.2.2.2.2.1 i.2.2.2.2.2.1 i.2.2.2.2.2.2) fun KL n i hL hM=>hb KL n i.1 i.2.1 i.2.2.1 i.2.2.2.1 i.2.2.2.2.1 i.2.2.2.2.2.1 i.2.2.2.2.2.2 hL hM (.mk _) h1
theorem l8 {n0:Nat} {p q:Prop} {h0:p} {h1:q} {ch:α×β×γ×δ×ε×ζ×η×θ->List (Nat×V)} {cb:α×β×γ×δ×ε×ζ×η×θ->List (Nat×List CV)} {ca:α×β×γ×δ×ε×ζ×η×θ->List (Nat×Option Arr)} {f:Nat->α->β->γ->δ->ε->ζ->η->θ->Option ρ} {k:Nat} {a0:α} {a1:β} {a2:γ} {a3:δ} {a4:ε} {a5:ζ} {a6:η} {a7:θ} {e:ρ} {S:α×β×γ×δ×ε×ζ×η×θ->St} (H:Ht (.l n0 h0 h1 fz ts ks τs ch cb ca A)) (hM:f k a0 a1 a2 a3 a4 a5 a6 a7=some e) (hb:∀(KL:St->Prop) (n:Nat) (a0:α) (a1:β) (a2:γ) (a3:δ) (a4:ε) (a5:ζ) (a6:η) (a7:θ),(∀i O',f n i.1 i.2.1 i.2.2.1 i.2.2.2.1 i.2.2.2.2.1 i.2.2.2.2.2.1 i.2.2.2.2.2.2.1 i.2.2.2.2.2.2.2=some e->Zai (S i) O'->KL O')->f (n+1) a0 a1 a2 a3 a4 a5 a6 a7=some e->Ht A->q->AW P N w0 x (Kq KL Q) (S (a0,a1,a2,a3,a4,a5,a6,a7))) (hz:p->∀(a0:α) (a1:β) (a2:γ) (a3:δ) (a4:ε) (a5:ζ) (a6:η) (a7:θ),¬f 0 a0 a1 a2 a3 a4 a5 a6 a7=some e:=by intro h;intros;simp [h]) (g:∀i,(O.of ts ks τs (ch i) (cb i) (ca i)).pl O fz=S i:=by intro i;simp [go_sem,St.pl,plT,plB,plZ,plC,plA];exact rfl) (hk:JK (S (a0,a1,a2,a3,a4,a5,a6,a7)) O:=by constructor<;>simp [go_sem,F]<;>omega):AW P N w0 (.loop x) Q O:=
 Zi0 S (fun n i=>f n i.1 i.2.1 i.2.2.1 i.2.2.2.1 i.2.2.2.2.1 i.2.2.2.2.2.1 i.2.2.2.2.2.2.1 i.2.2.2.2.2.2.2=some e) k (a0,a1,a2,a3,a4,a5,a6,a7) hM hk.into (fun i=>hz h0 i.1 i.2.1 i.2.2.1 i.2.2.2.1 i.2.2.2.2.1 i.2.2.2.2.2.1 i.2.2.2.2.2.2.1 i.2.2.2.2.2.2.2) fun KL n i hL hM=>hb KL n i.1 i.2.1 i.2.2.1 i.2.2.2.1 i.2.2.2.2.1 i.2.2.2.2.2.1 i.2.2.2.2.2.2.1 i.2.2.2.2.2.2.2 hL hM (.mk _) h1
theorem fH1 {id:Nat} {l:List Oper} {d:Bool} {ch:List (Nat×V)} {cb:List (Nat×List CV)} {ca:List (Nat×Option Arr)} (H:Ht (.f id ts ks τs ch cb ca A)) (h:Ht A->AW P N w0 (.seq (.region id l.toArray d) y) Q O') (e:O.of ts ks τs ch cb ca=O':=by simp [go_sem];exact rfl) (k:JK O' O:=by constructor<;>simp [go_sem,F]<;>omega):AW P N w0 (.seq (.region id l.toArray d) y) Q O:=le1 ts ks τs (h (.mk _)) ch cb ca e k
theorem fH2 {id:Nat} {l:List Oper} {d:Bool} {ch:List (Nat×V)} {cb:List (Nat×List CV)} {ca:List (Nat×Option Arr)} (H:Ht (.f id ts ks τs ch cb ca A)) (h:Ht A->AW P N w0 (.region id l.toArray d) Q O') (e:O.of ts ks τs ch cb ca=O':=by simp [go_sem];exact rfl) (k:JK O' O:=by constructor<;>simp [go_sem,F]<;>omega):AW P N w0 (.region id l.toArray d) Q O:=le1 ts ks τs (h (.mk _)) ch cb ca e k
theorem pH1 {id:Nat} {fz:List Nat} {l:List Oper} {d:Bool} (H:Ht (.p id fz ts ks τs A)) (h:Ht A->AW P N w0 (.seq (.region id l.toArray d) y) Q O') (e:(O.of ts ks τs [] [] []).pl O fz=O':=by simp [go_sem,St.pl,plT,plB,plZ,plC,plA];exact rfl) (k:JK O' O:=by constructor<;>simp [go_sem,F]<;>omega):AW P N w0 (.seq (.region id l.toArray d) y) Q O:=JJ k.into (h (.mk _))
theorem pH2 {id:Nat} {fz:List Nat} {l:List Oper} {d:Bool} (H:Ht (.p id fz ts ks τs A)) (h:Ht A->AW P N w0 (.region id l.toArray d) Q O') (e:(O.of ts ks τs [] [] []).pl O fz=O':=by simp [go_sem,St.pl,plT,plB,plZ,plC,plA];exact rfl) (k:JK O' O:=by constructor<;>simp [go_sem,F]<;>omega):AW P N w0 (.region id l.toArray d) Q O:=JJ k.into (h (.mk _))
theorem pH3 {id:Nat} {fz:List Nat} (H:Ht (.p id fz ts ks τs A)) (h:Ht A->AW P N w0 .ret Q O') (e:(O.of ts ks τs [] [] []).pl O fz=O':=by simp [go_sem,St.pl,plT,plB,plZ,plC,plA];exact rfl) (k:JK O' O:=by constructor<;>simp [go_sem,F]<;>omega):AW P N w0 .ret Q O:=JJ k.into (h (.mk _))
theorem tH {th:List Nat} (H:Ht (.t th A)) (h:Ht A->AW P N w0 (.loop x) Q O') (hA:ZaR th O:=by simp [go_sem,ZaR,St.ZcB]) (e:th.foldl St.ZcB O=O':=by simp [go_sem,St.ZcB];exact rfl):AW P N w0 (.loop x) Q O:=JJ (Kr hA) (by rw [e];exact h (.mk _))
theorem qH {id n:Nat} {l:List Oper} (H:Ht (.q n A)) (hm:P.follows .mixedOrders=true) (hd:Za4 l (Zio l)=true) (hl:Zqf l (Zio l) n=true)
  (h:Ht A->ZW P l.toArray (l.take n) O (fun O1=>O1.bx.length=O.bx.length/\O1.ar.length=O.ar.length/\Zii O (l.take n)/\ZW P l.toArray (l.drop n) O1 (fun O'=>Q .normal O'))) (hnd:(Zio l).all (fun d=>d.all fun k=>decide (k<1000000))=true:=by kernel_rfl):AW P N w0 (.region id l.toArray true) Q O:=QM n hm hd hl (h (.mk _)) hnd
theorem oH {id:Nat} {D:List (List Nat)} {l:List Oper} (H:Ht (.o D A)) (hm:P.follows .mixedOrders=true) (hd:Za4 l D=true) (h:Ht A->ZdB P l.toArray O (fun O'=>Q .normal O') D D l 0 []):AW P N w0 (.region id l.toArray true) Q O:=Zgb D hm hd (h (.mk _))
theorem rH {th:List Nat} {q:List (Nat×Nat)} {I:ι->Prop} {O1:St} (H:Ht (.r th q ts ks τs)) (hK:∀i O',I i->Zai (S i) O'->K O') (h:Ht .e->∀K1:St->Prop,(∀i O',I i->Zai (S i) O'->K1 O')->K1 (St.Zpl q (th.foldl St.ZcB O1))) (e:O.of ts ks τs [] [] []=O1:=by simp [go_sem];exact rfl) (h1:JK O1 O:=by constructor<;>simp [go_sem,F]<;>omega)
  (hT:ZaR th O1:=by simp [go_sem,ZaR,St.ZcB]) (hA:ZiR q (th.foldl St.ZcB O1):=by simp [go_sem,ZiR,St.ZcB]):K O:=
 h (.mk _) (fun τ=>∀τ',Zai τ τ'->K τ') (fun i O' hi hs τ' ht=>hK i τ' hi fun N w0 a w hw=>hs N w0 a w (ht N w0 a w hw)) O fun N w0 a w hs=>ZbZ hA N w0 a w (Kr hT N w0 a w (h1.into N w0 a w hs))
theorem gA (h:AW P N w0 x Q O):AW P N w0 x Q O:=h
theorem gC {f:Nat} {ds:List DV} {pu:Bool} {X:Bool->Bool->List DV->Prop} {Y:Prop} (h:Za5 P f ds pu X Y):Za5 P f ds pu X Y:=h
theorem gG {ops:Array Oper} {o:Oper} {rest:List Oper} {want:Bool} {v:Option Bool} (h:WL P ops o rest O K want v):WL P ops o rest O K want v:=h
theorem gB {o:Oper} {Z:Eff->Prop} (h:HBy P O o Z):HBy P O o Z:=h
theorem gY {p:Prop} (h:p):p:=h
theorem esc {a:α} {e:β ⊕ α} (h:some (Sum.inr a)=some e):Sum.inr a=e:=Zz9 h
end
theorem av {p:Prop} (h:p:=by
 repeat' (first
  | (obtain ⟨x,e,hM⟩:=bind_some hM
     first
     | ((with_reducible have q:=at_set e);subst q)
     | ((with_reducible have q:=ZyN e);have F:=ZAa F (ZAa q (Zaf e)))
     | ((with_reducible have q:at? (_::_) _=some _:=e);have F:=ZAa (ZAa (nm F (ZyO e)) (Zyg e)) (Zaf e))
     | ((with_reducible have q:=Zaf e);have q':=ZAa (ZkE e) q;simp only [Array.getElem_toList,Array.getElem?_toList,Int.toNat_zero,Int.toNat_one,Int.reduceToNat] at q';have F:=ZAa F (ZAa q q'))
     | with_reducible have F:=ZAa F (Zaf e)
     | ((with_reducible have q:=nz_spec e);have q':=q;(try simp at q');have F:=ZAa F (ZAa q q'))
     | ((with_reducible have q:=WG e);obtain ⟨c,q⟩:=q;replace c:=c.symm;subst c;(try simp at q);have F:=ZAa F q)
     | ((with_reducible have q:=Zoc e);obtain ⟨c,q⟩:=q;replace c:=c.symm;subst c;(try simp [go_sem] at q);have F:=ZAa F q)
     | ((with_reducible have q:=Zln e);obtain ⟨c,q⟩:=q;replace c:=c.symm;subst c;(try simp at q);have F:=ZAa F q)
     | ((with_reducible have q:=Zj1 e);obtain ⟨c,q⟩:=q;replace c:=c.symm;subst c;(try simp at q);have F:=ZAa F q)
     | ((with_reducible have q:=cut_spec e);obtain ⟨c,q⟩:=q;replace c:=c.symm;subst c;(try simp at q);have F:=ZAa F q)
     | ((with_reducible have q:=cpy_spec e);obtain ⟨c,q⟩:=q;replace c:=c.symm;subst c;(try simp at q);have F:=ZAa F q)
     | ((with_reducible have q:=ZfS e);obtain ⟨c,q⟩:=q;replace c:=c.symm;subst c;(try simp at q);have F:=ZAa F q))
  | (obtain rfl:=esc hM;have hM:=hR;clear hR;dsimp only at hM)
  | (refine gA ?_
     first
     | (refine kn H (by rfl) ?_
        first
        | (refine kq 2 H (by rfl) ?_;refine jG H (by rfl) ?_;refine jH H hM (fun e hM H K hK=> ?_) ?_;rotate_left;intro i hM H;(repeat (obtain ⟨_,i⟩:_×_:=i));(try dsimp only at hM);rotate_right)
        | (refine kq 3 H (by rfl) ?_;refine JG H (by rfl) ?_;refine JH H hM (fun e hM hR H K hK=> ?_) ?_;rotate_left;intro i hM H;(repeat (obtain ⟨_,i⟩:_×_:=i));(try dsimp only at hM);rotate_right)
        | (refine kq 20 H (by rfl) ?_;refine l0 H hM (fun KL n hL hM H hq=> ?_);rw [hq] at hM;clear hq)
        | (refine kq 21 H (by rfl) ?_;refine l1 H hM (fun KL n a0 hL hM H hq=> ?_);rw [hq] at hM;clear hq)
        | (refine kq 22 H (by rfl) ?_;refine l2 H hM (fun KL n a0 a1 hL hM H hq=> ?_);rw [hq] at hM;clear hq)
        | (refine kq 23 H (by rfl) ?_;refine l3 H hM (fun KL n a0 a1 a2 hL hM H hq=> ?_);rw [hq] at hM;clear hq)
        | (refine kq 24 H (by rfl) ?_;refine l4 H hM (fun KL n a0 a1 a2 a3 hL hM H hq=> ?_);rw [hq] at hM;clear hq)
        | (refine kq 25 H (by rfl) ?_;refine l5 H hM (fun KL n a0 a1 a2 a3 a4 hL hM H hq=> ?_);rw [hq] at hM;clear hq)
        | (refine kq 26 H (by rfl) ?_;refine l6 H hM (fun KL n a0 a1 a2 a3 a4 a5 hL hM H hq=> ?_);rw [hq] at hM;clear hq)
        | (refine kq 27 H (by rfl) ?_;refine l7 H hM (fun KL n a0 a1 a2 a3 a4 a5 a6 hL hM H hq=> ?_);rw [hq] at hM;clear hq)
        | (refine kq 28 H (by rfl) ?_;refine l8 H hM (fun KL n a0 a1 a2 a3 a4 a5 a6 a7 hL hM H hq=> ?_);rw [hq] at hM;clear hq)
        | (refine kq 29 H (by rfl) ?_;refine l9 H hM (fun KL n a0 a1 a2 a3 a4 a5 a6 a7 a8 hL hM H hq=> ?_);rw [hq] at hM;clear hq)
        | (refine kq 30 H (by rfl) ?_;refine l10 H hM (fun KL n a0 a1 a2 a3 a4 a5 a6 a7 a8 a9 hL hM H hq=> ?_);rw [hq] at hM;clear hq)
        | (refine kq 4 H (by rfl) ?_;first | refine fH1 H (fun H=> ?_)| refine fH2 H (fun H=> ?_)| refine fH3 H (fun H=> ?_))
        | (refine kq 5 H (by rfl) ?_;first | refine pH1 H (fun H=> ?_)| refine pH2 H (fun H=> ?_)| refine pH3 H (fun H=> ?_))
        | (refine kq 6 H (by rfl) ?_;refine tH H (fun H=> ?_))
        | (refine kq 7 H (by rfl) ?_;refine qH H mixed (by kernel_rfl) (by kernel_rfl) (fun H=> ?_);simp (maxSteps:=9999999) [go_sem,F])
        | (refine kq 8 H (by rfl) ?_;refine oH H mixed (by kernel_rfl) (fun H=> ?_);simp (maxSteps:=9999999) [go_sem,F])
        | (refine kq 10 H (by rfl) ?_;obtain rfl:=si hM;refine RH H (fun H=> ?_))
        | (refine kq 1 H (by rfl) ?_;refine iH H hM (fun h hM H=> ?_) (fun h hM H=> ?_)<;>(have F:=nf F h)<;>(first | have F:=ZAa F (lT h)| have F:=ZAa F (lF h)| have F:=ZAa F (eT h)| have F:=ZAa F (eF h)| have F:=ZAa F (lT (nF h))| have F:=ZAa F (lF (nT h))| have F:=ZAa F (eT (nF h))| have F:=ZAa F (eF (nT h))| skip)))
     | (refine XX (fun K hK=> ?_);simp (maxSteps:=9999999) [go_sem,F])
     | (refine WM ?_;simp (maxSteps:=9999999) [go_sem,F])
     | refine YK ?_
     | refine YT ?_
     | refine ZkR ?_
     | (refine VK hM (fun h hM=> ?_) (fun h hM=> ?_)<;>(have F:=nf F h)<;>(first | have F:=ZAa F (lT h)| have F:=ZAa F (lF h)| have F:=ZAa F (eT h)| have F:=ZAa F (eF h)| have F:=ZAa F (lT (nF h))| have F:=ZAa F (lF (nT h))| have F:=ZAa F (eT (nF h))| have F:=ZAa F (eF (nT h))| skip))
     | refine AW_ifT ?_
     | refine ZsL ?_
     | refine YP (fun K hK=> ?_)
     | (obtain rfl:=si hM;refine Zmg ?_;simp (maxSteps:=9999999) [go_sem,St.Zpl,St.ZcB,F];(first | done| omega)))
  | (refine gC ?_;obtain ⟨x,ec,hM⟩:=bind_some hM
     first
     | refine qI ec ?_
     | refine qZ ec ?_
     | refine qU ec ?_
     | refine qM ec ?_
     | refine qR ec ?_
     | (first | have F:=ZAa F (Zbc ec)| have F:=ZAa F (JO ec)
        refine qV ec ?_)
     | refine qP ec ?_
     | refine qS ec ?_
     | refine qT ec ?_
     | refine qQ ec ?_)
  | (refine gG ?_
     first
     | (refine gH H hM (fun h hM H=> ?_) (fun h hM H=> ?_)<;>(have F:=nf F h)<;>(first | have F:=ZAa F (lT h)| have F:=ZAa F (lF h)| have F:=ZAa F (eT h)| have F:=ZAa F (eF h)| have F:=ZAa F (lT (nF h))| have F:=ZAa F (lF (nT h))| have F:=ZAa F (eT (nF h))| have F:=ZAa F (eF (nT h))| skip))
     | (refine gd hM (fun h hM=> ?_) (fun h hM=> ?_)<;>(have F:=nf F h)<;>(first | have F:=ZAa F (lT h)| have F:=ZAa F (lF h)| have F:=ZAa F (eT h)| have F:=ZAa F (eF h)| have F:=ZAa F (lT (nF h))| have F:=ZAa F (lF (nT h))| have F:=ZAa F (eT (nF h))| have F:=ZAa F (eF (nT h))| skip)))
  | (refine wt ?_;simp (maxSteps:=9999999) [go_sem,F])
  | (refine gB ?_
     first
     | refine ZrZ ?_
     | refine Zl4 ?_
     | refine Zud ?_
     | refine Zna ?_
     | refine ZqQ ?_
     | refine Zm9 ?_
     simp (maxSteps:=9999999) [go_sem,F])
  | (refine hsq (by assumption) ?_)
  | (refine kn H (by rfl) ?_;refine kq 9 H (by rfl) ?_;refine rH H (by assumption) (fun H K hK=> ?_);simp (maxSteps:=9999999) [go_sem,St.Zpl,St.ZcB,F])
  | (exact fs (by assumption) (by exact si hM))
  | (exact fs (by assumption) (by exact hM))
  | (exact fs2 (by assumption) (by intro a b h;dsimp only;exact h) (by exact hM))
  | (exact fs3 (by assumption) (by intro a b c h;dsimp only;exact h) (by exact hM))
  | (exact fs4 (by assumption) (by intro a b c d h;dsimp only;exact h) (by exact hM))
  | (exact fs5 (by assumption) (by intro a b c d f h;dsimp only;exact h) (by exact hM))
  | (exact fs6 (by assumption) (by intro a b c d f g h;dsimp only;exact h) (by exact hM))
  | (exact fs7 (by assumption) (by intro a b c d f g u h;dsimp only;exact h) (by exact hM))
  | (exact fs8 (by assumption) (by intro a b c d f g u v h;dsimp only;exact h) (by exact hM))
  | (exact fs9 (by assumption) (by intro a b c d f g u v x h;dsimp only;exact h) (by exact hM))
  | (exact fs10 (by assumption) (by intro a b c d f g u v x y h;dsimp only;exact h) (by exact hM))
  | (refine ⟨U8 (by kernel_rfl), ?_⟩)
  | (refine ⟨by omega, ?_⟩)
  | (refine Zsz ⟨_,by assumption⟩ ?_)
  | (refine gY ?_;obtain ⟨x,ec,hM⟩:=bind_some hM;first | refine qP ec ?_| refine qS ec ?_| refine qT ec ?_| refine qQ ec ?_| refine qK ec ?_)
  | (obtain rfl:=si hM;simp (maxSteps:=9999999) [go_sem,F];done)
  | (obtain rfl:=si hM;have hM:=hR;clear hR;dsimp only at hM))):p:=h
theorem wM {P:Program} {f:Nat} {fn:Func} {c:Code} {nt:Nat} {rv:Array ResultVar} (hf:P.funcs[f]? =some fn) (hnt:fn.ntmps=nt) (hrv:fn.results=rv) (H:HT) {ds:List DV} {fr:Bool} {rs:List DV} (hok:X0 P f=true:=by kernel_rfl) (hb:fn.body=some c:=by rfl) (hds:ds.length<=nt:=by simp)
  (h:∀N w0,Bok N w0->True->Ht H->AW P N w0 c (ZvJ P rv fr rs) ⟨nt,ZdK 0 ds,[],[]⟩:=by intro N w0 hbad F H;exact av):Ctr P f ds fr rs:=ZjC hf hnt hrv (fun N w0 hb t=>h N w0 hb t (.mk _)) hok hb hds
theorem wP {P:Program} {f:Nat} {fn:Func} {c:Code} {nt:Nat} {rv:Array ResultVar} (hf:P.funcs[f]? =some fn) (hnt:fn.ntmps=nt) (hrv:fn.results=rv) (H:HT) {d1 d2:List DV} {cs ls:List L} {fr:Bool} {rs:List DV} (hok:X0 P f=true:=by kernel_rfl) (hb:fn.body=some c:=by rfl) (hds:d1.length+1+d2.length<=nt:=by simp)
  (h:∀N w0,Bok N w0->True->Ht H->AW P N w0 c (ZvK P rv fr rs nt (nt+d1.length) ls) ⟨nt,ZdK 0 d1++(d1.length,.one (.box (nt+d1.length) 0))::ZdK (d1.length+1) d2,[(nt+d1.length,cs.map .l)],[]⟩:=by intro N w0 hbad F H;exact av):ZcU P f d1 cs d2 fr rs ls:=Zwz hf hnt hrv (fun N w0 hb t=>h N w0 hb t (.mk _)) hok hb hds
class Da (α:Type) where d:α->DV
instance:Da Int:=⟨fun n=>.one (.int .i64 n)⟩
instance:Da Bool:=⟨fun b=>.one (.bool b)⟩
instance:Da ByteArray:=⟨fun s=>.one (.str s)⟩
instance {α:Type} [Enc α]:Da (List α):=⟨fun xs=>.one (.sl (xs.map Enc.c))⟩
class Rs (ρ:Type) where l:ρ->List DV
instance {α:Type} [Da α]:Rs α:=⟨fun x=>[Da.d x]⟩
instance {α β:Type} [Da α] [Rs β]:Rs (α×β):=⟨fun x=>Da.d x.1::Rs.l x.2⟩
instance:Rs Unit:=⟨fun _=>[]⟩
instance {α:Type} [Enc α]:Enc (List α):=⟨lC Enc.c⟩
@[go_sem] theorem Zwp {α:Type} [Enc α]:(Enc.c:List α->List L)=lC Enc.c:=rfl
@[go_sem] theorem ZyK (n:Int):Da.d n= .one (.int .i64 n):=rfl
@[go_sem] theorem ZxN (b:Bool):Da.d b= .one (.bool b):=rfl
@[go_sem] theorem ZyJ (s:ByteArray):Da.d s= .one (.str s):=rfl
@[go_sem] theorem ZxM {α:Type} [Enc α] (xs:List α):Da.d xs= .one (.sl (xs.map Enc.c)):=rfl
@[go_sem] theorem Zyy {α:Type} [Da α] (x:α):Rs.l x=[Da.d x]:=rfl
@[go_sem] theorem Zyx {α β:Type} [Da α] [Rs β] (x:α×β):Rs.l x=Da.d x.1::Rs.l x.2:=rfl
@[go_sem] theorem ZwP (x:Unit):Rs.l x=[]:=rfl
class CT (φ:Type) where
 t:(List DV->List DV->Prop)->φ->Prop
 m:∀{C C':List DV->List DV->Prop} {g:φ},(∀ds rs,C ds rs->C' ds rs)->t C g->t C' g
instance {α β:Type} [Da α] [CT β]:CT (α->β):=⟨fun C g=>∀a:α,CT.t (fun ds rs=>C (Da.d a::ds) rs) (g a),fun h k a=>CT.m (fun _ _=>h _ _) (k a)⟩
instance {β:Type} [CT β]:CT (Nat->β):=⟨fun C g=>∀k:Nat,CT.t C (g k),fun h k n=>CT.m h (k n)⟩
instance {ρ:Type} [Rs ρ]:CT (Option ρ):=⟨fun C m=>∀r,m=some r->C [] (Rs.l r),fun h k r e=>h _ _ (k r e)⟩
abbrev kT (P:Program) (f:Nat) (fr:Bool) {φ:Type} [CT φ] (g:φ):Prop:=CT.t (fun ds rs=>Ctr P f ds fr rs) g
theorem wK {P:Program} {f:Nat} {fn:Func} {c:Code} {nt:Nat} {rv:Array ResultVar} {fr:Bool} {φ:Type} [CT φ] {g:φ} {q:Prop} (hf:P.funcs[f]? =some fn) (hnt:fn.ntmps=nt) (hrv:fn.results=rv) (hq:q) (H:HT) (hok:X0 P f=true:=by kernel_rfl) (hb:fn.body=some c:=by rfl)
  (h:q->CT.t (fun ds rs=>ds.length<=nt/\∀N w0,Bok N w0->True->Ht H->AW P N w0 c (ZvJ P rv fr rs) ⟨nt,ZdK 0 ds,[],[]⟩) g:=by intro hq;(repeat intro hM);rw [hq] at hM;refine ⟨by simp, ?_⟩;intro N w0 hbad F H;exact av):kT P f fr g:=
 CT.m (fun ds rs k=>ZjC hf hnt hrv (fun N w0 hb t=>k.2 N w0 hb t (.mk _)) hok hb k.1) (h hq)
end Go.Proofs.YtpblakfidofgfaaGreatDoor.Am
namespace Go.Proofs.YtpblakfidofgfaaGreatDoor
open Go.RowKit Am
structure Zs where
 id:Int
 version:Int
 kind:Int
 name:ByteArray
 code:ByteArray
 n:Int
def Zs.c (x:Zs):List L:=[.int .i64 x.id,.int .i64 x.version,.int .i64 x.kind,.str x.name,.str x.code,.int .i64 x.n]
@[go_sem] theorem Zs.Qr (x:Zs):x.c=[.int .i64 x.id,.int .i64 x.version,.int .i64 x.kind,.str x.name,.str x.code,.int .i64 x.n]:=rfl
structure Zh where
 cells:List Zs
def Zh.c (x:Zh):List L:=[.sl (x.cells.map Zs.c)]
@[go_sem] theorem Zh.Qr (x:Zh):x.c=[.sl (x.cells.map Zs.c)]:=rfl
structure ZD where
 name:ByteArray
 n:Int
def ZD.c (x:ZD):List L:=[.str x.name,.int .i64 x.n]
@[go_sem] theorem ZD.Qr (x:ZD):x.c=[.str x.name,.int .i64 x.n]:=rfl
structure Z3 where
 clock:Int
 seed:Int
 files:List ZD
def Z3.c (x:Z3):List L:=[.int .i64 x.clock,.int .i64 x.seed,.sl (x.files.map ZD.c)]
@[go_sem] theorem Z3.Qr (x:Z3):x.c=[.int .i64 x.clock,.int .i64 x.seed,.sl (x.files.map ZD.c)]:=rfl
structure Zl where
 cell:Int
 row:Int
def Zl.c (x:Zl):List L:=[.int .i64 x.cell,.int .i64 x.row]
@[go_sem] theorem Zl.Qr (x:Zl):x.c=[.int .i64 x.cell,.int .i64 x.row]:=rfl
@[go_sem] theorem Zl.ZyH (xs:List Zl):xs.all (Zil∘Zl.c)=true:=by simp [Zil,L.flat,Zl.Qr]
structure ZM where
 cells:List Int
 from_:List Zl
def ZM.c (x:ZM):List L:=[.sl (x.cells.map iC),.sl (x.from_.map Zl.c)]
@[go_sem] theorem ZM.Qr (x:ZM):x.c=[.sl (x.cells.map iC),.sl (x.from_.map Zl.c)]:=rfl
structure Za where
 kind:Int
 n:Int
 step:Int
 text:ByteArray
 list:List Za
 columns:List ByteArray
 rows:List ZM
mutual
def Za.c:Za->List L
 | ⟨kind,n,step,text,list,columns,rows⟩=>[.int .i64 kind,.int .i64 n,.int .i64 step,.str text,.sl (Za.cs list),.sl (columns.map sC),.sl (rows.map ZM.c)]
def Za.cs:List Za->List (List L)
 | []=>[]
 | x::xs=>Za.c x::Za.cs xs
end
theorem Za.ZlY:∀xs:List Za,Za.cs xs=xs.map Za.c
 | []=>rfl
 | x::xs=>by rw [Za.cs,Za.ZlY xs];rfl
@[go_sem] theorem Za.Qr (x:Za):x.c=[.int .i64 x.kind,.int .i64 x.n,.int .i64 x.step,.str x.text,.sl (x.list.map Za.c),.sl (x.columns.map sC),.sl (x.rows.map ZM.c)]:=by
 cases x;simp only [Za.c,Za.ZlY]
structure ZQ where
 kind:Int
 n:Int
 time:Int
 text:ByteArray
 result:Za
def ZQ.c (x:ZQ):List L:=[.int .i64 x.kind,.int .i64 x.n,.int .i64 x.time,.str x.text,.int .i64 x.result.kind,.int .i64 x.result.n,.int .i64 x.result.step,.str x.result.text,.sl (x.result.list.map Za.c),.sl (x.result.columns.map sC),.sl (x.result.rows.map ZM.c)]
@[go_sem] theorem ZQ.Qr (x:ZQ):x.c=[.int .i64 x.kind,.int .i64 x.n,.int .i64 x.time,.str x.text,.int .i64 x.result.kind,.int .i64 x.result.n,.int .i64 x.result.step,.str x.result.text,.sl (x.result.list.map Za.c),.sl (x.result.columns.map sC),.sl (x.result.rows.map ZM.c)]:=rfl
structure ZC where
 cell:Int
 version:Int
 reads:List ZQ
def ZC.c (x:ZC):List L:=[.int .i64 x.cell,.int .i64 x.version,.sl (x.reads.map ZQ.c)]
@[go_sem] theorem ZC.Qr (x:ZC):x.c=[.int .i64 x.cell,.int .i64 x.version,.sl (x.reads.map ZQ.c)]:=rfl
structure Zm where
 cell:Int
 version:Int
 stamp:Int
 inputs:List Int
 value:Za
 has:Bool
def Zm.c (x:Zm):List L:=[.int .i64 x.cell,.int .i64 x.version,.int .i64 x.stamp,.sl (x.inputs.map iC),.int .i64 x.value.kind,.int .i64 x.value.n,.int .i64 x.value.step,.str x.value.text,.sl (x.value.list.map Za.c),.sl (x.value.columns.map sC),.sl (x.value.rows.map ZM.c),.bool x.has]
@[go_sem] theorem Zm.Qr (x:Zm):x.c=[.int .i64 x.cell,.int .i64 x.version,.int .i64 x.stamp,.sl (x.inputs.map iC),.int .i64 x.value.kind,.int .i64 x.value.n,.int .i64 x.value.step,.str x.value.text,.sl (x.value.list.map Za.c),.sl (x.value.columns.map sC),.sl (x.value.rows.map ZM.c),.bool x.has]:=rfl
structure Ze where
 notebook:Zh
 world:Z3
 tapes:List ZC
 entries:List Zm
 next:Int
 limit:Int
 work:Int
def Ze.c (x:Ze):List L:=[.sl (x.notebook.cells.map Zs.c),.int .i64 x.world.clock,.int .i64 x.world.seed,.sl (x.world.files.map ZD.c),.sl (x.tapes.map ZC.c),.sl (x.entries.map Zm.c),.int .i64 x.next,.int .i64 x.limit,.int .i64 x.work]
@[go_sem] theorem Ze.Qr (x:Ze):x.c=[.sl (x.notebook.cells.map Zs.c),.int .i64 x.world.clock,.int .i64 x.world.seed,.sl (x.world.files.map ZD.c),.sl (x.tapes.map ZC.c),.sl (x.entries.map Zm.c),.int .i64 x.next,.int .i64 x.limit,.int .i64 x.work]:=rfl
structure Zg where
 kind:Int
 n:Int
 at_:Int
 text:ByteArray
def Zg.c (x:Zg):List L:=[.int .i64 x.kind,.int .i64 x.n,.int .i64 x.at_,.str x.text]
@[go_sem] theorem Zg.Qr (x:Zg):x.c=[.int .i64 x.kind,.int .i64 x.n,.int .i64 x.at_,.str x.text]:=rfl
structure Zc where
 toks:List Zg
 i:Int
 end_:Int
 bad:Int
def Zc.c (x:Zc):List L:=[.sl (x.toks.map Zg.c),.int .i64 x.i,.int .i64 x.end_,.int .i64 x.bad]
@[go_sem] theorem Zc.Qr (x:Zc):x.c=[.sl (x.toks.map Zg.c),.int .i64 x.i,.int .i64 x.end_,.int .i64 x.bad]:=rfl
structure Zb where
 kind:Int
 n:Int
 text:ByteArray
 args:List Zb
mutual
def Zb.c:Zb->List L
 | ⟨kind,n,text,args⟩=>[.int .i64 kind,.int .i64 n,.str text,.sl (Zb.cs args)]
def Zb.cs:List Zb->List (List L)
 | []=>[]
 | x::xs=>Zb.c x::Zb.cs xs
end
theorem Zb.ZlY:∀xs:List Zb,Zb.cs xs=xs.map Zb.c
 | []=>rfl
 | x::xs=>by rw [Zb.cs,Zb.ZlY xs];rfl
@[go_sem] theorem Zb.Qr (x:Zb):x.c=[.int .i64 x.kind,.int .i64 x.n,.str x.text,.sl (x.args.map Zb.c)]:=by
 cases x;simp only [Zb.c,Zb.ZlY]
structure Zi where
 kind:Int
 name:ByteArray
 expr:Zb
 value:Za
 at_:Int
def Zi.c (x:Zi):List L:=[.int .i64 x.kind,.str x.name,.int .i64 x.expr.kind,.int .i64 x.expr.n,.str x.expr.text,.sl (x.expr.args.map Zb.c),.int .i64 x.value.kind,.int .i64 x.value.n,.int .i64 x.value.step,.str x.value.text,.sl (x.value.list.map Za.c),.sl (x.value.columns.map sC),.sl (x.value.rows.map ZM.c),.int .i64 x.at_]
@[go_sem] theorem Zi.Qr (x:Zi):x.c=[.int .i64 x.kind,.str x.name,.int .i64 x.expr.kind,.int .i64 x.expr.n,.str x.expr.text,.sl (x.expr.args.map Zb.c),.int .i64 x.value.kind,.int .i64 x.value.n,.int .i64 x.value.step,.str x.value.text,.sl (x.value.list.map Za.c),.sl (x.value.columns.map sC),.sl (x.value.rows.map ZM.c),.int .i64 x.at_]:=rfl
structure ZT where
 parts:List Zi
 fixed:List Bool
 fresh:List Bool
 known:List Bool
 inputs:List (List Int)
def ZT.c (x:ZT):List L:=[.sl (x.parts.map Zi.c),.sl (x.fixed.map bC),.sl (x.fresh.map bC),.sl (x.known.map bC),.sl (x.inputs.map (lC iC))]
@[go_sem] theorem ZT.Qr (x:ZT):x.c=[.sl (x.parts.map Zi.c),.sl (x.fixed.map bC),.sl (x.fresh.map bC),.sl (x.known.map bC),.sl (x.inputs.map (lC iC))]:=rfl
structure Zd where
 list:List Zg
 at_:Int
 bad:Int
def Zd.c (x:Zd):List L:=[.sl (x.list.map Zg.c),.int .i64 x.at_,.int .i64 x.bad]
@[go_sem] theorem Zd.Qr (x:Zd):x.c=[.sl (x.list.map Zg.c),.int .i64 x.at_,.int .i64 x.bad]:=rfl
open Go.RowKit Am
instance:Da Zs:=⟨fun x=>.agg x.c⟩
@[go_sem] theorem Zs.da (x:Zs):Da.d x= .agg x.c:=rfl
instance:Enc Zs:=⟨Zs.c⟩
@[go_sem] theorem Zs.enc:(Enc.c:Zs->List L)=Zs.c:=rfl
instance:Da Zh:=⟨fun x=>.agg x.c⟩
@[go_sem] theorem Zh.da (x:Zh):Da.d x= .agg x.c:=rfl
instance:Enc Zh:=⟨Zh.c⟩
@[go_sem] theorem Zh.enc:(Enc.c:Zh->List L)=Zh.c:=rfl
instance:Da ZD:=⟨fun x=>.agg x.c⟩
@[go_sem] theorem ZD.da (x:ZD):Da.d x= .agg x.c:=rfl
instance:Enc ZD:=⟨ZD.c⟩
@[go_sem] theorem ZD.enc:(Enc.c:ZD->List L)=ZD.c:=rfl
instance:Da Z3:=⟨fun x=>.agg x.c⟩
@[go_sem] theorem Z3.da (x:Z3):Da.d x= .agg x.c:=rfl
instance:Enc Z3:=⟨Z3.c⟩
@[go_sem] theorem Z3.enc:(Enc.c:Z3->List L)=Z3.c:=rfl
instance:Da Zl:=⟨fun x=>.agg x.c⟩
@[go_sem] theorem Zl.da (x:Zl):Da.d x= .agg x.c:=rfl
instance:Enc Zl:=⟨Zl.c⟩
@[go_sem] theorem Zl.enc:(Enc.c:Zl->List L)=Zl.c:=rfl
instance:Da ZM:=⟨fun x=>.agg x.c⟩
@[go_sem] theorem ZM.da (x:ZM):Da.d x= .agg x.c:=rfl
instance:Enc ZM:=⟨ZM.c⟩
@[go_sem] theorem ZM.enc:(Enc.c:ZM->List L)=ZM.c:=rfl
instance:Da Za:=⟨fun x=>.agg x.c⟩
@[go_sem] theorem Za.da (x:Za):Da.d x= .agg x.c:=rfl
instance:Enc Za:=⟨Za.c⟩
@[go_sem] theorem Za.enc:(Enc.c:Za->List L)=Za.c:=rfl
instance:Da ZQ:=⟨fun x=>.agg x.c⟩
@[go_sem] theorem ZQ.da (x:ZQ):Da.d x= .agg x.c:=rfl
instance:Enc ZQ:=⟨ZQ.c⟩
@[go_sem] theorem ZQ.enc:(Enc.c:ZQ->List L)=ZQ.c:=rfl
instance:Da ZC:=⟨fun x=>.agg x.c⟩
@[go_sem] theorem ZC.da (x:ZC):Da.d x= .agg x.c:=rfl
instance:Enc ZC:=⟨ZC.c⟩
@[go_sem] theorem ZC.enc:(Enc.c:ZC->List L)=ZC.c:=rfl
instance:Da Zm:=⟨fun x=>.agg x.c⟩
@[go_sem] theorem Zm.da (x:Zm):Da.d x= .agg x.c:=rfl
instance:Enc Zm:=⟨Zm.c⟩
@[go_sem] theorem Zm.enc:(Enc.c:Zm->List L)=Zm.c:=rfl
instance:Da Ze:=⟨fun x=>.agg x.c⟩
@[go_sem] theorem Ze.da (x:Ze):Da.d x= .agg x.c:=rfl
instance:Enc Ze:=⟨Ze.c⟩
@[go_sem] theorem Ze.enc:(Enc.c:Ze->List L)=Ze.c:=rfl
instance:Da Zg:=⟨fun x=>.agg x.c⟩
@[go_sem] theorem Zg.da (x:Zg):Da.d x= .agg x.c:=rfl
instance:Enc Zg:=⟨Zg.c⟩
@[go_sem] theorem Zg.enc:(Enc.c:Zg->List L)=Zg.c:=rfl
instance:Da Zc:=⟨fun x=>.agg x.c⟩
@[go_sem] theorem Zc.da (x:Zc):Da.d x= .agg x.c:=rfl
instance:Enc Zc:=⟨Zc.c⟩
@[go_sem] theorem Zc.enc:(Enc.c:Zc->List L)=Zc.c:=rfl
instance:Da Zb:=⟨fun x=>.agg x.c⟩
@[go_sem] theorem Zb.da (x:Zb):Da.d x= .agg x.c:=rfl
instance:Enc Zb:=⟨Zb.c⟩
@[go_sem] theorem Zb.enc:(Enc.c:Zb->List L)=Zb.c:=rfl
instance:Da Zi:=⟨fun x=>.agg x.c⟩
@[go_sem] theorem Zi.da (x:Zi):Da.d x= .agg x.c:=rfl
instance:Enc Zi:=⟨Zi.c⟩
@[go_sem] theorem Zi.enc:(Enc.c:Zi->List L)=Zi.c:=rfl
instance:Da ZT:=⟨fun x=>.agg x.c⟩
@[go_sem] theorem ZT.da (x:ZT):Da.d x= .agg x.c:=rfl
instance:Enc ZT:=⟨ZT.c⟩
@[go_sem] theorem ZT.enc:(Enc.c:ZT->List L)=ZT.c:=rfl
instance:Da Zd:=⟨fun x=>.agg x.c⟩
@[go_sem] theorem Zd.da (x:Zd):Da.d x= .agg x.c:=rfl
instance:Enc Zd:=⟨Zd.c⟩
@[go_sem] theorem Zd.enc:(Enc.c:Zd->List L)=Zd.c:=rfl
open Go.RowKit Am
def Yi (a0 a1:ByteArray):Option Bool:=some (Lib.hasPrefix a0.data.toList a1.data.toList)
def Yh (a0:ByteArray) (a1:Int):Option Int:=some (Lib.indexByte a0.data.toList a1.toNat.toUInt8)
def YL (a0 a1:ByteArray):Option (List ByteArray):=if a0.size<4294967281/\1<=a1.size then some (Lib.splitB a1 0 (Lib.countB a0 a1) a0) else none
def Xj (a0:ByteArray) (a1 a2:Int):Int×Bool:=
 match Lib.atoiAll a0.data.toList with
 | .ok n=>if a1<=n/\n<=a2/\(⟨(Lib.itoa n).toArray⟩:ByteArray)=a0 then (n,true) else (0,false)
 | _=>(0,false)
def Zb2 (a0:ByteArray) (a1 a2:Int):Option (Int×Bool):=if a0.size<=281474976710656 then some (Xj a0 a1 a2) else none
open Go.RowKit Am
def UK (a0:Int) (a1:Int) (a2:Int):Option Bool:= (if (decide (a1<=a0)) then some (decide (a0<=a2)) else some false).bind fun x1=> some x1
def Yv (a0:ByteArray):Nat->Int->Option (Unit ⊕ Bool) | 0,_=>none | n_+1,x1=> if (decide (x1<(a0.size:Int))) then ((at? a0.data.toList x1).bind fun x3=> if (decide ((x3.toNat:Int)<32)) then some true else some (decide (126<(x3.toNat:Int)))).bind fun x2=> if x2 then some (.inr false) else Yv a0 n_ (IntKind.i64.wrap (x1+1)) else some (.inl ())
def Xr (k:Nat) (a0:ByteArray):Option Bool:= (Yv a0 k 0:Option (Unit ⊕ Bool)).bind fun | .inl _=>( some (decide ((a0.size:Int)<=120))) | .inr z4=>( some z4)
def Vh (a0:ByteArray):Nat->Int->Option (Unit ⊕ Bool) | 0,_=>none | n_+1,x1=> if (decide (x1<(a0.size:Int))) then ((at? a0.data.toList x1).bind fun x3=> if (decide (97<=(x3.toNat:Int))) then some (decide ((x3.toNat:Int)<=122)) else some false).bind fun x2=> ((at? a0.data.toList x1).bind fun x5=> if (decide (48<=(x5.toNat:Int))) then some (decide ((x5.toNat:Int)<=57)) else some false).bind fun x4=> (if (!x2) then if (decide (x1=0)) then some true else some (!x4) else some false).bind fun x6=> if x6 then some (.inr false) else Vh a0 n_ (IntKind.i64.wrap (x1+1)) else some (.inl ())
def ZbI (k:Nat) (a0:ByteArray):Option Bool:= (Vh a0 k 0:Option (Unit ⊕ Bool)).bind fun | .inl _=>( some (decide (0<(a0.size:Int)))) | .inr z7=>( some z7)
def QB:Option (List ByteArray):= some [(⟨#[108,101,116]⟩:ByteArray),(⟨#[105,110]⟩:ByteArray),(⟨#[105,102]⟩:ByteArray),(⟨#[116,104,101,110]⟩:ByteArray),(⟨#[101,108,115,101]⟩:ByteArray),(⟨#[102,111,114]⟩:ByteArray),(⟨#[100,111]⟩:ByteArray),(⟨#[108,101,110]⟩:ByteArray),(⟨#[115,117,109]⟩:ByteArray),(⟨#[116,97,107,101]⟩:ByteArray),(⟨#[115,107,105,112]⟩:ByteArray),(⟨#[114,97,110,103,101]⟩:ByteArray),(⟨#[110,116,104]⟩:ByteArray),(⟨#[119,104,101,114,101]⟩:ByteArray),(⟨#[107,101,101,112]⟩:ByteArray),(⟨#[97,100,100]⟩:ByteArray),(⟨#[103,114,111,117,112]⟩:ByteArray),(⟨#[106,111,105,110]⟩:ByteArray),(⟨#[99,111,108,117,109,110]⟩:ByteArray),(⟨#[114,111,119,115]⟩:ByteArray),(⟨#[99,108,111,99,107]⟩:ByteArray),(⟨#[99,104,97,110,99,101]⟩:ByteArray),(⟨#[102,105,108,101]⟩:ByteArray),(⟨#[116,97,98,108,101]⟩:ByteArray)]
def Vi (a0:List ByteArray) (a1:ByteArray):Nat->Int->Option (Unit ⊕ Bool) | 0,_=>none | n_+1,x1=> if (decide (x1<(a0.length:Int))) then (at? a0 x1).bind fun x2=> if (decide (x2=a1)) then some (.inr true) else Vi a0 a1 n_ (IntKind.i64.wrap (x1+1)) else some (.inl ())
def Zav (k:Nat) (a0:List ByteArray) (a1:ByteArray):Option Bool:= (Vi a0 a1 k 0:Option (Unit ⊕ Bool)).bind fun | .inl _=>( some false) | .inr z3=>( some z3)
def Ux (k:Nat) (a0:ByteArray):Option Bool:= (QB).bind fun x1=> (Zav k x1 a0).bind fun x2=> some x2
def ZR (k:Nat) (a0:ByteArray):Option Bool:= ((ZbI k a0).bind fun x2=> if x2 then if (decide ((a0.size:Int)<=8)) then (Ux k a0).bind fun x3=> some (!x3) else some false else some false).bind fun x1=> some x1
def YY (k:Nat) (a0:Zs):Option Bool:= ((UK a0.id 1 999).bind fun x2=> if (!x2) then some true else (UK a0.version 1 999).bind fun x3=> if (!x3) then some true else (Xr k a0.code).bind fun x4=> some (!x4)).bind fun x1=> if x1 then some false else if (decide (a0.kind=1)) then (if (decide (a0.name=(⟨#[]⟩:ByteArray))) then some (decide (a0.n=0)) else some false).bind fun x5=> some x5 else (if (decide (a0.kind=2)) then some true else some (decide (a0.kind=4))).bind fun x6=> if x6 then ((ZR k a0.name).bind fun x8=> if x8 then some (decide (a0.n=0)) else some false).bind fun x7=> some x7 else if (decide (a0.kind=3)) then ((ZR k a0.name).bind fun x10=> if x10 then if (decide (a0.code=(⟨#[]⟩:ByteArray))) then (UK a0.n 0 100).bind fun x11=> some x11 else some false else some false).bind fun x9=> some x9 else some false
def Yp (a0:Zh) (a1:Int):Nat->Int->Option (Unit ⊕ Int) | 0,_=>none | n_+1,x1=> if (decide (x1<(a0.cells.length:Int))) then (at? a0.cells x1).bind fun x2=> if (decide (x2.id=a1)) then some (.inr x1) else Yp a0 a1 n_ (IntKind.i64.wrap (x1+1)) else some (.inl ())
def YR (k:Nat) (a0:Zh) (a1:Int):Option Int:= (Yp a0 a1 k 0:Option (Unit ⊕ Int)).bind fun | .inl _=>( some (-1)) | .inr z3=>( some z3)
def Yt (k:Nat) (a0:Zh):Nat->Int->Option (Unit ⊕ Bool) | 0,_=>none | n_+1,x1=> if (decide (x1<(a0.cells.length:Int))) then ((at? a0.cells x1).bind fun x3=> (YY k x3).bind fun x4=> if (!x4) then some true else (YR k a0 x3.id).bind fun x5=> some (!decide (x5=x1))).bind fun x2=> if x2 then some (.inr false) else Yt k a0 n_ (IntKind.i64.wrap (x1+1)) else some (.inl ())
def Q7 (k:Nat) (a0:Zh):Option Bool:= (Yt k a0 k 0:Option (Unit ⊕ Bool)).bind fun | .inl _=>( some (decide ((a0.cells.length:Int)<=8))) | .inr z6=>( some z6)
def VU (a0:Int):Option Bool:= (if (decide (97<=a0)) then some (decide (a0<=122)) else some false).bind fun x1=> some x1
def Uu (a0:Int):Option Bool:= (if (decide (48<=a0)) then some (decide (a0<=57)) else some false).bind fun x1=> some x1
def ZU:Nat->Int->ByteArray->Option ByteArray | 0,_,_=>none | n_+1,x2,x3=> if (!decide (x2=0)) then (if (decide ((IntKind.i64.wrap (x2.tmod 10))<0)) then some (IntKind.i64.wrap (0-(IntKind.i64.wrap (x2.tmod 10)))) else some (IntKind.i64.wrap (x2.tmod 10))).bind fun x4=> (Zua (Zne [(IntKind.u8.wrap (IntKind.i64.wrap (48+x4)))]) x3).bind fun x5=> ZU n_ (IntKind.i64.wrap (x2.tdiv 10)) x5 else some x3
def Jq (k:Nat) (a0:Int):Option ByteArray:= if (decide (a0=0)) then some (⟨#[48]⟩:ByteArray) else (ZU k a0 (⟨#[]⟩:ByteArray)).bind fun x1=> if (decide (a0<0)) then (Zua (⟨#[45]⟩:ByteArray) x1).bind fun x6=> some x6 else some x1
def WX (x3:ByteArray):Nat->Int->Int->Option (Int ⊕ (Int×Bool)) | 0,_,_=>none | n_+1,x7,x8=> if (decide (x8<(x3.size:Int))) then ((at? x3.data.toList x8).bind fun x10=> if (decide ((x10.toNat:Int)<48)) then some true else some (decide (57<(x10.toNat:Int)))).bind fun x9=> if x9 then some (.inr (0,false)) else (at? x3.data.toList x8).bind fun x11=> WX x3 n_ (IntKind.i64.wrap ((IntKind.i64.wrap (10*x7))+(IntKind.i64.wrap (IntKind.u8.wrap ((x11.toNat:Int)-48))))) (IntKind.i64.wrap (x8+1)) else some (.inl x7)
def ZeL (k:Nat) (a0:ByteArray) (a1:Int):Option (Int×Bool):= (if (decide (0<(a0.size:Int))) then (at? a0.data.toList 0).bind fun x2=> some (decide ((x2.toNat:Int)=45)) else some false).bind fun x1=> (if x1 then (UN a0 1 (a0.size:Int)).bind fun x4=> some x4 else some a0).bind fun x3=> (if (decide ((x3.size:Int)<1)) then some true else some (decide (a1<(x3.size:Int)))).bind fun x5=> if x5 then some (0,false) else (WX x3 k 0 0:Option (Int ⊕ (Int×Bool))).bind fun | .inl x6=>( (if x1 then some (IntKind.i64.wrap (0-x6)) else some x6).bind fun x12=> (Jq k x12).bind fun x13=> if (!decide (x13=a0)) then some (0,false) else some (x12,true)) | .inr z14=>( some z14)
open Go.RowKit Am
def Wv (k:Nat) (a0:ByteArray):Option (Int×Bool):= (ZeL k a0 12).bind fun x1=> some (x1.1,x1.2)
def Qt (a0:ByteArray):Nat->Int->Option (Unit ⊕ Bool) | 0,_=>none | n_+1,x1=> if (decide (x1<(a0.size:Int))) then ((at? a0.data.toList x1).bind fun x3=> if (decide ((x3.toNat:Int)<32)) then some true else if (decide (126<(x3.toNat:Int))) then some true else some (decide ((x3.toNat:Int)=34))).bind fun x2=> if x2 then some (.inr false) else Qt a0 n_ (IntKind.i64.wrap (x1+1)) else some (.inl ())
def Xq (k:Nat) (a0:ByteArray):Option Bool:= (Qt a0 k 0:Option (Unit ⊕ Bool)).bind fun | .inl _=>( some (decide ((a0.size:Int)<=20))) | .inr z4=>( some z4)
def UZ (a0:ByteArray) (a1:Int):Option Int:= (at? a0.data.toList a1).bind fun x1=> (if (decide ((x1.toNat:Int)=40)) then some true else if (decide ((x1.toNat:Int)=41)) then some true else if (decide ((x1.toNat:Int)=91)) then some true else if (decide ((x1.toNat:Int)=93)) then some true else if (decide ((x1.toNat:Int)=44)) then some true else if (decide ((x1.toNat:Int)=43)) then some true else if (decide ((x1.toNat:Int)=45)) then some true else if (decide ((x1.toNat:Int)=42)) then some true else some (decide ((x1.toNat:Int)=60))).bind fun x2=> if x2 then some 1 else if (decide ((x1.toNat:Int)=61)) then (if (decide ((IntKind.i64.wrap (a1+1))<(a0.size:Int))) then (at? a0.data.toList (IntKind.i64.wrap (a1+1))).bind fun x4=> some (decide ((x4.toNat:Int)=61)) else some false).bind fun x3=> if x3 then some 2 else some 1 else some 0
def X3 (a0:ByteArray):Nat->Int->Option Int | 0,_=>none | n_+1,x8=> (if (decide (x8<(a0.size:Int))) then (at? a0.data.toList x8).bind fun x10=> (VU (x10.toNat:Int)).bind fun x11=> if x11 then some true else (Uu (x10.toNat:Int)).bind fun x12=> some x12 else some false).bind fun x9=> if x9 then X3 a0 n_ (IntKind.i64.wrap (x8+1)) else some x8
def X2 (a0:ByteArray):Nat->Int->Option Int | 0,_=>none | n_+1,x16=> (if (decide (x16<(a0.size:Int))) then (at? a0.data.toList x16).bind fun x18=> (Uu (x18.toNat:Int)).bind fun x19=> some x19 else some false).bind fun x17=> if x17 then X2 a0 n_ (IntKind.i64.wrap (x16+1)) else some x16
def X1 (a0:ByteArray):Nat->Int->Option Int | 0,_=>none | n_+1,x24=> (if (decide (x24<(a0.size:Int))) then (at? a0.data.toList x24).bind fun x26=> some (!decide ((x26.toNat:Int)=34)) else some false).bind fun x25=> if x25 then X1 a0 n_ (IntKind.i64.wrap (x24+1)) else some x24
def QX (k:Nat) (a0:ByteArray) (a1:Int):Option (Zg×Int):= ((at? a0.data.toList a1).bind fun x5=> (VU (x5.toNat:Int)).bind fun x6=> if x6 then (X3 a0 k a1).bind fun x7=> (UN a0 a1 x7).bind fun x13=> if (decide (8<(IntKind.i64.wrap (x7-a1)))) then some (.inr ((Zg.mk 1 0 a1 x13),0)) else some (.inl (1,0,x13,x7)) else (Uu (x5.toNat:Int)).bind fun x14=> if x14 then (X2 a0 k a1).bind fun x15=> (UN a0 a1 x15).bind fun x20=> (Wv k x20).bind fun x21=> (if (!x21.2) then some true else some (decide (1000000000<x21.1))).bind fun x22=> if x22 then some (.inr ((Zg.mk 2 x21.1 a1 (⟨#[]⟩:ByteArray)),0)) else some (.inl (2,x21.1,(⟨#[]⟩:ByteArray),x15)) else if (decide ((x5.toNat:Int)=34)) then (X1 a0 k (IntKind.i64.wrap (a1+1))).bind fun x23=> (UN a0 (IntKind.i64.wrap (a1+1)) x23).bind fun x27=> (if (decide (x23=(a0.size:Int))) then some true else (Xq k x27).bind fun x29=> some (!x29)).bind fun x28=> if x28 then some (.inr ((Zg.mk 3 0 a1 x27),0)) else some (.inl (3,0,x27,(IntKind.i64.wrap (x23+1)))) else (UZ a0 a1).bind fun x30=> (UN a0 a1 (IntKind.i64.wrap (a1+x30))).bind fun x31=> some (.inl (4,0,x31,(IntKind.i64.wrap (a1+x30)))):Option ((Int×Int×ByteArray×Int) ⊕ (Zg×Int))).bind fun | .inl (x1,x2,x3,x4)=>( some ((Zg.mk x1 x2 a1 x3),(IntKind.i64.wrap (x4-a1)))) | .inr z32=>( some z32)
def ZY (k:Nat) (a0:ByteArray):Nat->(List Zg)->Int->Option ((List Zg) ⊕ ((List Zg)×Int)) | 0,_,_=>none | n_+1,x2,x3=> if (decide (x3<(a0.size:Int))) then (at? a0.data.toList x3).bind fun x4=> if (decide ((x4.toNat:Int)=32)) then ZY k a0 n_ x2 (IntKind.i64.wrap (x3+1)) else (QX k a0 x3).bind fun x5=> (if (decide (x5.2=0)) then some true else some (decide ((x2.length:Int)=60))).bind fun x6=> if x6 then some (.inr (([]:List Zg),x3)) else (YH 40 x2 [x5.1]).bind fun x7=> ZY k a0 n_ x7 (IntKind.i64.wrap (x3+x5.2)) else some (.inl x2)
def V3 (k:Nat) (a0:ByteArray):Option ((List Zg)×Int):= if (decide (120<(a0.size:Int))) then some (([]:List Zg),120) else (ZY k a0 k ([]:List Zg) 0:Option ((List Zg) ⊕ ((List Zg)×Int))).bind fun | .inl x1=>( some (x1,(-1))) | .inr z8=>( some z8)
def Wx (a0:Zg) (a1:ByteArray):Option Bool:= (if (decide (a0.kind=4)) then some (decide (a0.text=a1)) else some false).bind fun x1=> some x1
def Jp (a0:Zg) (a1:ByteArray):Option Bool:= (if (decide (a0.kind=1)) then some (decide (a0.text=a1)) else some false).bind fun x1=> some x1
def Zo (a0:Zc) (a1:ByteArray):Option (Bool×Zc):= (if (decide (a0.bad<0)) then if (decide (a0.i<(a0.toks.length:Int))) then (at? a0.toks a0.i).bind fun x2=> (Wx x2 a1).bind fun x3=> if x3 then some true else (Jp x2 a1).bind fun x4=> some x4 else some false else some false).bind fun x1=> some (x1,a0)
def YD (a0:Zc):Option (Zb×Zc):= (if (decide (a0.bad<0)) then if (decide (a0.i<(a0.toks.length:Int))) then (at? a0.toks a0.i).bind fun x2=> some x2.at_ else some a0.end_ else some a0.bad).bind fun x1=> some ((Zb.mk 0 0 (⟨#[]⟩:ByteArray) []),(Zc.mk a0.toks a0.i a0.end_ x1))
def Xz (k:Nat) (a0:Zc):Option (ByteArray×Zc):= (if (decide (0<=a0.bad)) then some true else if (decide ((a0.toks.length:Int)<=a0.i)) then some true else (at? a0.toks a0.i).bind fun x2=> if (!decide (x2.kind=1)) then some true else (ZR k x2.text).bind fun x3=> some (!x3)).bind fun x1=> if x1 then (YD a0).bind fun x4=> some ((⟨#[]⟩:ByteArray),x4.2) else (at? a0.toks (IntKind.i64.wrap ((IntKind.i64.wrap (a0.i+1))-1))).bind fun x5=> some (x5.text,(Zc.mk a0.toks (IntKind.i64.wrap (a0.i+1)) a0.end_ a0.bad))
def Zu (a0:Zc) (a1:ByteArray):Option Zc:= (Zo a0 a1).bind fun x1=> if (!x1.1) then (YD x1.2).bind fun x2=> some x2.2 else some (Zc.mk x1.2.toks (IntKind.i64.wrap (x1.2.i+1)) x1.2.end_ x1.2.bad)
def ZeS (a0:Int):Option Zb:= some (Zb.mk 1 a0 (⟨#[]⟩:ByteArray) [])
def ZbL (a0:ByteArray):Option Zb:= some (Zb.mk 3 0 a0 [])
def Z0 (a0:ByteArray):Option Int:= if (decide (a0=(⟨#[99,108,111,99,107]⟩:ByteArray))) then some 0 else (if (decide (a0=(⟨#[108,101,110]⟩:ByteArray))) then some true else if (decide (a0=(⟨#[115,117,109]⟩:ByteArray))) then some true else if (decide (a0=(⟨#[114,111,119,115]⟩:ByteArray))) then some true else if (decide (a0=(⟨#[99,104,97,110,99,101]⟩:ByteArray))) then some true else some (decide (a0=(⟨#[102,105,108,101]⟩:ByteArray)))).bind fun x1=> if x1 then some 1 else (if (decide (a0=(⟨#[116,97,107,101]⟩:ByteArray))) then some true else if (decide (a0=(⟨#[115,107,105,112]⟩:ByteArray))) then some true else if (decide (a0=(⟨#[114,97,110,103,101]⟩:ByteArray))) then some true else if (decide (a0=(⟨#[110,116,104]⟩:ByteArray))) then some true else if (decide (a0=(⟨#[107,101,101,112]⟩:ByteArray))) then some true else if (decide (a0=(⟨#[99,111,108,117,109,110]⟩:ByteArray))) then some true else some (decide (a0=(⟨#[116,97,98,108,101]⟩:ByteArray)))).bind fun x2=> if x2 then some 2 else (if (decide (a0=(⟨#[119,104,101,114,101]⟩:ByteArray))) then some true else if (decide (a0=(⟨#[103,114,111,117,112]⟩:ByteArray))) then some true else some (decide (a0=(⟨#[106,111,105,110]⟩:ByteArray)))).bind fun x3=> if x3 then some 3 else if (decide (a0=(⟨#[97,100,100]⟩:ByteArray))) then some 4 else some (-1)
open Go.RowKit Am
def Zaw (a0:Int) (a1:Zb) (a2:Zb):Option Zb:= some (Zb.mk 6 a0 (⟨#[]⟩:ByteArray) [a1,a2])
def X9 (rec_s_l11Expr:Zc->Option (Zb×Zc)):Nat->(List Zg)->Int->Int->Int->(List Zb)->Option ((List Zg)×Int×Int×Int×(List Zb)) | 0,_,_,_,_,_=>none | n_+1,x7,x8,x9,x10,x11=> if (decide (x10<0)) then (rec_s_l11Expr (Zc.mk x7 x8 x9 x10)).bind fun x12=> (YH 56 x11 [x12.1]).bind fun x13=> (Zo x12.2 (⟨#[44]⟩:ByteArray)).bind fun x14=> if (!x14.1) then some (x14.2.toks,x14.2.i,x14.2.end_,x14.2.bad,x13) else X9 rec_s_l11Expr n_ x14.2.toks (IntKind.i64.wrap (x14.2.i+1)) x14.2.end_ x14.2.bad x13 else some (x7,x8,x9,x10,x11)
def Qj (rec_s_l11Atom:Zc->Option (Zb×Zc)):Nat->(List Zg)->Int->Int->Int->Int->Int->ByteArray->(List Zb)->Option (Int×Int×ByteArray×(List Zb)×(List Zg)×Int×Int×Int) | 0,_,_,_,_,_,_,_,_=>none | n_+1,x10,x11,x12,x13,x14,x15,x16,x17=> (Zo (Zc.mk x10 x11 x12 x13) (⟨#[42]⟩:ByteArray)).bind fun x18=> if x18.1 then (rec_s_l11Atom (Zc.mk x18.2.toks (IntKind.i64.wrap (x18.2.i+1)) x18.2.end_ x18.2.bad)).bind fun x19=> (Zaw 3 (Zb.mk x14 x15 x16 x17) x19.1).bind fun x20=> Qj rec_s_l11Atom n_ x19.2.toks x19.2.i x19.2.end_ x19.2.bad x20.kind x20.n x20.text x20.args else some (x14,x15,x16,x17,x18.2.toks,x18.2.i,x18.2.end_,x18.2.bad)
def WY (rec_s_l11Product:Zc->Option (Zb×Zc)):Nat->(List Zg)->Int->Int->Int->Int->Int->ByteArray->(List Zb)->Option (Int×Int×ByteArray×(List Zb)×(List Zg)×Int×Int×Int) | 0,_,_,_,_,_,_,_,_=>none | n_+1,x10,x11,x12,x13,x14,x15,x16,x17=> ((Zo (Zc.mk x10 x11 x12 x13) (⟨#[43]⟩:ByteArray)).bind fun x23=> if x23.1 then some (x23.2.toks,x23.2.i,x23.2.end_,x23.2.bad,true) else (Zo x23.2 (⟨#[45]⟩:ByteArray)).bind fun x24=> some (x24.2.toks,x24.2.i,x24.2.end_,x24.2.bad,x24.1)).bind fun (x18,x19,x20,x21,x22)=> if x22 then ((Zo (Zc.mk x18 x19 x20 x21) (⟨#[45]⟩:ByteArray)).bind fun x30=> if x30.1 then some (x30.2.toks,x30.2.i,x30.2.end_,x30.2.bad,2) else some (x30.2.toks,x30.2.i,x30.2.end_,x30.2.bad,1)).bind fun (x25,x26,x27,x28,x29)=> (rec_s_l11Product (Zc.mk x25 (IntKind.i64.wrap (x26+1)) x27 x28)).bind fun x31=> (Zaw x29 (Zb.mk x14 x15 x16 x17) x31.1).bind fun x32=> WY rec_s_l11Product n_ x31.2.toks x31.2.i x31.2.end_ x31.2.bad x32.kind x32.n x32.text x32.args else some (x14,x15,x16,x17,x18,x19,x20,x21)
mutual
def WI:Nat->Zc->ByteArray->Option ((List Zb)×Zc) | 0,_,_=>none | k+1,a0,a1=> (Zo a0 a1).bind fun x1=> if x1.1 then some (([]:List Zb),(Zc.mk x1.2.toks (IntKind.i64.wrap (x1.2.i+1)) x1.2.end_ x1.2.bad)) else (X9 (Zq k) k x1.2.toks x1.2.i x1.2.end_ x1.2.bad ([]:List Zb)).bind fun (x2,x3,x4,x5,x6)=> (Zu (Zc.mk x2 x3 x4 x5) a1).bind fun x15=> some (x6,x15)
def Z5:Nat->Zc->Option (Zb×Zc) | 0,_=>none | k+1,a0=> (if (decide (0<=a0.bad)) then some true else some (decide ((a0.toks.length:Int)<=a0.i))).bind fun x1=> if x1 then (YD a0).bind fun x2=> some (x2.1,x2.2) else (at? a0.toks a0.i).bind fun x3=> if (decide (x3.kind=2)) then (ZeS x3.n).bind fun x4=> some (x4,(Zc.mk a0.toks (IntKind.i64.wrap (a0.i+1)) a0.end_ a0.bad)) else if (decide (x3.kind=3)) then some ((Zb.mk 2 0 x3.text []),(Zc.mk a0.toks (IntKind.i64.wrap (a0.i+1)) a0.end_ a0.bad)) else (if (decide (x3.kind=1)) then (ZR k x3.text).bind fun x6=> some x6 else some false).bind fun x5=> if x5 then (ZbL x3.text).bind fun x7=> some (x7,(Zc.mk a0.toks (IntKind.i64.wrap (a0.i+1)) a0.end_ a0.bad)) else (if (decide (x3.kind=1)) then (Z0 x3.text).bind fun x9=> some (decide (0<=x9)) else some false).bind fun x8=> if x8 then (Zu (Zc.mk a0.toks (IntKind.i64.wrap (a0.i+1)) a0.end_ a0.bad) (⟨#[40]⟩:ByteArray)).bind fun x10=> (WI k x10 (⟨#[41]⟩:ByteArray)).bind fun x11=> some ((Zb.mk 5 0 x3.text x11.1),x11.2) else (Wx x3 (⟨#[91]⟩:ByteArray)).bind fun x12=> if x12 then (WI k (Zc.mk a0.toks (IntKind.i64.wrap (a0.i+1)) a0.end_ a0.bad) (⟨#[93]⟩:ByteArray)).bind fun x13=> some ((Zb.mk 4 0 (⟨#[]⟩:ByteArray) x13.1),x13.2) else (Wx x3 (⟨#[40]⟩:ByteArray)).bind fun x14=> if x14 then (Zq k (Zc.mk a0.toks (IntKind.i64.wrap (a0.i+1)) a0.end_ a0.bad)).bind fun x15=> (Zu x15.2 (⟨#[41]⟩:ByteArray)).bind fun x16=> some (x15.1,x16) else (YD a0).bind fun x17=> some (x17.1,x17.2)
def ZH:Nat->Zc->Option (Zb×Zc) | 0,_=>none | k+1,a0=> (Z5 k a0).bind fun x1=> (Qj (Z5 k) k x1.2.toks x1.2.i x1.2.end_ x1.2.bad x1.1.kind x1.1.n x1.1.text x1.1.args).bind fun (x2,x3,x4,x5,x6,x7,x8,x9)=> some ((Zb.mk x2 x3 x4 x5),(Zc.mk x6 x7 x8 x9))
def Xp:Nat->Zc->Option (Zb×Zc) | 0,_=>none | k+1,a0=> (ZH k a0).bind fun x1=> (WY (ZH k) k x1.2.toks x1.2.i x1.2.end_ x1.2.bad x1.1.kind x1.1.n x1.1.text x1.1.args).bind fun (x2,x3,x4,x5,x6,x7,x8,x9)=> some ((Zb.mk x2 x3 x4 x5),(Zc.mk x6 x7 x8 x9))
def QF:Nat->Zc->Option (Zb×Zc) | 0,_=>none | k+1,a0=> (Xp k a0).bind fun x1=> (Zo x1.2 (⟨#[60]⟩:ByteArray)).bind fun x2=> if x2.1 then (Xp k (Zc.mk x2.2.toks (IntKind.i64.wrap (x2.2.i+1)) x2.2.end_ x2.2.bad)).bind fun x3=> (Zaw 4 x1.1 x3.1).bind fun x4=> some (x4,x3.2) else (Zo x2.2 (⟨#[61,61]⟩:ByteArray)).bind fun x5=> if x5.1 then (Xp k (Zc.mk x5.2.toks (IntKind.i64.wrap (x5.2.i+1)) x5.2.end_ x5.2.bad)).bind fun x6=> (Zaw 5 x1.1 x6.1).bind fun x7=> some (x7,x6.2) else some (x1.1,x5.2)
def Zq:Nat->Zc->Option (Zb×Zc) | 0,_=>none | k+1,a0=> (Zo a0 (⟨#[108,101,116]⟩:ByteArray)).bind fun x1=> if x1.1 then (Xz k (Zc.mk x1.2.toks (IntKind.i64.wrap (x1.2.i+1)) x1.2.end_ x1.2.bad)).bind fun x2=> (Zu x2.2 (⟨#[61]⟩:ByteArray)).bind fun x3=> (Zq k x3).bind fun x4=> (Zu x4.2 (⟨#[105,110]⟩:ByteArray)).bind fun x5=> (Zq k x5).bind fun x6=> some ((Zb.mk 7 0 x2.1 [x4.1,x6.1]),x6.2) else (Zo x1.2 (⟨#[105,102]⟩:ByteArray)).bind fun x7=> if x7.1 then (Zq k (Zc.mk x7.2.toks (IntKind.i64.wrap (x7.2.i+1)) x7.2.end_ x7.2.bad)).bind fun x8=> (Zu x8.2 (⟨#[116,104,101,110]⟩:ByteArray)).bind fun x9=> (Zq k x9).bind fun x10=> (Zu x10.2 (⟨#[101,108,115,101]⟩:ByteArray)).bind fun x11=> (Zq k x11).bind fun x12=> some ((Zb.mk 8 0 (⟨#[]⟩:ByteArray) [x8.1,x10.1,x12.1]),x12.2) else (Zo x7.2 (⟨#[102,111,114]⟩:ByteArray)).bind fun x13=> if x13.1 then (Xz k (Zc.mk x13.2.toks (IntKind.i64.wrap (x13.2.i+1)) x13.2.end_ x13.2.bad)).bind fun x14=> (Zu x14.2 (⟨#[105,110]⟩:ByteArray)).bind fun x15=> (Zq k x15).bind fun x16=> (Zu x16.2 (⟨#[100,111]⟩:ByteArray)).bind fun x17=> (Zq k x17).bind fun x18=> some ((Zb.mk 9 0 x14.1 [x16.1,x18.1]),x18.2) else (QF k x13.2).bind fun x19=> some (x19.1,x19.2)
end
def Wa (rec_s_l10Left:Zb->Int->Option Int) (a0:Zb):Nat->Int->Int->Option Int | 0,_,_=>none | n_+1,x2,x3=> (if (decide (x3<(a0.args.length:Int))) then some (decide (0<=x2)) else some false).bind fun x4=> if x4 then (at? a0.args x3).bind fun x5=> (rec_s_l10Left x5 x2).bind fun x6=> Wa rec_s_l10Left a0 n_ x6 (IntKind.i64.wrap (x3+1)) else some x2
def Vt:Nat->Zb->Int->Option Int | 0,_,_=>none | k+1,a0,a1=> (Wa (Vt k) a0 k (IntKind.i64.wrap (a1-1)) 0).bind fun x1=> some x1
def Zau (a0:Int) (a1:Int):Option Int:= if (decide (a1<a0)) then some a0 else some a1
def QR (rec_s_NestingOf:Zb->Option Int) (a0:Zb):Nat->Int->Int->Option Int | 0,_,_=>none | n_+1,x2,x3=> if (decide (x3<(a0.args.length:Int))) then (at? a0.args x3).bind fun x4=> (rec_s_NestingOf x4).bind fun x5=> (Zau x2 x5).bind fun x6=> QR rec_s_NestingOf a0 n_ x6 (IntKind.i64.wrap (x3+1)) else some x2
def QS:Nat->Zb->Option Int | 0,_=>none | k+1,a0=> (QR (QS k) a0 k 0 0).bind fun x1=> some (IntKind.i64.wrap (x1+1))
def Jn (k:Nat) (a0:Zb):Option Bool:= if (decide (a0.kind=1)) then (if (decide ((a0.args.length:Int)=0)) then if (decide (a0.text=(⟨#[]⟩:ByteArray))) then (UK a0.n 0 1000000000).bind fun x2=> some x2 else some false else some false).bind fun x1=> some x1 else if (decide (a0.kind=2)) then (if (decide ((a0.args.length:Int)=0)) then if (decide (a0.n=0)) then (Xq k a0.text).bind fun x4=> some x4 else some false else some false).bind fun x3=> some x3 else if (decide (a0.kind=3)) then (if (decide ((a0.args.length:Int)=0)) then if (decide (a0.n=0)) then (ZR k a0.text).bind fun x6=> some x6 else some false else some false).bind fun x5=> some x5 else if (decide (a0.kind=4)) then (if (decide (a0.n=0)) then if (decide (a0.text=(⟨#[]⟩:ByteArray))) then some (decide ((a0.args.length:Int)<=8)) else some false else some false).bind fun x7=> some x7 else if (decide (a0.kind=5)) then (if (decide (a0.n=0)) then (Z0 a0.text).bind fun x9=> some (decide ((a0.args.length:Int)=x9)) else some false).bind fun x8=> some x8 else if (decide (a0.kind=6)) then (if (decide (a0.text=(⟨#[]⟩:ByteArray))) then if (decide ((a0.args.length:Int)=2)) then (UK a0.n 1 5).bind fun x11=> some x11 else some false else some false).bind fun x10=> some x10 else (if (decide (a0.kind=7)) then some true else some (decide (a0.kind=9))).bind fun x12=> if x12 then (if (decide (a0.n=0)) then if (decide ((a0.args.length:Int)=2)) then (ZR k a0.text).bind fun x14=> some x14 else some false else some false).bind fun x13=> some x13 else if (decide (a0.kind=8)) then (if (decide (a0.n=0)) then if (decide (a0.text=(⟨#[]⟩:ByteArray))) then some (decide ((a0.args.length:Int)=3)) else some false else some false).bind fun x15=> some x15 else some false
def V2 (rec_s_l10All:Zb->Option Bool) (a0:Zb):Nat->Int->Option (Unit ⊕ Bool) | 0,_=>none | n_+1,x1=> if (decide (x1<(a0.args.length:Int))) then (at? a0.args x1).bind fun x2=> (rec_s_l10All x2).bind fun x3=> if (!x3) then some (.inr false) else V2 rec_s_l10All a0 n_ (IntKind.i64.wrap (x1+1)) else some (.inl ())
def WR:Nat->Zb->Option Bool | 0,_=>none | k+1,a0=> (V2 (WR k) a0 k 0:Option (Unit ⊕ Bool)).bind fun | .inl _=>( (Jn k a0).bind fun x4=> some x4) | .inr z5=>( some z5)
def Ww (k:Nat) (a0:Zb):Option Bool:= ((Vt k a0 40).bind fun x2=> if (decide (0<=x2)) then (QS k a0).bind fun x3=> if (decide (x3<=8)) then (WR k a0).bind fun x4=> some x4 else some false else some false).bind fun x1=> some x1
def Wb (k:Nat) (a0:ByteArray):Option (Zb×Int):= (V3 k a0).bind fun x1=> if (decide (0<=x1.2)) then some ((Zb.mk 0 0 (⟨#[]⟩:ByteArray) []),x1.2) else (Zq k (Zc.mk x1.1 0 (a0.size:Int) (-1))).bind fun x2=> ((if (decide (x2.2.bad<0)) then some (decide (x2.2.i<(x1.1.length:Int))) else some false).bind fun x7=> if x7 then (YD x2.2).bind fun x8=> some (x8.2.toks,x8.2.i,x8.2.end_,x8.2.bad) else some (x2.2.toks,x2.2.i,x2.2.end_,x2.2.bad)).bind fun (x3,x4,x5,x6)=> if (decide (0<=x6)) then some ((Zb.mk 0 0 (⟨#[]⟩:ByteArray) []),x6) else (Ww k x2.1).bind fun x9=> if (!x9) then some ((Zb.mk 0 0 (⟨#[]⟩:ByteArray) []),0) else some (x2.1,(-1))
open Go.RowKit Am
def QH (a0:Int):Option Za:= some (Za.mk 6 a0 0 (⟨#[]⟩:ByteArray) [] [] [])
def Zay (a0:Int):Option Za:= some (Za.mk 1 a0 0 (⟨#[]⟩:ByteArray) [] [] [])
def ZX (a0:ByteArray):Nat->(List ByteArray)->Int->Int->Option ((List ByteArray)×Int) | 0,_,_,_=>none | n_+1,x3,x4,x5=> if (decide ((IntKind.i64.wrap (x5+1))<(a0.size:Int))) then (((at? a0.data.toList x5).bind fun x9=> if (decide ((x9.toNat:Int)=59)) then (at? a0.data.toList (IntKind.i64.wrap (x5+1))).bind fun x10=> some (decide ((x10.toNat:Int)=32)) else some false).bind fun x8=> if x8 then (UN a0 x4 x5).bind fun x11=> (YH 16 x3 [x11]).bind fun x12=> some (x12,(IntKind.i64.wrap (x5+2))) else some (x3,x4)).bind fun (x6,x7)=> ZX a0 n_ x6 x7 (IntKind.i64.wrap (x5+1)) else some (x3,x4)
def U2 (k:Nat) (a0:ByteArray):Option (List ByteArray):= (ZX a0 k ([]:List ByteArray) 0 0).bind fun (x1,x2)=> (UN a0 x2 (a0.size:Int)).bind fun x13=> (YH 16 x1 [x13]).bind fun x14=> some x14
def Y8 (a0:ByteArray) (a1:Int):Nat->(List ByteArray)->Int->Int->Option (List ByteArray) | 0,_,_,_=>none | n_+1,x2,x3,x4=> if (decide (x4<=(a0.size:Int))) then ((if (decide (x4=(a0.size:Int))) then some true else (at? a0.data.toList x4).bind fun x8=> some (decide ((x8.toNat:Int)=a1))).bind fun x7=> if x7 then (UN a0 x3 x4).bind fun x9=> (YH 16 x2 [x9]).bind fun x10=> some (x10,(IntKind.i64.wrap (x4+1))) else some (x2,x3)).bind fun (x5,x6)=> Y8 a0 a1 n_ x5 x6 (IntKind.i64.wrap (x4+1)) else some x2
def WZ (k:Nat) (a0:ByteArray) (a1:Int):Option (List ByteArray):= (Y8 a0 a1 k ([]:List ByteArray) 0 0).bind fun x1=> some x1
def YN (a0:Int):Option Bool:= (UK a0 (-1000000000) 1000000000).bind fun x1=> some x1
def YQ (k:Nat) (x1:List ByteArray):Nat->(List Int)->Int->Option ((List Int) ⊕ ((List Int)×Bool)) | 0,_,_=>none | n_+1,x3,x4=> if (decide (x4<(x1.length:Int))) then (at? x1 x4).bind fun x5=> (Wv k x5).bind fun x6=> (if (!x6.2) then some true else (YN x6.1).bind fun x8=> some (!x8)).bind fun x7=> if x7 then some (.inr (x3,false)) else (YH 8 x3 [x6.1]).bind fun x9=> YQ k x1 n_ x9 (IntKind.i64.wrap (x4+1)) else some (.inl x3)
def JS (k:Nat) (a0:ByteArray) (a1:Int):Option ((List Int)×Bool):= (WZ k a0 32).bind fun x1=> (YQ k x1 k ([]:List Int) 0:Option ((List Int) ⊕ ((List Int)×Bool))).bind fun | .inl x2=>( some (x2,(decide ((x2.length:Int)=a1)))) | .inr z10=>( some z10)
def Jl (a0:Za):Option Bool:= (if (decide (a0.kind=1)) then some true else if (decide (a0.kind=2)) then some true else some (decide (a0.kind=3))).bind fun x1=> some x1
def Vj (rec_s_DepthOf:Za->Option Int) (a0:Za):Nat->Int->Int->Option Int | 0,_,_=>none | n_+1,x2,x3=> if (decide (x3<(a0.list.length:Int))) then (at? a0.list x3).bind fun x4=> (rec_s_DepthOf x4).bind fun x5=> (Zau x2 x5).bind fun x6=> Vj rec_s_DepthOf a0 n_ x6 (IntKind.i64.wrap (x3+1)) else some x2
def XA:Nat->Za->Option Int | 0,_=>none | k+1,a0=> (Vj (XA k) a0 k 0 0).bind fun x1=> some (IntKind.i64.wrap (x1+1))
def Yw (k:Nat) (a0:List ByteArray):Nat->Int->Option (Unit ⊕ Bool) | 0,_=>none | n_+1,x1=> if (decide (x1<(a0.length:Int))) then (ZiE a0 0 x1).bind fun x2=> (at? a0 x1).bind fun x3=> (Zav k x2 x3).bind fun x4=> if x4 then some (.inr false) else Yw k a0 n_ (IntKind.i64.wrap (x1+1)) else some (.inl ())
def Vv (k:Nat) (a0:List ByteArray):Option Bool:= (Yw k a0 k 0:Option (Unit ⊕ Bool)).bind fun | .inl _=>( some true) | .inr z5=>( some z5)
def XN (k:Nat) (a0:List ByteArray):Nat->Int->Option (Unit ⊕ Bool) | 0,_=>none | n_+1,x1=> if (decide (x1<(a0.length:Int))) then (at? a0 x1).bind fun x2=> (ZR k x2).bind fun x3=> if (!x3) then some (.inr false) else XN k a0 n_ (IntKind.i64.wrap (x1+1)) else some (.inl ())
def VZ (k:Nat) (a0:List ByteArray):Option Bool:= (XN k a0 k 0:Option (Unit ⊕ Bool)).bind fun | .inl _=>( ((UK (a0.length:Int) 1 4).bind fun x5=> if x5 then (Vv k a0).bind fun x6=> some x6 else some false).bind fun x4=> some x4) | .inr z7=>( some z7)
def V0 (a0:Zl) (a1:Zl):Option Bool:= (if (decide (a0.cell<a1.cell)) then some true else if (decide (a0.cell=a1.cell)) then some (decide (a0.row<a1.row)) else some false).bind fun x1=> some x1
def Qs (a0:List Zl):Nat->Int->Option (Unit ⊕ Bool) | 0,_=>none | n_+1,x1=> if (decide (x1<(a0.length:Int))) then ((at? a0 x1).bind fun x3=> if (decide (x3.cell<0)) then some true else if (decide (x3.row<0)) then some true else if (decide (0<x1)) then (at? a0 (IntKind.i64.wrap (x1-1))).bind fun x4=> (V0 x4 x3).bind fun x5=> some (!x5) else some false).bind fun x2=> if x2 then some (.inr false) else Qs a0 n_ (IntKind.i64.wrap (x1+1)) else some (.inl ())
def Wr (k:Nat) (a0:List Zl):Option Bool:= (Qs a0 k 0:Option (Unit ⊕ Bool)).bind fun | .inl _=>( some true) | .inr z6=>( some z6)
def X4 (x4:ZM):Nat->Int->Option (Unit ⊕ Bool) | 0,_=>none | n_+1,x7=> if (decide (x7<(x4.cells.length:Int))) then (at? x4.cells x7).bind fun x8=> (YN x8).bind fun x9=> if (!x9) then some (.inr false) else X4 x4 n_ (IntKind.i64.wrap (x7+1)) else some (.inl ())
def QA (k:Nat) (a0:Za):Nat->Int->Option (Unit ⊕ Bool) | 0,_=>none | n_+1,x3=> if (decide (x3<(a0.rows.length:Int))) then ((at? a0.rows x3).bind fun x4=> (if (!decide ((x4.cells.length:Int)=(a0.columns.length:Int))) then some true else (Wr k x4.from_).bind fun x6=> some (!x6)).bind fun x5=> if x5 then some (.inr false) else X4 x4 k 0:Option (Unit ⊕ Bool)).bind fun | .inl _=>( QA k a0 n_ (IntKind.i64.wrap (x3+1))) | .inr z10=>( some (.inr z10)) else some (.inl ())
def ZbE (k:Nat) (a0:Za):Option Bool:= ((VZ k a0.columns).bind fun x2=> if (!x2) then some true else some (decide (12<(a0.rows.length:Int)))).bind fun x1=> if x1 then some false else (QA k a0 k 0:Option (Unit ⊕ Bool)).bind fun | .inl _=>( some true) | .inr z11=>( some z11)
def VW (rec_s_IsValidValue:Za->Option Bool) (a0:Za):Nat->Int->Option (Unit ⊕ Bool) | 0,_=>none | n_+1,x1=> if (decide (x1<(a0.list.length:Int))) then ((at? a0.list x1).bind fun x3=> (Jl x3).bind fun x4=> if (!x4) then some true else (rec_s_IsValidValue x3).bind fun x5=> some (!x5)).bind fun x2=> if x2 then some (.inr false) else VW rec_s_IsValidValue a0 n_ (IntKind.i64.wrap (x1+1)) else some (.inl ())
mutual
def JR:Nat->Za->Option Bool | 0,_=>none | k+1,a0=> (VW (ZK k) a0 k 0:Option (Unit ⊕ Bool)).bind fun | .inl _=>( (if (decide ((a0.list.length:Int)<=8)) then (XA k a0).bind fun x7=> some (decide (x7<=3)) else some false).bind fun x6=> some x6) | .inr z8=>( some z8)
def ZK:Nat->Za->Option Bool | 0,_=>none | k+1,a0=> (if (!decide (a0.kind=3)) then if (decide (0<(a0.list.length:Int))) then some true else if (!decide (a0.kind=5)) then some (decide (0<(IntKind.i64.wrap ((a0.columns.length:Int)+(a0.rows.length:Int))))) else some false else some (decide (0<(IntKind.i64.wrap ((a0.columns.length:Int)+(a0.rows.length:Int)))))).bind fun x1=> if x1 then some false else (if (!decide (a0.kind=2)) then if (!decide (a0.text=(⟨#[]⟩:ByteArray))) then some true else if (!decide (a0.kind=4)) then some (!decide (a0.step=0)) else some false else some (!decide (a0.step=0))).bind fun x2=> if x2 then some false else if (decide (a0.kind=1)) then (YN a0.n).bind fun x3=> some x3 else if (decide (a0.kind=2)) then (if (decide (a0.n=0)) then (Xq k a0.text).bind fun x5=> some x5 else some false).bind fun x4=> some x4 else if (decide (a0.kind=3)) then (if (decide (a0.n=0)) then (JR k a0).bind fun x7=> some x7 else some false).bind fun x6=> some x6 else if (decide (a0.kind=4)) then ((YN a0.n).bind fun x9=> if x9 then (YN a0.step).bind fun x10=> some x10 else some false).bind fun x8=> some x8 else if (decide (a0.kind=5)) then (if (decide (a0.n=0)) then (ZbE k a0).bind fun x12=> some x12 else some false).bind fun x11=> some x11 else if (decide (a0.kind=6)) then (UK a0.n 1 8).bind fun x13=> some x13 else some false
end
open Go.RowKit Am
def Y9 (k:Nat) (x1:List ByteArray) (x3:List ByteArray):Nat->(List ZM)->Int->Option ((List ZM) ⊕ (Za×Bool)) | 0,_,_=>none | n_+1,x5,x6=> if (decide (x6<(x1.length:Int))) then (at? x1 x6).bind fun x7=> (JS k x7 (x3.length:Int)).bind fun x8=> if (!x8.2) then some (.inr ((Za.mk 0 0 0 (⟨#[]⟩:ByteArray) [] [] []),false)) else (YH 48 x5 [(ZM.mk x8.1 [])]).bind fun x9=> Y9 k x1 x3 n_ x9 (IntKind.i64.wrap (x6+1)) else some (.inl x5)
def V5 (k:Nat) (a0:ByteArray):Option (Za×Bool):= (U2 k a0).bind fun x1=> (at? x1 0).bind fun x2=> (WZ k x2 32).bind fun x3=> (Y9 k x1 x3 k [] 1:Option ((List ZM) ⊕ (Za×Bool))).bind fun | .inl x4=>( (ZK k (Za.mk 5 0 0 (⟨#[]⟩:ByteArray) [] x3 x4)).bind fun x10=> if (!x10) then some ((Za.mk 0 0 0 (⟨#[]⟩:ByteArray) [] [] []),false) else some ((Za.mk 5 0 0 (⟨#[]⟩:ByteArray) [] x3 x4),true)) | .inr z11=>( some z11)
def Qb (k:Nat) (x1:List ByteArray) (x3:List ByteArray):Nat->Int->Option (Unit ⊕ Int) | 0,_=>none | n_+1,x5=> if (decide (x5<(x1.length:Int))) then (at? x1 x5).bind fun x6=> (JS k x6 (x3.length:Int)).bind fun x7=> (if (!x7.2) then some true else some (decide (12<x5))).bind fun x8=> if x8 then some (.inr x5) else Qb k x1 x3 n_ (IntKind.i64.wrap (x5+1)) else some (.inl ())
def Jr (k:Nat) (a0:ByteArray):Option Int:= (U2 k a0).bind fun x1=> (at? x1 0).bind fun x2=> (WZ k x2 32).bind fun x3=> (VZ k x3).bind fun x4=> if (!x4) then some 0 else (Qb k x1 x3 k 1:Option (Unit ⊕ Int)).bind fun | .inl _=>( some (-1)) | .inr z9=>( some z9)
def ZfK (a0:ZM):Option ZM:= (YH 8 ([]:List Int) a0.cells).bind fun x1=> (YH 16 ([]:List Zl) a0.from_).bind fun x2=> some (ZM.mk x1 x2)
def VY (rec_s_l3Copy:Za->Option Za) (a0:Za):Nat->(List Za)->Int->Option (List Za) | 0,_,_=>none | n_+1,x3,x4=> if (decide (x4<(a0.list.length:Int))) then (at? a0.list x4).bind fun x5=> (rec_s_l3Copy x5).bind fun x6=> (YH 112 x3 [x6]).bind fun x7=> VY rec_s_l3Copy a0 n_ x7 (IntKind.i64.wrap (x4+1)) else some x3
def VX (a0:Za):Nat->(List ZM)->Int->Option (List ZM) | 0,_,_=>none | n_+1,x9,x10=> if (decide (x10<(a0.rows.length:Int))) then (at? a0.rows x10).bind fun x11=> (ZfK x11).bind fun x12=> (YH 48 x9 [x12]).bind fun x13=> VX a0 n_ x13 (IntKind.i64.wrap (x10+1)) else some x9
def WO:Nat->Za->Option Za | 0,_=>none | k+1,a0=> (YH 16 ([]:List ByteArray) a0.columns).bind fun x1=> (VY (WO k) a0 k [] 0).bind fun x2=> (VX a0 k [] 0).bind fun x8=> some (Za.mk a0.kind a0.n a0.step a0.text x2 x1 x8)
def Z2 (a0:Int):Nat->(List ZM)->Int->Option (List ZM) | 0,_,_=>none | n_+1,x6,x7=> if (decide (x7<(x6.length:Int))) then (at? x6 x7).bind fun x8=> Z2 a0 n_ (x6.set x7.toNat (ZM.mk x8.cells [(Zl.mk a0 x7)])) (IntKind.i64.wrap (x7+1)) else some x6
def Vu (k:Nat) (a0:Int) (a1:Za):Option Za:= (if (!decide (a1.kind=5)) then some true else (ZK k a1).bind fun x2=> if (!x2) then some true else some (decide (a0<0))).bind fun x1=> if x1 then (QH 4).bind fun x3=> some x3 else (WO k a1).bind fun x4=> (Z2 a0 k x4.rows 0).bind fun x5=> some (Za.mk x4.kind x4.n x4.step x4.text x4.list x4.columns x5)
def Yc (k:Nat) (a0:Zs):Option Zi:= (YY k a0).bind fun x1=> if (!x1) then some (Zi.mk 0 (⟨#[]⟩:ByteArray) (Zb.mk 0 0 (⟨#[]⟩:ByteArray) []) (Za.mk 0 0 0 (⟨#[]⟩:ByteArray) [] [] []) 0) else if (decide (a0.kind=2)) then (Wb k a0.code).bind fun x2=> if (decide (0<=x2.2)) then (QH 8).bind fun x3=> some (Zi.mk 4 a0.name (Zb.mk 0 0 (⟨#[]⟩:ByteArray) []) x3 x2.2) else some (Zi.mk 2 a0.name x2.1 (Za.mk 0 0 0 (⟨#[]⟩:ByteArray) [] [] []) 0) else if (decide (a0.kind=3)) then (Zay a0.n).bind fun x4=> some (Zi.mk 3 a0.name (Zb.mk 0 0 (⟨#[]⟩:ByteArray) []) x4 0) else if (decide (a0.kind=4)) then (V5 k a0.code).bind fun x5=> if (!x5.2) then (QH 8).bind fun x6=> (Jr k a0.code).bind fun x7=> some (Zi.mk 4 a0.name (Zb.mk 0 0 (⟨#[]⟩:ByteArray) []) x6 x7) else (Vu k a0.id x5.1).bind fun x8=> some (Zi.mk 3 a0.name (Zb.mk 0 0 (⟨#[]⟩:ByteArray) []) x8 0) else some (Zi.mk 1 (⟨#[]⟩:ByteArray) (Zb.mk 0 0 (⟨#[]⟩:ByteArray) []) (Za.mk 0 0 0 (⟨#[]⟩:ByteArray) [] [] []) 0)
def Q8 (k:Nat) (a0:Zh):Nat->(List Zi)->Int->Option (List Zi) | 0,_,_=>none | n_+1,x3,x4=> if (decide (x4<(a0.cells.length:Int))) then (at? a0.cells x4).bind fun x5=> (Yc k x5).bind fun x6=> (YH 200 x3 [x6]).bind fun x7=> Q8 k a0 n_ x7 (IntKind.i64.wrap (x4+1)) else some x3
def Wc (k:Nat) (a0:Zh):Option (List Zi):= (Q7 k a0).bind fun x1=> if (!x1) then some ([]:List Zi) else (Q8 k a0 k ([]:List Zi) 0).bind fun x2=> some x2
def QE (rec_s_l13Free:Zb->(List ByteArray)->Option (List ByteArray)) (a0:Zb) (a1:List ByteArray):Nat->(List ByteArray)->Int->Option (List ByteArray) | 0,_,_=>none | n_+1,x5,x6=> if (decide (x6<(a0.args.length:Int))) then ((if (decide (a0.kind=7)) then some (decide (0<x6)) else if (decide (a0.kind=9)) then some (decide (0<x6)) else some false).bind fun x8=> if x8 then (YH 16 ([]:List ByteArray) a1).bind fun x9=> (YH 16 x9 [a0.text]).bind fun x10=> some x10 else some a1).bind fun x7=> (at? a0.args x6).bind fun x11=> (rec_s_l13Free x11 x7).bind fun x12=> (YH 16 x5 x12).bind fun x13=> QE rec_s_l13Free a0 a1 n_ x13 (IntKind.i64.wrap (x6+1)) else some x5
def Q6:Nat->Zb->(List ByteArray)->Option (List ByteArray) | 0,_,_=>none | k+1,a0,a1=> (if (decide (a0.kind=3)) then (Zav k a1 a0.text).bind fun x2=> some (!x2) else some false).bind fun x1=> if x1 then (YH 16 ([]:List ByteArray) [a0.text]).bind fun x3=> some x3 else (QE (Q6 k) a0 a1 k ([]:List ByteArray) 0).bind fun x4=> some x4
def XP (a0:List ByteArray) (x2:List ByteArray) (x3:Int):Nat->Int->Option Int | 0,_=>none | n_+1,x6=> (if (decide (x6<(x2.length:Int))) then (at? x2 x6).bind fun x8=> (at? a0 x3).bind fun x9=> some (ZmA x8 x9) else some false).bind fun x7=> if x7 then XP a0 x2 x3 n_ (IntKind.i64.wrap (x6+1)) else some x6
def XQ (k:Nat) (a0:List ByteArray):Nat->(List ByteArray)->Int->Option (List ByteArray) | 0,_,_=>none | n_+1,x2,x3=> if (decide (x3<(a0.length:Int))) then ((XP a0 x2 x3 k 0).bind fun x5=> (if (decide (x5<(x2.length:Int))) then (at? x2 x5).bind fun x11=> (at? a0 x3).bind fun x12=> some (decide (x11=x12)) else some false).bind fun x10=> if x10 then some x2 else (ZiE x2 x5 (x2.length:Int)).bind fun x13=> (YH 16 ([]:List ByteArray) x13).bind fun x14=> (ZiE x2 0 x5).bind fun x15=> (at? a0 x3).bind fun x16=> (YH 16 x15 [x16]).bind fun x17=> (YH 16 x17 x14).bind fun x18=> some x18).bind fun x4=> XQ k a0 n_ x4 (IntKind.i64.wrap (x3+1)) else some x2
def V4 (k:Nat) (a0:List ByteArray):Option (List ByteArray):= (XQ k a0 k ([]:List ByteArray) 0).bind fun x1=> some x1
def Zaz (k:Nat) (a0:Zb):Option (List ByteArray):= (Q6 k a0 ([]:List ByteArray)).bind fun x1=> (V4 k x1).bind fun x2=> some x2
def Wu (k:Nat) (a0:Zi):Option (List ByteArray):= if (!decide (a0.kind=2)) then some ([]:List ByteArray) else (Zaz k a0.expr).bind fun x1=> some x1
def Yb (a0:List Zi) (a1:ByteArray):Nat->(List Int)->Int->Option (List Int) | 0,_,_=>none | n_+1,x2,x3=> if (decide (x3<(a0.length:Int))) then (((at? a0 x3).bind fun x6=> if (!decide (x6.kind=1)) then some (decide (x6.name=a1)) else some false).bind fun x5=> if x5 then (YH 8 x2 [x3]).bind fun x7=> some x7 else some x2).bind fun x4=> Yb a0 a1 n_ x4 (IntKind.i64.wrap (x3+1)) else some x2
def XR (k:Nat) (a0:List Zi) (a1:ByteArray):Option (List Int):= (Yb a0 a1 k ([]:List Int) 0).bind fun x1=> some x1
def Qk (k:Nat) (a0:List Zi) (a1:ByteArray):Option Int:= (XR k a0 a1).bind fun x1=> if (decide ((x1.length:Int)=0)) then some (-1) else if (decide ((x1.length:Int)=1)) then (at? x1 0).bind fun x2=> some x2 else some (-2)
def YX (a0:List Int) (a1:Int):Nat->Int->Option (Unit ⊕ Bool) | 0,_=>none | n_+1,x1=> if (decide (x1<(a0.length:Int))) then (at? a0 x1).bind fun x2=> if (decide (x2=a1)) then some (.inr true) else YX a0 a1 n_ (IntKind.i64.wrap (x1+1)) else some (.inl ())
def Ym (k:Nat) (a0:List Int) (a1:Int):Option Bool:= (YX a0 a1 k 0:Option (Unit ⊕ Bool)).bind fun | .inl _=>( some false) | .inr z3=>( some z3)
end Go.Proofs.YtpblakfidofgfaaGreatDoor
