import Derived.Test.YtbkllghhcphkaaaGreatDoorJ3
import Derived.Lib.ItoaNum
import Derived.Lib.Join
import Derived.Lib.AtoiAll
import Derived.Lib.Strings
import Derived.Lib.Bytealg
import Derived.Lib.SplitLaws
set_option linter.unusedSimpArgs false
set_option linter.unusedVariables false
namespace Go.Proofs.YtbkllghhcphkaaaGreatDoor.Am
open Go.RowKit
abbrev Ty {p:Prop} (_:p):Prop:=p
class HC (f:Nat) (T:outParam Prop):Prop where h:T
def oI (n:Int):V:=.one (.l (.int .i64 n))
def oB (b:Bool):V:=.one (.l (.bool b))
def oS (s:ByteArray):V:=.one (.l (.str s))
def oL {α:Type} (c:α->List L) (xs:List α):V:=.one (.l (.sl (xs.map c)))
def oO (τ n:Nat):V:=.one (.own τ n)
def bT (ls:List L):List CV:=ls.map CV.l
def cI (n:Int):CV:=.l (.int .i64 n)
def cS (s:ByteArray):CV:=.l (.str s)
def cL {α:Type} (c:α->List L) (xs:List α):CV:=.l (.sl (xs.map c))
def aT {α:Type} (c:α->List L) (xs:List α):Option Arr:=some ⟨true,xs.map c⟩
def aF {α:Type} (c:α->List L) (xs:List α):Option Arr:=some ⟨false,xs.map c⟩
def pk {α:Type} (l:List (Nat×α)):List Nat->List (Nat×α)
 | []=>[]
 | t::ts=>match l.lookup t with | some v=>(t,v)::pk l ts| none=>pk l ts
def pkO {α:Type} (l:List (Nat×α)) (ts:List Nat) (t:Nat):Option α->List (Nat×α)
 | some v=>(t,v)::pk l ts
 | none=>pk l ts
theorem Ztp {α:Type} (l:List (Nat×α)):pk l []=[]:=rfl
theorem Zrj {α:Type} (l:List (Nat×α)) (t:Nat) (ts:List Nat):pk l (t::ts)=pkO l ts t (l.lookup t):=by
 rw [pk];cases l.lookup t<;>rfl
def St.of (O:St) (ts ks τs:List Nat) (ch:List (Nat×V)) (cb:List (Nat×List CV)) (ca:List (Nat×Option Arr)):St:=⟨O.nt,ch++pk O.tm ts,cb++pk O.bx ks,ca++pk O.ar τs⟩
attribute [go_sem] oI oB oS oL oO cI cS cL bT aT aF Ztp Zrj pkO St.of
structure Wt (p:Prop):Prop where
 h:p
theorem wt {p:Prop} (h:p):Wt p:=⟨h⟩
section
variable {P:Program} {ops:Array Oper} {O O':St} {K:St->Prop} {o:Oper} {rest:List Oper} {b want:Bool}
theorem gd {ρ:Type} {b':Bool} {A B r:ρ} (hM:(if b=true then A else B)=r) (ht:b=true->A=r->Wt (VG P ops o rest O K want (some b'))) (hf:b=false->B=r->Wt (VG P ops o rest O K want (some b'))):VG P ops o rest O K want (some b'):=by
 cases b
 ·exact (hf rfl (by simpa using hM)).h
 ·exact (ht rfl (by simpa using hM)).h
end
section
variable {P:Program} {N:Nat->Prop} {w0:Bs} {Q:Exit->St->Prop} {x y:Code} {O O':St} {K:St->Prop}
theorem hsq (hK:∀O,AW P N w0 y Q O->K O) (h:AW P N w0 y Q O):K O:=hK O h
theorem fs {ι:Type} {S:ι->St} {I:ι->Prop} (hK:∀i O',I i->ZfC (S i) O'->K O') {i:ι} (hi:I i) (h:Zdb (S i) O:=by constructor<;>simp [go_sem,F]<;>omega):K O:=hK i O hi h.into
theorem fs2 {α β:Type} {S:α×β->St} {I:α×β->Prop} {J:α->β->Prop} (hK:∀i O',I i->ZfC (S i) O'->K O') (hJ:∀a b,J a b->I (a,b)) {a:α} {b:β} (hi:J a b) (h:Zdb (S (a,b)) O:=by constructor<;>simp [go_sem,F]<;>omega):K O:=hK _ O (hJ _ _ hi) h.into
theorem fs3 {α β γ:Type} {S:α×β×γ->St} {I:α×β×γ->Prop} {J:α->β->γ->Prop} (hK:∀i O',I i->ZfC (S i) O'->K O') (hJ:∀a b c,J a b c->I (a,b,c)) {a:α} {b:β} {c:γ} (hi:J a b c) (h:Zdb (S (a,b,c)) O:=by constructor<;>simp [go_sem,F]<;>omega):K O:=hK _ O (hJ _ _ _ hi) h.into
theorem fs4 {α β γ δ:Type} {S:α×β×γ×δ->St} {I:α×β×γ×δ->Prop} {J:α->β->γ->δ->Prop} (hK:∀i O',I i->ZfC (S i) O'->K O') (hJ:∀a b c d,J a b c d->I (a,b,c,d)) {a:α} {b:β} {c:γ} {d:δ} (hi:J a b c d) (h:Zdb (S (a,b,c,d)) O:=by constructor<;>simp [go_sem,F]<;>omega):K O:=hK _ O (hJ _ _ _ _ hi) h.into
theorem fs5 {α β γ δ ε:Type} {S:α×β×γ×δ×ε->St} {I:α×β×γ×δ×ε->Prop} {J:α->β->γ->δ->ε->Prop} (hK:∀i O',I i->ZfC (S i) O'->K O') (hJ:∀a b c d f,J a b c d f->I (a,b,c,d,f)) {a:α} {b:β} {c:γ} {d:δ} {f:ε} (hi:J a b c d f) (h:Zdb (S (a,b,c,d,f)) O:=by constructor<;>simp [go_sem,F]<;>omega):K O:=hK _ O (hJ _ _ _ _ _ hi) h.into
theorem fs7 {α β γ δ ε ζ η:Type} {S:α×β×γ×δ×ε×ζ×η->St} {I:α×β×γ×δ×ε×ζ×η->Prop} {J:α->β->γ->δ->ε->ζ->η->Prop} (hK:∀i O',I i->ZfC (S i) O'->K O') (hJ:∀a b c d f g u,J a b c d f g u->I (a,b,c,d,f,g,u)) {a:α} {b:β} {c:γ} {d:δ} {f:ε} {g:ζ} {u:η} (hi:J a b c d f g u) (h:Zdb (S (a,b,c,d,f,g,u)) O:=by constructor<;>simp [go_sem,F]<;>omega):K O:=hK _ O (hJ _ _ _ _ _ _ _ hi) h.into
theorem fs8 {α β γ δ ε ζ η θ:Type} {S:α×β×γ×δ×ε×ζ×η×θ->St} {I:α×β×γ×δ×ε×ζ×η×θ->Prop} {J:α->β->γ->δ->ε->ζ->η->θ->Prop} (hK:∀i O',I i->ZfC (S i) O'->K O') (hJ:∀a b c d f g u v,J a b c d f g u v->I (a,b,c,d,f,g,u,v)) {a:α} {b:β} {c:γ} {d:δ} {f:ε} {g:ζ} {u:η} {v:θ} (hi:J a b c d f g u v) (h:Zdb (S (a,b,c,d,f,g,u,v)) O:=by constructor<;>simp [go_sem,F]<;>omega):K O:=hK _ O (hJ _ _ _ _ _ _ _ _ hi) h.into
theorem Zuz {o:Operand} (h:AW P N w0 y Q O) (ho:opd O o=some (.one (.l (.bool false))):=by first | (simp [go_sem,F];done)| fail):AW P N w0 (.cond o x y) Q O:=Zlr ho (fun h=>nomatch h) (fun _=>h)
theorem S1 {id:Nat} {l:List Oper} (h:AW P N w0 y Q O') (ho:∀K:St->Prop,K O'->Z8 P l.toArray l O K:=by intro K h;simp (maxSteps:=9999999) [go_sem,F];exact h):AW P N w0 (.seq (.region id l.toArray false) y) Q O:=Zv fun K hK=>ho K (hK _ h)
theorem le1 (ts ks τs:List Nat) (h:AW P N w0 x Q O') (ch:List (Nat×V):=[]) (cb:List (Nat×List CV):=[]) (ca:List (Nat×Option Arr):=[]) (e:O.of ts ks τs ch cb ca=O':=by simp [go_sem];exact rfl) (k:Zdb O' O:=by constructor<;>simp [go_sem,F]<;>omega):AW P N w0 x Q O:=Zdc k.into h
theorem mj {ι ρ:Type} (ts ks τs:List Nat) (ch:ι->List (Nat×V)) {m:Option ι} {g:ι->Option ρ} {r:ρ} {S:ι->St} (hM:m.bind g=some r) (hx:∀e,m=some e->∀K:St->Prop,(∀i O',i=e->ZfC (S i) O'->K O')->AW P N w0 x (Zif K Q) O) (hy:∀i,g i=some r->AW P N w0 y Q (S i))
  (cb:ι->List (Nat×List CV):=fun _=>[]) (ca:ι->List (Nat×Option Arr):=fun _=>[]) (e:∀i,O.of ts ks τs (ch i) (cb i) (ca i)=S i:=by intro i;simp [go_sem];exact rfl):AW P N w0 (.seq x y) Q O:=by
 obtain ⟨v,h1,h2⟩:=bind_some hM;exact ZqS S (fun i=>i=v) (hx v h1) (fun i hi=>hy i (hi▸h2))
theorem mjE {ι κ ρ:Type} (ts ks τs:List Nat) (ch:ι->List (Nat×V)) {m:Option (ι ⊕ κ)} {g:ι ⊕ κ->Option ρ} {r:ρ} {S:ι->St} (hM:m.bind g=some r) (hx:∀e,m=some e->g e=some r->∀K:St->Prop,(∀i O',.inl i=e->ZfC (S i) O'->K O')->AW P N w0 x (Zif K Q) O) (hy:∀i,g (.inl i)=some r->AW P N w0 y Q (S i))
  (cb:ι->List (Nat×List CV):=fun _=>[]) (ca:ι->List (Nat×Option Arr):=fun _=>[]) (e:∀i,O.of ts ks τs (ch i) (cb i) (ca i)=S i:=by intro i;simp [go_sem];exact rfl):AW P N w0 (.seq x y) Q O:=by
 obtain ⟨v,h1,h2⟩:=bind_some hM;exact ZqS S (fun i=>.inl i=v) (hx v h1 h2) (fun i hi=>hy i (by rw [hi];exact h2))
theorem lp {ι:Type} (ts ks τs:List Nat) (ch:ι->List (Nat×V)) (I:Nat->ι->Prop) (n0:Nat) (i0:ι) {S:ι->St} (h0:I n0 i0) (hz:∀i,¬I 0 i)
  (body:∀(KL:St->Prop) (n:Nat) (i:ι),(∀i' O',I n i'->ZfC (S i') O'->KL O')->I (n+1) i->True->AW P N w0 x (Zif KL Q) (S i)) (cb:ι->List (Nat×List CV):=fun _=>[]) (ca:ι->List (Nat×Option Arr):=fun _=>[])
  (e:∀i,O.of ts ks τs (ch i) (cb i) (ca i)=S i:=by intro i;simp [go_sem];exact rfl) (hk:Zdb (S i0) O:=by constructor<;>simp [go_sem,F]<;>omega):AW P N w0 (.loop x) Q O:=
 ZwL S I n0 i0 h0 hz body hk
theorem qI {f:Nat} {ds ds':List DV} {fr pu:Bool} {rs:List DV} {X:Bool->Bool->List DV->Prop} {Y:Prop} {T:Prop} [i:HC f T] {α:Type} {m:Option α} {z:α} (e:m=some z) (hx:Wt (X fr false rs)) (h:T->m=some z->Ctr P f ds fr rs:=by intro h e;apply h;exact e) (hd:ds'=ds:=by first | (simp [go_sem,F];done)| fail) (hp:fr=false->pu=true:=by first | exact fun _=>rfl| (intro h;contradiction)):Zg3 P f ds' pu X Y:=
 ZqO false (h i.h e) hd hp hx.h
theorem qP {f:Nat} {dst:Option Nat} {vs:List V} {d1 d2:List DV} {ls ls':List L} {fr:Bool} {rs:List DV} {Z:Eff->Prop} {T:Prop} [i:HC f T] {α:Type} {m:Option α} {z:α} (e:m=some z) (hx:Wt (ZuG O dst d1.length d1 ls d2 fr rs ls' Z (Zi2 O d1.length vs))) (h:T->m=some z->ZcM P f d1 ls d2 fr rs ls':=by intro h e;apply h;exact e):XBy P O dst f (some vs) Z:=
 ZF _ (h i.h e) hx.h
theorem qV {f:Nat} {dst:Option Nat} {vs:List V} {ds':List DV} {pu:Bool} {X:Bool->Bool->List DV->Prop} {es es':List (List L)} {Z:Eff->Prop} {T:Prop} [i:HC f T] {α:Type} {m:Option α} {z:α} (e:m=some z) (hx:Wt (ZuD O dst es' Z es vs)) (h:T->m=some z->SS P f es es':=by intro h e;apply h;exact e):Zg3 P f ds' pu X (XBy P O dst f (some vs) Z):=.inr (Zsv (h i.h e) hx.h)
section
variable {d f k τ n:Nat} {Z:Eff->Prop} {dst:Option Nat} {b ok:Bool} {m:Int}
theorem Zv5 {ks:List Nat}:fnK O d f Z (some ks)=(d<O.nt/\Z ⟨True,[(d,.one (.clo f ks))],[],[]⟩):=rfl
theorem ZsA:Zkf []=some []:=rfl
theorem Zsz {vs:List V}:Zkf (.one (.box k 0)::vs)=(Zkf vs).map (k:: ·):=rfl
theorem Zuc {ks:List Nat} {vs:List V}:Zwa P O dst Z (some (.one (.clo f ks))) (some vs)=Zux P O dst f (vs++ks.map fun k=>.one (.box k 0)) Z:=rfl
theorem ZrB {x y:Nat} {z:List Value}:ZrC O d ok Z (some (⟨.int .i64,x,y,z⟩,.bool false)) (some (.one (.mp k))) (some (.one (.l (.int .i64 m))))=ZpK O d ok Z m (O.bx.lookup k):=rfl
theorem ZrD {M:List (Int×Bool)}:ZpK O d ok Z m (some [.mc (.ib M)])=(d<O.nt/\Z (Zoi d ok (Ziz M m))):=rfl
theorem ZrA {r:Option Bool}:Zoi d true r=⟨True,[(d,.tup [(false,[.l (.bool (r.getD false))]),(false,[.l (.bool r.isSome)])])],[],[]⟩:=rfl
theorem Zrz {r:Option Bool}:Zoi d false r=⟨True,[(d,.one (.l (.bool (r.getD false))))],[],[]⟩:=rfl
theorem Zrx:Zry O d Z none=(d<O.nt/\Z ⟨True,[(d,.one (.mp d))],[(d,[.mc (.ib [])])],[]⟩):=rfl
theorem ZsV {x y:Nat} {z:List Value} {v:Value}:Zu3 O Z (some (⟨.int .i64,x,y,z⟩,v)) (some (.one (.mp k))) (some (.one (.l (.int .i64 m)))) (some (.one (.l (.bool b))))=ZuA O k Z m b (O.bx.lookup k):=rfl
theorem ZsW {M:List (Int×Bool)}:ZuA O k Z m b (some [.mc (.ib M)])=Z ⟨True,[],[(k,[.mc (.ib (Ziy M m b))])],[]⟩:=rfl
theorem ZvF {x y:Nat} {z:List Value} {ks:List Nat}:nfK O d .eql Z (some ⟨.fn,x,y,z⟩) (some (.one (.clo f ks)))=(d<O.nt/\Z ⟨True,[(d,.one (.l (.bool false)))],[],[]⟩):=rfl
theorem ZvE {x y:Nat} {z:List Value} {ks:List Nat}:nfK O d .neq Z (some ⟨.fn,x,y,z⟩) (some (.one (.clo f ks)))=(d<O.nt/\Z ⟨True,[(d,.one (.l (.bool true)))],[],[]⟩):=rfl
theorem ZvD {x y:Nat} {z:List Value}:nfK O d .eql Z (some ⟨.fn,x,y,z⟩) (some (.one .nf))=(d<O.nt/\Z ⟨True,[(d,.one (.l (.bool true)))],[],[]⟩):=rfl
theorem ZvC {x y:Nat} {z:List Value}:nfK O d .neq Z (some ⟨.fn,x,y,z⟩) (some (.one .nf))=(d<O.nt/\Z ⟨True,[(d,.one (.l (.bool false)))],[],[]⟩):=rfl
theorem Zs6 {es es':List (List L)}:ZuD O dst es' Z es [.one (.own τ n)]=ZuE O dst es' Z es τ n (O.ar.lookup τ):=rfl
theorem Zs7 {es es':List (List L)} {A:Arr}:ZuE O dst es' Z es τ n (some (some A))=(A.es=es/\es.length=n/\dO O.nt dst/\τ<1000000/\Z ⟨True,tmT dst,[],[(τ,some ⟨A.fr,es'⟩)]⟩):=rfl
theorem Zu7:tmT (some d)=[(d,.tup [])]:=rfl
theorem Zu6:tmT none=[]:=rfl
end
attribute [go_sem] Zto Zv5 ZsA Zsz Zuc ZrB ZrD ZrA Zrz Zrx ZsV ZsW ZvF ZvE ZvD ZvC Zs6 Zs7 Zu7 Zu6
end
def St.ZpB:List (Nat×Nat)->St->St
 | [],O=>O
 | p::q,O=>St.ZpB q (O.ren p.1 p.2)
def ZjI:List (Nat×Nat)->St->Prop
 | [],_=>True
 | p::q,O=>(match O.ar.lookup p.1 with | some (some _)=>True| _=>False)/\O.ar.lookup p.2=none/\p.1<1000000/\p.2<1000000/\ZjI q (O.ren p.1 p.2)
theorem Zd1:∀{q:List (Nat×Nat)} {O:St},ZjI q O->ZfC (St.ZpB q O) O
 | [],_,_=>fun _ _ _ _ h=>h
 | p::q,O,⟨h1,h2,h3,h4,h5⟩=>fun N w0 a w hs=>Zd1 h5 N w0 a w (ZpA h1 h2 h3 h4 N w0 a w hs)
theorem fr {O O1:St} {ι:Type} {S:ι->St} {I:ι->Prop} {K:St->Prop} (hK:∀i O',I i->ZfC (S i) O'->K O') (q:List (Nat×Nat)) (ts ks τs:List Nat) (i:ι) (hi:I i) (e:O.of ts ks τs [] [] []=O1:=by simp [go_sem];exact rfl) (h1:Zdb O1 O:=by constructor<;>simp [go_sem,F]<;>omega)
  (hA:ZjI q O1:=by simp [go_sem,ZjI]) (h:Zdb (S i) (St.ZpB q O1):=by constructor<;>simp [go_sem,St.ZpB,F]<;>omega):K O:=hK i O hi fun N w0 a w hs=>h.into N w0 a w (Zd1 hA N w0 a w (h1.into N w0 a w hs))
theorem Zml {P:Program} {O:St} {f n:Nat} {dst:Option Nat} {ds ds' rs:List DV} {vs:List V} {pu:Bool} {X:Bool->Bool->List DV->Prop} {Z:Eff->Prop} (c:TC P f n ds rs) (hx:ZuB O n ds rs Z vs dst):Zg3 P f ds' pu X (XBy P O dst f (some vs) Z):=.inr (Zwx c hx)
theorem rr {P:Program} {N:Nat->Prop} {w0:Bs} {Q:Exit->St->Prop} {x:Code} {O O1:St} (th:List Nat) (q:List (Nat×Nat)) (ts ks τs:List Nat) (h:AW P N w0 x Q (St.ZpB q (th.foldl St.ZfH O1))) (ch:List (Nat×V):=[]) (cb:List (Nat×List CV):=[]) (ca:List (Nat×Option Arr):=[]) (e:O.of ts ks τs ch cb ca=O1:=by simp [go_sem];exact rfl) (h1:Zdb O1 O:=by constructor<;>simp [go_sem,F]<;>omega)
  (hT:Zfg th O1:=by simp [go_sem,Zfg,St.ZfH]) (hA:ZjI q (th.foldl St.ZfH O1):=by simp [go_sem,ZjI,St.ZfH]):AW P N w0 x Q O:=Zdc h1.into (Zdc (ZdL hT) (Zdc (Zd1 hA) h))
theorem rn {Q:Exit->St->Prop} {K:St->Prop} {O O1:St} (hK:∀O' O'',ZfC O'' O'->Q .normal O''->K O') (th:List Nat) (q:List (Nat×Nat)) (ts ks τs:List Nat) (ch:List (Nat×V):=[]) (cb:List (Nat×List CV):=[]) (ca:List (Nat×Option Arr):=[]) (e:O.of ts ks τs ch cb ca=O1:=by simp [go_sem];exact rfl) (h1:Zdb O1 O:=by constructor<;>simp [go_sem,F]<;>omega)
  (hT:Zfg th O1:=by simp [go_sem,Zfg,St.ZfH]) (hA:ZjI q (th.foldl St.ZfH O1):=by simp [go_sem,ZjI,St.ZfH]) (h:Q .normal (St.ZpB q (th.foldl St.ZfH O1)):=by simp (maxSteps:=9999999) [go_sem,St.ZpB,St.ZfH,F]):K O:=hK O _ (fun N w0 a w hs=>Zd1 hA N w0 a w (ZdL hT N w0 a w (h1.into N w0 a w hs))) h
theorem ZwB {α:Type} {xs:List α} {i:Int} {x:α} (h:at? xs i=some x):0<=i/\i<(xs.length:Int):=by
 have h1:=Zlk h;have h2:=(Xy h).1;omega
theorem ZxN {α:Type} {xs:List α} {i:Int} {x:α} (c:α->List L) (h:at? xs i=some x):∀h,(xs.map c)[i.toNat]'h=c x:=fun k=>by
 have:=(Xy h).2.2 (by simpa using k);rw [List.getElem_map,this]
class Enc (α:Type) where c:α->List L
instance:Enc Int:=⟨iC⟩
instance:Enc ByteArray:=⟨sC⟩
instance:Enc Bool:=⟨bC⟩
@[go_sem] theorem Zv8:(Enc.c:Int->List L)=iC:=rfl
@[go_sem] theorem Zv7:(Enc.c:ByteArray->List L)=sC:=rfl
@[go_sem] theorem ZuO:(Enc.c:Bool->List L)=bC:=rfl
theorem Zw1 {α:Type} [Enc α] {xs:List α} {i:Int} {x:α} (h:at? xs i=some x):(xs.map Enc.c)[i.toNat]? =some (Enc.c x)/\∀h,(xs.map Enc.c)[i.toNat]'h=Enc.c x:=by
 refine ⟨by rw [List.getElem?_map,(ZeU h).2.1];rfl,fun k=> ?_⟩;have:=(ZeU h).2.2.2 (by simpa using k);rw [List.getElem_map,this]
theorem Zw0 {α:Type} {xs:List α} {n:Nat} {i:Int} {x:α} (h:at? ((xs.take n).drop (1:Int).toNat) i=some x):xs[i.toNat+1]? =some x/\∀h,xs[i.toNat+1]'h=x:=by
 have h1:=(ZeU h).2.1
 have h2:xs[i.toNat+1]? =some x:=by
  rw [show (1:Int).toNat=1 from rfl,List.getElem?_drop,Nat.add_comm] at h1;rw [List.getElem?_take] at h1
  split at h1
  ·exact h1
  ·cases h1
 exact ⟨h2,fun k=>(List.getElem?_eq_some_iff.1 h2).2⟩
@[go_sem] theorem Zvc (xs:List ByteArray):(∀e∈(xs.map sC).tail,e.length=1)↔True:=by
 simp only [iff_true];intro e he;obtain ⟨x,_,rfl⟩:=List.mem_map.1 (List.mem_of_mem_tail he)
 rfl
theorem Zoc {α:Type} {c:α->List L} (hc:∀x,(c x).length=1) (xs:List α) (W:Nat):(∀e∈xs.map c,e.length=W)↔(xs=[]\/W=1):=by
 cases xs with
 | nil=>simp
 | cons x xs=>
  constructor
  ·intro h;exact .inr ((h (c x) (by simp)).symm.trans (hc x))
  ·rintro (h| rfl)
   ·cases h
   ·intro e he;obtain ⟨b,_,rfl⟩:=List.mem_map.1 he;exact hc b
@[go_sem ↓ high] theorem ZwW (xs:List Int) (W:Nat):(∀e∈xs.map iC,e.length=W)↔(xs=[]\/W=1):=Zoc (fun _=>rfl) xs W
@[go_sem ↓ high] theorem ZwP (xs:List ByteArray) (W:Nat):(∀e∈xs.map sC,e.length=W)↔(xs=[]\/W=1):=Zoc (fun _=>rfl) xs W
@[go_sem ↓ high] theorem ZwF (xs ys:List (List L)) (W:Nat):(∀e∈xs++ys,e.length=W)↔(∀e∈xs,e.length=W)/\∀e∈ys,e.length=W:=List.forall_mem_append
@[go_sem ↓ high] theorem ZuR (x:List L) (ys:List (List L)) (W:Nat):(∀e∈x::ys,e.length=W)↔x.length=W/\∀e∈ys,e.length=W:=List.forall_mem_cons
@[go_sem] theorem Zur (n:Nat) (es:List (List L)) (h:es.all Zc2=true):(es.take n).all Zc2=true:=by
 rw [List.all_eq_true] at h ⊢;exact fun x hx=>h x (List.mem_of_mem_take hx)
@[go_sem] theorem Zut (n:Nat) (es:List (List L)) (h:es.all Zc2=true):(es.drop n).all Zc2=true:=by
 rw [List.all_eq_true] at h ⊢;exact fun x hx=>h x (List.mem_of_mem_drop hx)
theorem ZtF {α:Type} {xs:List α} {i:Int} {K:Prop} (h:∃x,at? xs i=some x) (k:K):i<(xs.length:Int)/\K:=⟨(ZwB h.choose_spec).2,k⟩
theorem nm {Φ b c:Prop} (F:Φ) (h:b) (g:b->c:=by intro h;(try simp [go_sem] at h);exact h):Φ/\b/\c:=⟨F,h,g h⟩
theorem nf {Φ b c:Prop} (F:Φ) (h:b) (g:b->c:=by intro h;(try simp at h);exact h):Φ/\b/\c:=⟨F,h,g h⟩
theorem au {p:Prop} (h:p:=by
 repeat' (first
  | (obtain ⟨x,e,hM⟩:=bind_some hM
     first
     | (have q:=Zw0 e;have F:=Zyn F (Zyn q (Xy e)))
     | (have q:at? (_::_) _=some _:=e;have F:=Zyn (Zyn (nm F (Zw1 e)) (ZwB e)) (Xy e))
     | (have q:=Xy e;have q':=q;simp only [Array.getElem_toList,Array.getElem?_toList,Int.toNat_zero,Int.toNat_one,Int.reduceToNat] at q';have F:=Zyn F (Zyn q q'))
     | have F:=Zyn F (Xy e)
     | (have q:=nz_spec e;have q':=q;(try simp at q');have F:=Zyn F (Zyn q q'))
     | (obtain ⟨c,q⟩:=ZG e;replace c:=c.symm;subst c;(try simp at q);have F:=Zyn F q)
     | (obtain ⟨c,q⟩:=Zqb e;replace c:=c.symm;subst c;(try simp [go_sem] at q);have F:=Zyn F q)
     | (obtain ⟨c,q⟩:=Zbt e;replace c:=c.symm;subst c;(try simp at q);have F:=Zyn F q)
     | (obtain ⟨c,q⟩:=Vr e;replace c:=c.symm;subst c;(try simp at q);have F:=Zyn F q)
     | (obtain ⟨c,q⟩:=cut_spec e;replace c:=c.symm;subst c;(try simp at q);have F:=Zyn F q)
     | (obtain ⟨c,q⟩:=cpy_spec e;replace c:=c.symm;subst c;(try simp at q);have F:=Zyn F q)
     | (obtain ⟨c,q⟩:=Jy e;replace c:=c.symm;subst c;(try simp at q);have F:=Zyn F q))
  | (refine Zv (fun K hK=> ?_);simp (maxSteps:=9999999) [go_sem,F])
  | (obtain rfl:=si hM;refine JM ?_;simp (maxSteps:=9999999) [go_sem,F];done)
  | (refine JM ?_;simp (maxSteps:=9999999) [go_sem,F])
  | (refine Zc ?_)
  | (refine Zh ?_;simp (maxSteps:=9999999) [go_sem,St.ZpB,St.ZfH,F];done)
  | (refine Zh ?_)
  | (refine Zlq ?_)
  | (refine Zj hM (fun h hM=> ?_) (fun h hM=> ?_)<;>(have F:=nf F h)<;>(first | have F:=Zyn F (lT h)| have F:=Zyn F (lF h)| have F:=Zyn F (eT h)| have F:=Zyn F (eF h)| have F:=Zyn F (lT (nF h))| have F:=Zyn F (lF (nT h))| have F:=Zyn F (eT (nF h))| have F:=Zyn F (eF (nT h))| skip))
  | (refine gd hM (fun h hM=> ?_) (fun h hM=> ?_)<;>(have F:=nf F h)<;>(first | have F:=Zyn F (lT h)| have F:=Zyn F (lF h)| have F:=Zyn F (eT h)| have F:=Zyn F (eF h)| have F:=Zyn F (lT (nF h))| have F:=Zyn F (lF (nT h))| have F:=Zyn F (eT (nF h))| have F:=Zyn F (eF (nT h))| skip))
  | (refine wt ?_;simp (maxSteps:=9999999) [go_sem,F])
  | (refine Zsx ?_;simp (maxSteps:=9999999) [go_sem,F])
  | (refine Zmn ?_;simp (maxSteps:=9999999) [go_sem,F])
  | (refine Zum ?_;simp (maxSteps:=9999999) [go_sem,F])
  | (refine Zsw ?_;simp (maxSteps:=9999999) [go_sem,F])
  | (refine Zul ?_;simp (maxSteps:=9999999) [go_sem,F])
  | (refine ZoT ?_;simp (maxSteps:=9999999) [go_sem,F])
  | (refine AW_ifT ?_)
  | (refine Zuz ?_)
  | (refine Ze (fun K hK=> ?_))
  | (obtain rfl:=si hM;refine ZmD ?_;simp (maxSteps:=9999999) [go_sem,F];done)
  | (refine ZmD ?_;simp (maxSteps:=9999999) [go_sem,St.ZpB,St.ZfH,F];done)
  | (obtain rfl:=si hM;refine ZmD ?_;simp (maxSteps:=9999999) [go_sem,F];omega)
  | (refine hsq (by assumption) ?_)
  | (refine ⟨by omega, ?_⟩)
  | (refine ZtF ⟨_,by assumption⟩ ?_)
  | (obtain rfl:=si hM;simp (maxSteps:=9999999) [go_sem,F];done)
  | (exact fs (by assumption) (by exact si hM))
  | (exact fs (by assumption) (by exact hM))
  | (exact fs2 (by assumption) (by intro a b h;dsimp only;exact h) (by exact hM))
  | (exact fs3 (by assumption) (by intro a b c h;dsimp only;exact h) (by exact hM))
  | (exact fs4 (by assumption) (by intro a b c d h;dsimp only;exact h) (by exact hM))
  | (exact fs5 (by assumption) (by intro a b c d f h;dsimp only;exact h) (by exact hM))
  | (exact fs6 (by assumption) (by intro a b c d f g h;dsimp only;exact h) (by exact hM))
  | (exact fs7 (by assumption) (by intro a b c d f g u h;dsimp only;exact h) (by exact hM))
  | (exact fs8 (by assumption) (by intro a b c d f g u v h;dsimp only;exact h) (by exact hM))
  | (exact fs9 (by assumption) (by intro a b c d f g u v x h;dsimp only;exact h) (by exact hM))
  | (exact fs10 (by assumption) (by intro a b c d f g u v x y h;dsimp only;exact h) (by exact hM))
  | (obtain ⟨x,ec,hM⟩:=bind_some hM
     first
     | refine qI ec ?_
     | refine qP ec ?_
     | refine qS ec ?_
     | refine qZ ec ?_
     | refine qT ec ?_
     | refine qU ec ?_
     | refine qM ec ?_
     | refine qQ ec ?_
     | refine qR ec ?_
     | (first | have F:=Zyn F (Zf1 ec)| have F:=Zyn F (Zdf ec)
        refine qV ec ?_)
     | refine qK ec ?_)
  | (obtain rfl:=si hM;(first | (have hM:=hR4;clear hR4)| (have hM:=hR3;clear hR3)| (have hM:=hR2;clear hR2)| (have hM:=hR1;clear hR1));dsimp only at hM))):p:=h
end Go.Proofs.YtbkllghhcphkaaaGreatDoor.Am
namespace Go.Proofs.YtbkllghhcphkaaaGreatDoor
open Go.RowKit Am
structure Zk where
 id:Int
 version:Int
 kind:Int
 name:ByteArray
 code:ByteArray
 n:Int
def Zk.c (x:Zk):List L:=[.int .i64 x.id,.int .i64 x.version,.int .i64 x.kind,.str x.name,.str x.code,.int .i64 x.n]
@[go_sem] theorem Zk.UF (x:Zk):x.c=[.int .i64 x.id,.int .i64 x.version,.int .i64 x.kind,.str x.name,.str x.code,.int .i64 x.n]:=rfl
@[go_sem] theorem Zk.ZtY (xs:List Zk):xs.all (Zc2∘Zk.c)=true:=by simp [Zc2,L.flat,Zk.UF]
structure Zd where
 cells:List Zk
def Zd.c (x:Zd):List L:=[.sl (x.cells.map Zk.c)]
@[go_sem] theorem Zd.UF (x:Zd):x.c=[.sl (x.cells.map Zk.c)]:=rfl
structure Zi where
 kind:Int
 n:Int
 at_:Int
 text:ByteArray
def Zi.c (x:Zi):List L:=[.int .i64 x.kind,.int .i64 x.n,.int .i64 x.at_,.str x.text]
@[go_sem] theorem Zi.UF (x:Zi):x.c=[.int .i64 x.kind,.int .i64 x.n,.int .i64 x.at_,.str x.text]:=rfl
structure Zf where
 toks:List Zi
 i:Int
 end_:Int
 bad:Int
def Zf.c (x:Zf):List L:=[.sl (x.toks.map Zi.c),.int .i64 x.i,.int .i64 x.end_,.int .i64 x.bad]
@[go_sem] theorem Zf.UF (x:Zf):x.c=[.sl (x.toks.map Zi.c),.int .i64 x.i,.int .i64 x.end_,.int .i64 x.bad]:=rfl
structure Zb where
 kind:Int
 n:Int
 text:ByteArray
 args:List Zb
mutual
def Zb.c:Zb->List L
 | ⟨kind,n,text,args⟩=>[.int .i64 kind,.int .i64 n,.str text,.sl (Zb.cs args)]
def Zb.cs:List Zb->List (List L)
 | []=>[]
 | x::xs=>Zb.c x::Zb.cs xs
end
theorem Zb.Zj8:∀xs:List Zb,Zb.cs xs=xs.map Zb.c
 | []=>rfl
 | x::xs=>by rw [Zb.cs,Zb.Zj8 xs];rfl
@[go_sem] theorem Zb.UF (x:Zb):x.c=[.int .i64 x.kind,.int .i64 x.n,.str x.text,.sl (x.args.map Zb.c)]:=by
 cases x;simp only [Zb.c,Zb.Zj8]
structure Zo where
 cell:Int
 row:Int
def Zo.c (x:Zo):List L:=[.int .i64 x.cell,.int .i64 x.row]
@[go_sem] theorem Zo.UF (x:Zo):x.c=[.int .i64 x.cell,.int .i64 x.row]:=rfl
@[go_sem] theorem Zo.ZtY (xs:List Zo):xs.all (Zc2∘Zo.c)=true:=by simp [Zc2,L.flat,Zo.UF]
structure ZN where
 cells:List Int
 from_:List Zo
def ZN.c (x:ZN):List L:=[.sl (x.cells.map iC),.sl (x.from_.map Zo.c)]
@[go_sem] theorem ZN.UF (x:ZN):x.c=[.sl (x.cells.map iC),.sl (x.from_.map Zo.c)]:=rfl
structure Za where
 kind:Int
 n:Int
 step:Int
 text:ByteArray
 list:List Za
 columns:List ByteArray
 rows:List ZN
mutual
def Za.c:Za->List L
 | ⟨kind,n,step,text,list,columns,rows⟩=>[.int .i64 kind,.int .i64 n,.int .i64 step,.str text,.sl (Za.cs list),.sl (columns.map sC),.sl (rows.map ZN.c)]
def Za.cs:List Za->List (List L)
 | []=>[]
 | x::xs=>Za.c x::Za.cs xs
end
theorem Za.Zj8:∀xs:List Za,Za.cs xs=xs.map Za.c
 | []=>rfl
 | x::xs=>by rw [Za.cs,Za.Zj8 xs];rfl
@[go_sem] theorem Za.UF (x:Za):x.c=[.int .i64 x.kind,.int .i64 x.n,.int .i64 x.step,.str x.text,.sl (x.list.map Za.c),.sl (x.columns.map sC),.sl (x.rows.map ZN.c)]:=by
 cases x;simp only [Za.c,Za.Zj8]
structure Zq where
 kind:Int
 name:ByteArray
 expr:Zb
 value:Za
 at_:Int
def Zq.c (x:Zq):List L:=[.int .i64 x.kind,.str x.name,.int .i64 x.expr.kind,.int .i64 x.expr.n,.str x.expr.text,.sl (x.expr.args.map Zb.c),.int .i64 x.value.kind,.int .i64 x.value.n,.int .i64 x.value.step,.str x.value.text,.sl (x.value.list.map Za.c),.sl (x.value.columns.map sC),.sl (x.value.rows.map ZN.c),.int .i64 x.at_]
@[go_sem] theorem Zq.UF (x:Zq):x.c=[.int .i64 x.kind,.str x.name,.int .i64 x.expr.kind,.int .i64 x.expr.n,.str x.expr.text,.sl (x.expr.args.map Zb.c),.int .i64 x.value.kind,.int .i64 x.value.n,.int .i64 x.value.step,.str x.value.text,.sl (x.value.list.map Za.c),.sl (x.value.columns.map sC),.sl (x.value.rows.map ZN.c),.int .i64 x.at_]:=rfl
structure Zg where
 list:List Zi
 at_:Int
 bad:Int
def Zg.c (x:Zg):List L:=[.sl (x.list.map Zi.c),.int .i64 x.at_,.int .i64 x.bad]
@[go_sem] theorem Zg.UF (x:Zg):x.c=[.sl (x.list.map Zi.c),.int .i64 x.at_,.int .i64 x.bad]:=rfl
structure ZS where
 name:ByteArray
 n:Int
def ZS.c (x:ZS):List L:=[.str x.name,.int .i64 x.n]
@[go_sem] theorem ZS.UF (x:ZS):x.c=[.str x.name,.int .i64 x.n]:=rfl
structure Yo where
 clock:Int
 seed:Int
 files:List ZS
def Yo.c (x:Yo):List L:=[.int .i64 x.clock,.int .i64 x.seed,.sl (x.files.map ZS.c)]
@[go_sem] theorem Yo.UF (x:Yo):x.c=[.int .i64 x.clock,.int .i64 x.seed,.sl (x.files.map ZS.c)]:=rfl
structure ZR where
 kind:Int
 n:Int
 time:Int
 text:ByteArray
 result:Za
def ZR.c (x:ZR):List L:=[.int .i64 x.kind,.int .i64 x.n,.int .i64 x.time,.str x.text,.int .i64 x.result.kind,.int .i64 x.result.n,.int .i64 x.result.step,.str x.result.text,.sl (x.result.list.map Za.c),.sl (x.result.columns.map sC),.sl (x.result.rows.map ZN.c)]
@[go_sem] theorem ZR.UF (x:ZR):x.c=[.int .i64 x.kind,.int .i64 x.n,.int .i64 x.time,.str x.text,.int .i64 x.result.kind,.int .i64 x.result.n,.int .i64 x.result.step,.str x.result.text,.sl (x.result.list.map Za.c),.sl (x.result.columns.map sC),.sl (x.result.rows.map ZN.c)]:=rfl
structure ZQ where
 cell:Int
 version:Int
 reads:List ZR
def ZQ.c (x:ZQ):List L:=[.int .i64 x.cell,.int .i64 x.version,.sl (x.reads.map ZR.c)]
@[go_sem] theorem ZQ.UF (x:ZQ):x.c=[.int .i64 x.cell,.int .i64 x.version,.sl (x.reads.map ZR.c)]:=rfl
structure Zw where
 cell:Int
 version:Int
 stamp:Int
 inputs:List Int
 value:Za
 has:Bool
def Zw.c (x:Zw):List L:=[.int .i64 x.cell,.int .i64 x.version,.int .i64 x.stamp,.sl (x.inputs.map iC),.int .i64 x.value.kind,.int .i64 x.value.n,.int .i64 x.value.step,.str x.value.text,.sl (x.value.list.map Za.c),.sl (x.value.columns.map sC),.sl (x.value.rows.map ZN.c),.bool x.has]
@[go_sem] theorem Zw.UF (x:Zw):x.c=[.int .i64 x.cell,.int .i64 x.version,.int .i64 x.stamp,.sl (x.inputs.map iC),.int .i64 x.value.kind,.int .i64 x.value.n,.int .i64 x.value.step,.str x.value.text,.sl (x.value.list.map Za.c),.sl (x.value.columns.map sC),.sl (x.value.rows.map ZN.c),.bool x.has]:=rfl
structure Zz where
 notebook:Zd
 world:Yo
 tapes:List ZQ
 entries:List Zw
 next:Int
 limit:Int
 work:Int
def Zz.c (x:Zz):List L:=[.sl (x.notebook.cells.map Zk.c),.int .i64 x.world.clock,.int .i64 x.world.seed,.sl (x.world.files.map ZS.c),.sl (x.tapes.map ZQ.c),.sl (x.entries.map Zw.c),.int .i64 x.next,.int .i64 x.limit,.int .i64 x.work]
@[go_sem] theorem Zz.UF (x:Zz):x.c=[.sl (x.notebook.cells.map Zk.c),.int .i64 x.world.clock,.int .i64 x.world.seed,.sl (x.world.files.map ZS.c),.sl (x.tapes.map ZQ.c),.sl (x.entries.map Zw.c),.int .i64 x.next,.int .i64 x.limit,.int .i64 x.work]:=rfl
structure YA where
 kind:Int
 at_:Int
 cell:Zk
def YA.c (x:YA):List L:=[.int .i64 x.kind,.int .i64 x.at_,.int .i64 x.cell.id,.int .i64 x.cell.version,.int .i64 x.cell.kind,.str x.cell.name,.str x.cell.code,.int .i64 x.cell.n]
@[go_sem] theorem YA.UF (x:YA):x.c=[.int .i64 x.kind,.int .i64 x.at_,.int .i64 x.cell.id,.int .i64 x.cell.version,.int .i64 x.cell.kind,.str x.cell.name,.str x.cell.code,.int .i64 x.cell.n]:=rfl
open Go.RowKit Am
instance:Enc Zk:=⟨Zk.c⟩
@[go_sem] theorem Zk.enc:(Enc.c:Zk->List L)=Zk.c:=rfl
instance:Enc Zd:=⟨Zd.c⟩
@[go_sem] theorem Zd.enc:(Enc.c:Zd->List L)=Zd.c:=rfl
instance:Enc Zi:=⟨Zi.c⟩
@[go_sem] theorem Zi.enc:(Enc.c:Zi->List L)=Zi.c:=rfl
instance:Enc Zf:=⟨Zf.c⟩
@[go_sem] theorem Zf.enc:(Enc.c:Zf->List L)=Zf.c:=rfl
instance:Enc Zb:=⟨Zb.c⟩
@[go_sem] theorem Zb.enc:(Enc.c:Zb->List L)=Zb.c:=rfl
instance:Enc Zo:=⟨Zo.c⟩
@[go_sem] theorem Zo.enc:(Enc.c:Zo->List L)=Zo.c:=rfl
instance:Enc ZN:=⟨ZN.c⟩
@[go_sem] theorem ZN.enc:(Enc.c:ZN->List L)=ZN.c:=rfl
instance:Enc Za:=⟨Za.c⟩
@[go_sem] theorem Za.enc:(Enc.c:Za->List L)=Za.c:=rfl
instance:Enc Zq:=⟨Zq.c⟩
@[go_sem] theorem Zq.enc:(Enc.c:Zq->List L)=Zq.c:=rfl
instance:Enc Zg:=⟨Zg.c⟩
@[go_sem] theorem Zg.enc:(Enc.c:Zg->List L)=Zg.c:=rfl
instance:Enc ZS:=⟨ZS.c⟩
@[go_sem] theorem ZS.enc:(Enc.c:ZS->List L)=ZS.c:=rfl
instance:Enc Yo:=⟨Yo.c⟩
@[go_sem] theorem Yo.enc:(Enc.c:Yo->List L)=Yo.c:=rfl
instance:Enc ZR:=⟨ZR.c⟩
@[go_sem] theorem ZR.enc:(Enc.c:ZR->List L)=ZR.c:=rfl
instance:Enc ZQ:=⟨ZQ.c⟩
@[go_sem] theorem ZQ.enc:(Enc.c:ZQ->List L)=ZQ.c:=rfl
instance:Enc Zw:=⟨Zw.c⟩
@[go_sem] theorem Zw.enc:(Enc.c:Zw->List L)=Zw.c:=rfl
instance:Enc Zz:=⟨Zz.c⟩
@[go_sem] theorem Zz.enc:(Enc.c:Zz->List L)=Zz.c:=rfl
instance:Enc YA:=⟨YA.c⟩
@[go_sem] theorem YA.enc:(Enc.c:YA->List L)=YA.c:=rfl
open Go.RowKit Am
def UG (a0:Int) (a1:Int) (a2:Int):Option Bool:= (if (decide (a1<=a0)) then some (decide (a0<=a2)) else some false).bind fun x1=> some x1
def Yb (a0:ByteArray):Nat->Int->Option (Unit ⊕ Bool) | 0,_=>none | n_+1,x1=> if (decide (x1<(a0.size:Int))) then ((at? a0.data.toList x1).bind fun x3=> if (decide ((x3.toNat:Int)<32)) then some true else some (decide (126<(x3.toNat:Int)))).bind fun x2=> if x2 then some (.inr false) else Yb a0 n_ (IntKind.i64.wrap (x1+1)) else some (.inl ())
def X4 (k:Nat) (a0:ByteArray):Option Bool:= (Yb a0 k 0:Option (Unit ⊕ Bool)).bind fun | .inl _=>( some (decide ((a0.size:Int)<=120))) | .inr z4=>( some z4)
def XR (a0:ByteArray):Nat->Int->Option (Unit ⊕ Bool) | 0,_=>none | n_+1,x1=> if (decide (x1<(a0.size:Int))) then ((at? a0.data.toList x1).bind fun x3=> if (decide (97<=(x3.toNat:Int))) then some (decide ((x3.toNat:Int)<=122)) else some false).bind fun x2=> ((at? a0.data.toList x1).bind fun x5=> if (decide (48<=(x5.toNat:Int))) then some (decide ((x5.toNat:Int)<=57)) else some false).bind fun x4=> (if (!x2) then if (decide (x1=0)) then some true else some (!x4) else some false).bind fun x6=> if x6 then some (.inr false) else XR a0 n_ (IntKind.i64.wrap (x1+1)) else some (.inl ())
def ZbA (k:Nat) (a0:ByteArray):Option Bool:= (XR a0 k 0:Option (Unit ⊕ Bool)).bind fun | .inl _=>( some (decide (0<(a0.size:Int)))) | .inr z7=>( some z7)
def Xc:Option (List ByteArray):= some [(⟨#[108,101,116]⟩:ByteArray),(⟨#[105,110]⟩:ByteArray),(⟨#[105,102]⟩:ByteArray),(⟨#[116,104,101,110]⟩:ByteArray),(⟨#[101,108,115,101]⟩:ByteArray),(⟨#[102,111,114]⟩:ByteArray),(⟨#[100,111]⟩:ByteArray),(⟨#[108,101,110]⟩:ByteArray),(⟨#[115,117,109]⟩:ByteArray),(⟨#[116,97,107,101]⟩:ByteArray),(⟨#[115,107,105,112]⟩:ByteArray),(⟨#[114,97,110,103,101]⟩:ByteArray),(⟨#[110,116,104]⟩:ByteArray),(⟨#[119,104,101,114,101]⟩:ByteArray),(⟨#[107,101,101,112]⟩:ByteArray),(⟨#[97,100,100]⟩:ByteArray),(⟨#[103,114,111,117,112]⟩:ByteArray),(⟨#[106,111,105,110]⟩:ByteArray),(⟨#[99,111,108,117,109,110]⟩:ByteArray),(⟨#[114,111,119,115]⟩:ByteArray),(⟨#[99,108,111,99,107]⟩:ByteArray),(⟨#[99,104,97,110,99,101]⟩:ByteArray),(⟨#[102,105,108,101]⟩:ByteArray),(⟨#[116,97,98,108,101]⟩:ByteArray)]
def Wb (a0:List ByteArray) (a1:ByteArray):Nat->Int->Option (Unit ⊕ Bool) | 0,_=>none | n_+1,x1=> if (decide (x1<(a0.length:Int))) then (at? a0 x1).bind fun x2=> if (decide (x2=a1)) then some (.inr true) else Wb a0 a1 n_ (IntKind.i64.wrap (x1+1)) else some (.inl ())
def Jg (k:Nat) (a0:List ByteArray) (a1:ByteArray):Option Bool:= (Wb a0 a1 k 0:Option (Unit ⊕ Bool)).bind fun | .inl _=>( some false) | .inr z3=>( some z3)
def Uq (k:Nat) (a0:ByteArray):Option Bool:= (Xc).bind fun x1=> (Jg k x1 a0).bind fun x2=> some x2
def Z0 (k:Nat) (a0:ByteArray):Option Bool:= ((ZbA k a0).bind fun x2=> if x2 then if (decide ((a0.size:Int)<=8)) then (Uq k a0).bind fun x3=> some (!x3) else some false else some false).bind fun x1=> some x1
def YV (k:Nat) (a0:Zk):Option Bool:= ((UG a0.id 1 999).bind fun x2=> if (!x2) then some true else (UG a0.version 1 999).bind fun x3=> if (!x3) then some true else (X4 k a0.code).bind fun x4=> some (!x4)).bind fun x1=> if x1 then some false else if (decide (a0.kind=1)) then (if (decide (a0.name=(⟨#[]⟩:ByteArray))) then some (decide (a0.n=0)) else some false).bind fun x5=> some x5 else (if (decide (a0.kind=2)) then some true else some (decide (a0.kind=4))).bind fun x6=> if x6 then ((Z0 k a0.name).bind fun x8=> if x8 then some (decide (a0.n=0)) else some false).bind fun x7=> some x7 else if (decide (a0.kind=3)) then ((Z0 k a0.name).bind fun x10=> if x10 then if (decide (a0.code=(⟨#[]⟩:ByteArray))) then (UG a0.n 0 100).bind fun x11=> some x11 else some false else some false).bind fun x9=> some x9 else some false
def Yc (a0:Zd) (a1:Int):Nat->Int->Option (Unit ⊕ Int) | 0,_=>none | n_+1,x1=> if (decide (x1<(a0.cells.length:Int))) then (at? a0.cells x1).bind fun x2=> if (decide (x2.id=a1)) then some (.inr x1) else Yc a0 a1 n_ (IntKind.i64.wrap (x1+1)) else some (.inl ())
def Xw (k:Nat) (a0:Zd) (a1:Int):Option Int:= (Yc a0 a1 k 0:Option (Unit ⊕ Int)).bind fun | .inl _=>( some (-1)) | .inr z3=>( some z3)
def Z5 (k:Nat) (a0:Zd):Nat->Int->Option (Unit ⊕ Bool) | 0,_=>none | n_+1,x1=> if (decide (x1<(a0.cells.length:Int))) then ((at? a0.cells x1).bind fun x3=> (YV k x3).bind fun x4=> if (!x4) then some true else (Xw k a0 x3.id).bind fun x5=> some (!decide (x5=x1))).bind fun x2=> if x2 then some (.inr false) else Z5 k a0 n_ (IntKind.i64.wrap (x1+1)) else some (.inl ())
def QR (k:Nat) (a0:Zd):Option Bool:= (Z5 k a0 k 0:Option (Unit ⊕ Bool)).bind fun | .inl _=>( some (decide ((a0.cells.length:Int)<=8))) | .inr z6=>( some z6)
def VO (a0:Int):Option Bool:= (if (decide (97<=a0)) then some (decide (a0<=122)) else some false).bind fun x1=> some x1
def Um (a0:Int):Option Bool:= (if (decide (48<=a0)) then some (decide (a0<=57)) else some false).bind fun x1=> some x1
def ZP:Nat->Int->ByteArray->Option ByteArray | 0,_,_=>none | n_+1,x2,x3=> if (!decide (x2=0)) then (if (decide ((IntKind.i64.wrap (x2.tmod 10))<0)) then some (IntKind.i64.wrap (0-(IntKind.i64.wrap (x2.tmod 10)))) else some (IntKind.i64.wrap (x2.tmod 10))).bind fun x4=> (Zsm (Zlj [(IntKind.u8.wrap (IntKind.i64.wrap (48+x4)))]) x3).bind fun x5=> ZP n_ (IntKind.i64.wrap (x2.tdiv 10)) x5 else some x3
def Jo (k:Nat) (a0:Int):Option ByteArray:= if (decide (a0=0)) then some (⟨#[48]⟩:ByteArray) else (ZP k a0 (⟨#[]⟩:ByteArray)).bind fun x1=> if (decide (a0<0)) then (Zsm (⟨#[45]⟩:ByteArray) x1).bind fun x6=> some x6 else some x1
def X0 (x3:ByteArray):Nat->Int->Int->Option (Int ⊕ (Int×Bool)) | 0,_,_=>none | n_+1,x7,x8=> if (decide (x8<(x3.size:Int))) then ((at? x3.data.toList x8).bind fun x10=> if (decide ((x10.toNat:Int)<48)) then some true else some (decide (57<(x10.toNat:Int)))).bind fun x9=> if x9 then some (.inr (0,false)) else (at? x3.data.toList x8).bind fun x11=> X0 x3 n_ (IntKind.i64.wrap ((IntKind.i64.wrap (10*x7))+(IntKind.i64.wrap (IntKind.u8.wrap ((x11.toNat:Int)-48))))) (IntKind.i64.wrap (x8+1)) else some (.inl x7)
def ZdP (k:Nat) (a0:ByteArray) (a1:Int):Option (Int×Bool):= (if (decide (0<(a0.size:Int))) then (at? a0.data.toList 0).bind fun x2=> some (decide ((x2.toNat:Int)=45)) else some false).bind fun x1=> (if x1 then (UH a0 1 (a0.size:Int)).bind fun x4=> some x4 else some a0).bind fun x3=> (if (decide ((x3.size:Int)<1)) then some true else some (decide (a1<(x3.size:Int)))).bind fun x5=> if x5 then some (0,false) else (X0 x3 k 0 0:Option (Int ⊕ (Int×Bool))).bind fun | .inl x6=>( (if x1 then some (IntKind.i64.wrap (0-x6)) else some x6).bind fun x12=> (Jo k x12).bind fun x13=> if (!decide (x13=a0)) then some (0,false) else some (x12,true)) | .inr z14=>( some z14)
open Go.RowKit Am
def WU (k:Nat) (a0:ByteArray):Option (Int×Bool):= (ZdP k a0 12).bind fun x1=> some (x1.1,x1.2)
def YZ (a0:ByteArray):Nat->Int->Option (Unit ⊕ Bool) | 0,_=>none | n_+1,x1=> if (decide (x1<(a0.size:Int))) then ((at? a0.data.toList x1).bind fun x3=> if (decide ((x3.toNat:Int)<32)) then some true else if (decide (126<(x3.toNat:Int))) then some true else some (decide ((x3.toNat:Int)=34))).bind fun x2=> if x2 then some (.inr false) else YZ a0 n_ (IntKind.i64.wrap (x1+1)) else some (.inl ())
def X3 (k:Nat) (a0:ByteArray):Option Bool:= (YZ a0 k 0:Option (Unit ⊕ Bool)).bind fun | .inl _=>( some (decide ((a0.size:Int)<=20))) | .inr z4=>( some z4)
def UW (a0:ByteArray) (a1:Int):Option Int:= (at? a0.data.toList a1).bind fun x1=> (if (decide ((x1.toNat:Int)=40)) then some true else if (decide ((x1.toNat:Int)=41)) then some true else if (decide ((x1.toNat:Int)=91)) then some true else if (decide ((x1.toNat:Int)=93)) then some true else if (decide ((x1.toNat:Int)=44)) then some true else if (decide ((x1.toNat:Int)=43)) then some true else if (decide ((x1.toNat:Int)=45)) then some true else if (decide ((x1.toNat:Int)=42)) then some true else some (decide ((x1.toNat:Int)=60))).bind fun x2=> if x2 then some 1 else if (decide ((x1.toNat:Int)=61)) then (if (decide ((IntKind.i64.wrap (a1+1))<(a0.size:Int))) then (at? a0.data.toList (IntKind.i64.wrap (a1+1))).bind fun x4=> some (decide ((x4.toNat:Int)=61)) else some false).bind fun x3=> if x3 then some 2 else some 1 else some 0
def Xv (a0:ByteArray):Nat->Int->Option Int | 0,_=>none | n_+1,x8=> (if (decide (x8<(a0.size:Int))) then (at? a0.data.toList x8).bind fun x10=> (VO (x10.toNat:Int)).bind fun x11=> if x11 then some true else (Um (x10.toNat:Int)).bind fun x12=> some x12 else some false).bind fun x9=> if x9 then Xv a0 n_ (IntKind.i64.wrap (x8+1)) else some x8
def Xu (a0:ByteArray):Nat->Int->Option Int | 0,_=>none | n_+1,x16=> (if (decide (x16<(a0.size:Int))) then (at? a0.data.toList x16).bind fun x18=> (Um (x18.toNat:Int)).bind fun x19=> some x19 else some false).bind fun x17=> if x17 then Xu a0 n_ (IntKind.i64.wrap (x16+1)) else some x16
def Xt (a0:ByteArray):Nat->Int->Option Int | 0,_=>none | n_+1,x24=> (if (decide (x24<(a0.size:Int))) then (at? a0.data.toList x24).bind fun x26=> some (!decide ((x26.toNat:Int)=34)) else some false).bind fun x25=> if x25 then Xt a0 n_ (IntKind.i64.wrap (x24+1)) else some x24
def Xz (k:Nat) (a0:ByteArray) (a1:Int):Option (Zi×Int):= ((at? a0.data.toList a1).bind fun x5=> (VO (x5.toNat:Int)).bind fun x6=> if x6 then (Xv a0 k a1).bind fun x7=> (UH a0 a1 x7).bind fun x13=> if (decide (8<(IntKind.i64.wrap (x7-a1)))) then some (.inr ((Zi.mk 1 0 a1 x13),0)) else some (.inl (1,0,x13,x7)) else (Um (x5.toNat:Int)).bind fun x14=> if x14 then (Xu a0 k a1).bind fun x15=> (UH a0 a1 x15).bind fun x20=> (WU k x20).bind fun x21=> (if (!x21.2) then some true else some (decide (1000000000<x21.1))).bind fun x22=> if x22 then some (.inr ((Zi.mk 2 x21.1 a1 (⟨#[]⟩:ByteArray)),0)) else some (.inl (2,x21.1,(⟨#[]⟩:ByteArray),x15)) else if (decide ((x5.toNat:Int)=34)) then (Xt a0 k (IntKind.i64.wrap (a1+1))).bind fun x23=> (UH a0 (IntKind.i64.wrap (a1+1)) x23).bind fun x27=> (if (decide (x23=(a0.size:Int))) then some true else (X3 k x27).bind fun x29=> some (!x29)).bind fun x28=> if x28 then some (.inr ((Zi.mk 3 0 a1 x27),0)) else some (.inl (3,0,x27,(IntKind.i64.wrap (x23+1)))) else (UW a0 a1).bind fun x30=> (UH a0 a1 (IntKind.i64.wrap (a1+x30))).bind fun x31=> some (.inl (4,0,x31,(IntKind.i64.wrap (a1+x30)))):Option ((Int×Int×ByteArray×Int) ⊕ (Zi×Int))).bind fun | .inl (x1,x2,x3,x4)=>( some ((Zi.mk x1 x2 a1 x3),(IntKind.i64.wrap (x4-a1)))) | .inr z32=>( some z32)
def ZV (k:Nat) (a0:ByteArray):Nat->(List Zi)->Int->Option ((List Zi) ⊕ ((List Zi)×Int)) | 0,_,_=>none | n_+1,x2,x3=> if (decide (x3<(a0.size:Int))) then (at? a0.data.toList x3).bind fun x4=> if (decide ((x4.toNat:Int)=32)) then ZV k a0 n_ x2 (IntKind.i64.wrap (x3+1)) else (Xz k a0 x3).bind fun x5=> (if (decide (x5.2=0)) then some true else some (decide ((x2.length:Int)=60))).bind fun x6=> if x6 then some (.inr (([]:List Zi),x3)) else (Yv 40 x2 [x5.1]).bind fun x7=> ZV k a0 n_ x7 (IntKind.i64.wrap (x3+x5.2)) else some (.inl x2)
def VS (k:Nat) (a0:ByteArray):Option ((List Zi)×Int):= if (decide (120<(a0.size:Int))) then some (([]:List Zi),120) else (ZV k a0 k ([]:List Zi) 0:Option ((List Zi) ⊕ ((List Zi)×Int))).bind fun | .inl x1=>( some (x1,(-1))) | .inr z8=>( some z8)
def WW (a0:Zi) (a1:ByteArray):Option Bool:= (if (decide (a0.kind=4)) then some (decide (a0.text=a1)) else some false).bind fun x1=> some x1
def Jn (a0:Zi) (a1:ByteArray):Option Bool:= (if (decide (a0.kind=1)) then some (decide (a0.text=a1)) else some false).bind fun x1=> some x1
def Zs (a0:Zf) (a1:ByteArray):Option (Bool×Zf):= (if (decide (a0.bad<0)) then if (decide (a0.i<(a0.toks.length:Int))) then (at? a0.toks a0.i).bind fun x2=> (WW x2 a1).bind fun x3=> if x3 then some true else (Jn x2 a1).bind fun x4=> some x4 else some false else some false).bind fun x1=> some (x1,a0)
def Y3 (a0:Zf):Option (Zb×Zf):= (if (decide (a0.bad<0)) then if (decide (a0.i<(a0.toks.length:Int))) then (at? a0.toks a0.i).bind fun x2=> some x2.at_ else some a0.end_ else some a0.bad).bind fun x1=> some ((Zb.mk 0 0 (⟨#[]⟩:ByteArray) []),(Zf.mk a0.toks a0.i a0.end_ x1))
def X9 (k:Nat) (a0:Zf):Option (ByteArray×Zf):= (if (decide (0<=a0.bad)) then some true else if (decide ((a0.toks.length:Int)<=a0.i)) then some true else (at? a0.toks a0.i).bind fun x2=> if (!decide (x2.kind=1)) then some true else (Z0 k x2.text).bind fun x3=> some (!x3)).bind fun x1=> if x1 then (Y3 a0).bind fun x4=> some ((⟨#[]⟩:ByteArray),x4.2) else (at? a0.toks (IntKind.i64.wrap ((IntKind.i64.wrap (a0.i+1))-1))).bind fun x5=> some (x5.text,(Zf.mk a0.toks (IntKind.i64.wrap (a0.i+1)) a0.end_ a0.bad))
def ZA (a0:Zf) (a1:ByteArray):Option Zf:= (Zs a0 a1).bind fun x1=> if (!x1.1) then (Y3 x1.2).bind fun x2=> some x2.2 else some (Zf.mk x1.2.toks (IntKind.i64.wrap (x1.2.i+1)) x1.2.end_ x1.2.bad)
def ZdR (a0:Int):Option Zb:= some (Zb.mk 1 a0 (⟨#[]⟩:ByteArray) [])
def ZbD (a0:ByteArray):Option Zb:= some (Zb.mk 3 0 a0 [])
def Ya (a0:ByteArray):Option Int:= if (decide (a0=(⟨#[99,108,111,99,107]⟩:ByteArray))) then some 0 else (if (decide (a0=(⟨#[108,101,110]⟩:ByteArray))) then some true else if (decide (a0=(⟨#[115,117,109]⟩:ByteArray))) then some true else if (decide (a0=(⟨#[114,111,119,115]⟩:ByteArray))) then some true else if (decide (a0=(⟨#[99,104,97,110,99,101]⟩:ByteArray))) then some true else some (decide (a0=(⟨#[102,105,108,101]⟩:ByteArray)))).bind fun x1=> if x1 then some 1 else (if (decide (a0=(⟨#[116,97,107,101]⟩:ByteArray))) then some true else if (decide (a0=(⟨#[115,107,105,112]⟩:ByteArray))) then some true else if (decide (a0=(⟨#[114,97,110,103,101]⟩:ByteArray))) then some true else if (decide (a0=(⟨#[110,116,104]⟩:ByteArray))) then some true else if (decide (a0=(⟨#[107,101,101,112]⟩:ByteArray))) then some true else if (decide (a0=(⟨#[99,111,108,117,109,110]⟩:ByteArray))) then some true else some (decide (a0=(⟨#[116,97,98,108,101]⟩:ByteArray)))).bind fun x2=> if x2 then some 2 else (if (decide (a0=(⟨#[119,104,101,114,101]⟩:ByteArray))) then some true else if (decide (a0=(⟨#[103,114,111,117,112]⟩:ByteArray))) then some true else some (decide (a0=(⟨#[106,111,105,110]⟩:ByteArray)))).bind fun x3=> if x3 then some 3 else if (decide (a0=(⟨#[97,100,100]⟩:ByteArray))) then some 4 else some (-1)
open Go.RowKit Am
def Zaq (a0:Int) (a1:Zb) (a2:Zb):Option Zb:= some (Zb.mk 6 a0 (⟨#[]⟩:ByteArray) [a1,a2])
def Xf (rec_s_l11Expr:Zf->Option (Zb×Zf)):Nat->(List Zi)->Int->Int->Int->(List Zb)->Option ((List Zi)×Int×Int×Int×(List Zb)) | 0,_,_,_,_,_=>none | n_+1,x7,x8,x9,x10,x11=> if (decide (x10<0)) then (rec_s_l11Expr (Zf.mk x7 x8 x9 x10)).bind fun x12=> (Yv 56 x11 [x12.1]).bind fun x13=> (Zs x12.2 (⟨#[44]⟩:ByteArray)).bind fun x14=> if (!x14.1) then some (x14.2.toks,x14.2.i,x14.2.end_,x14.2.bad,x13) else Xf rec_s_l11Expr n_ x14.2.toks (IntKind.i64.wrap (x14.2.i+1)) x14.2.end_ x14.2.bad x13 else some (x7,x8,x9,x10,x11)
def YU (rec_s_l11Atom:Zf->Option (Zb×Zf)):Nat->(List Zi)->Int->Int->Int->Int->Int->ByteArray->(List Zb)->Option (Int×Int×ByteArray×(List Zb)×(List Zi)×Int×Int×Int) | 0,_,_,_,_,_,_,_,_=>none | n_+1,x10,x11,x12,x13,x14,x15,x16,x17=> (Zs (Zf.mk x10 x11 x12 x13) (⟨#[42]⟩:ByteArray)).bind fun x18=> if x18.1 then (rec_s_l11Atom (Zf.mk x18.2.toks (IntKind.i64.wrap (x18.2.i+1)) x18.2.end_ x18.2.bad)).bind fun x19=> (Zaq 3 (Zb.mk x14 x15 x16 x17) x19.1).bind fun x20=> YU rec_s_l11Atom n_ x19.2.toks x19.2.i x19.2.end_ x19.2.bad x20.kind x20.n x20.text x20.args else some (x14,x15,x16,x17,x18.2.toks,x18.2.i,x18.2.end_,x18.2.bad)
def X1 (rec_s_l11Product:Zf->Option (Zb×Zf)):Nat->(List Zi)->Int->Int->Int->Int->Int->ByteArray->(List Zb)->Option (Int×Int×ByteArray×(List Zb)×(List Zi)×Int×Int×Int) | 0,_,_,_,_,_,_,_,_=>none | n_+1,x10,x11,x12,x13,x14,x15,x16,x17=> ((Zs (Zf.mk x10 x11 x12 x13) (⟨#[43]⟩:ByteArray)).bind fun x23=> if x23.1 then some (x23.2.toks,x23.2.i,x23.2.end_,x23.2.bad,true) else (Zs x23.2 (⟨#[45]⟩:ByteArray)).bind fun x24=> some (x24.2.toks,x24.2.i,x24.2.end_,x24.2.bad,x24.1)).bind fun (x18,x19,x20,x21,x22)=> if x22 then ((Zs (Zf.mk x18 x19 x20 x21) (⟨#[45]⟩:ByteArray)).bind fun x30=> if x30.1 then some (x30.2.toks,x30.2.i,x30.2.end_,x30.2.bad,2) else some (x30.2.toks,x30.2.i,x30.2.end_,x30.2.bad,1)).bind fun (x25,x26,x27,x28,x29)=> (rec_s_l11Product (Zf.mk x25 (IntKind.i64.wrap (x26+1)) x27 x28)).bind fun x31=> (Zaq x29 (Zb.mk x14 x15 x16 x17) x31.1).bind fun x32=> X1 rec_s_l11Product n_ x31.2.toks x31.2.i x31.2.end_ x31.2.bad x32.kind x32.n x32.text x32.args else some (x14,x15,x16,x17,x18,x19,x20,x21)
mutual
def W6:Nat->Zf->ByteArray->Option ((List Zb)×Zf) | 0,_,_=>none | k+1,a0,a1=> (Zs a0 a1).bind fun x1=> if x1.1 then some (([]:List Zb),(Zf.mk x1.2.toks (IntKind.i64.wrap (x1.2.i+1)) x1.2.end_ x1.2.bad)) else (Xf (Zx k) k x1.2.toks x1.2.i x1.2.end_ x1.2.bad ([]:List Zb)).bind fun (x2,x3,x4,x5,x6)=> (ZA (Zf.mk x2 x3 x4 x5) a1).bind fun x15=> some (x6,x15)
def Z7:Nat->Zf->Option (Zb×Zf) | 0,_=>none | k+1,a0=> (if (decide (0<=a0.bad)) then some true else some (decide ((a0.toks.length:Int)<=a0.i))).bind fun x1=> if x1 then (Y3 a0).bind fun x2=> some (x2.1,x2.2) else (at? a0.toks a0.i).bind fun x3=> if (decide (x3.kind=2)) then (ZdR x3.n).bind fun x4=> some (x4,(Zf.mk a0.toks (IntKind.i64.wrap (a0.i+1)) a0.end_ a0.bad)) else if (decide (x3.kind=3)) then some ((Zb.mk 2 0 x3.text []),(Zf.mk a0.toks (IntKind.i64.wrap (a0.i+1)) a0.end_ a0.bad)) else (if (decide (x3.kind=1)) then (Z0 k x3.text).bind fun x6=> some x6 else some false).bind fun x5=> if x5 then (ZbD x3.text).bind fun x7=> some (x7,(Zf.mk a0.toks (IntKind.i64.wrap (a0.i+1)) a0.end_ a0.bad)) else (if (decide (x3.kind=1)) then (Ya x3.text).bind fun x9=> some (decide (0<=x9)) else some false).bind fun x8=> if x8 then (ZA (Zf.mk a0.toks (IntKind.i64.wrap (a0.i+1)) a0.end_ a0.bad) (⟨#[40]⟩:ByteArray)).bind fun x10=> (W6 k x10 (⟨#[41]⟩:ByteArray)).bind fun x11=> some ((Zb.mk 5 0 x3.text x11.1),x11.2) else (WW x3 (⟨#[91]⟩:ByteArray)).bind fun x12=> if x12 then (W6 k (Zf.mk a0.toks (IntKind.i64.wrap (a0.i+1)) a0.end_ a0.bad) (⟨#[93]⟩:ByteArray)).bind fun x13=> some ((Zb.mk 4 0 (⟨#[]⟩:ByteArray) x13.1),x13.2) else (WW x3 (⟨#[40]⟩:ByteArray)).bind fun x14=> if x14 then (Zx k (Zf.mk a0.toks (IntKind.i64.wrap (a0.i+1)) a0.end_ a0.bad)).bind fun x15=> (ZA x15.2 (⟨#[41]⟩:ByteArray)).bind fun x16=> some (x15.1,x16) else (Y3 a0).bind fun x17=> some (x17.1,x17.2)
def ZJ:Nat->Zf->Option (Zb×Zf) | 0,_=>none | k+1,a0=> (Z7 k a0).bind fun x1=> (YU (Z7 k) k x1.2.toks x1.2.i x1.2.end_ x1.2.bad x1.1.kind x1.1.n x1.1.text x1.1.args).bind fun (x2,x3,x4,x5,x6,x7,x8,x9)=> some ((Zb.mk x2 x3 x4 x5),(Zf.mk x6 x7 x8 x9))
def X2:Nat->Zf->Option (Zb×Zf) | 0,_=>none | k+1,a0=> (ZJ k a0).bind fun x1=> (X1 (ZJ k) k x1.2.toks x1.2.i x1.2.end_ x1.2.bad x1.1.kind x1.1.n x1.1.text x1.1.args).bind fun (x2,x3,x4,x5,x6,x7,x8,x9)=> some ((Zb.mk x2 x3 x4 x5),(Zf.mk x6 x7 x8 x9))
def Xe:Nat->Zf->Option (Zb×Zf) | 0,_=>none | k+1,a0=> (X2 k a0).bind fun x1=> (Zs x1.2 (⟨#[60]⟩:ByteArray)).bind fun x2=> if x2.1 then (X2 k (Zf.mk x2.2.toks (IntKind.i64.wrap (x2.2.i+1)) x2.2.end_ x2.2.bad)).bind fun x3=> (Zaq 4 x1.1 x3.1).bind fun x4=> some (x4,x3.2) else (Zs x2.2 (⟨#[61,61]⟩:ByteArray)).bind fun x5=> if x5.1 then (X2 k (Zf.mk x5.2.toks (IntKind.i64.wrap (x5.2.i+1)) x5.2.end_ x5.2.bad)).bind fun x6=> (Zaq 5 x1.1 x6.1).bind fun x7=> some (x7,x6.2) else some (x1.1,x5.2)
def Zx:Nat->Zf->Option (Zb×Zf) | 0,_=>none | k+1,a0=> (Zs a0 (⟨#[108,101,116]⟩:ByteArray)).bind fun x1=> if x1.1 then (X9 k (Zf.mk x1.2.toks (IntKind.i64.wrap (x1.2.i+1)) x1.2.end_ x1.2.bad)).bind fun x2=> (ZA x2.2 (⟨#[61]⟩:ByteArray)).bind fun x3=> (Zx k x3).bind fun x4=> (ZA x4.2 (⟨#[105,110]⟩:ByteArray)).bind fun x5=> (Zx k x5).bind fun x6=> some ((Zb.mk 7 0 x2.1 [x4.1,x6.1]),x6.2) else (Zs x1.2 (⟨#[105,102]⟩:ByteArray)).bind fun x7=> if x7.1 then (Zx k (Zf.mk x7.2.toks (IntKind.i64.wrap (x7.2.i+1)) x7.2.end_ x7.2.bad)).bind fun x8=> (ZA x8.2 (⟨#[116,104,101,110]⟩:ByteArray)).bind fun x9=> (Zx k x9).bind fun x10=> (ZA x10.2 (⟨#[101,108,115,101]⟩:ByteArray)).bind fun x11=> (Zx k x11).bind fun x12=> some ((Zb.mk 8 0 (⟨#[]⟩:ByteArray) [x8.1,x10.1,x12.1]),x12.2) else (Zs x7.2 (⟨#[102,111,114]⟩:ByteArray)).bind fun x13=> if x13.1 then (X9 k (Zf.mk x13.2.toks (IntKind.i64.wrap (x13.2.i+1)) x13.2.end_ x13.2.bad)).bind fun x14=> (ZA x14.2 (⟨#[105,110]⟩:ByteArray)).bind fun x15=> (Zx k x15).bind fun x16=> (ZA x16.2 (⟨#[100,111]⟩:ByteArray)).bind fun x17=> (Zx k x17).bind fun x18=> some ((Zb.mk 9 0 x14.1 [x16.1,x18.1]),x18.2) else (Xe k x13.2).bind fun x19=> some (x19.1,x19.2)
end
def Xg (rec_s_l10Left:Zb->Int->Option Int) (a0:Zb):Nat->Int->Int->Option Int | 0,_,_=>none | n_+1,x2,x3=> (if (decide (x3<(a0.args.length:Int))) then some (decide (0<=x2)) else some false).bind fun x4=> if x4 then (at? a0.args x3).bind fun x5=> (rec_s_l10Left x5 x2).bind fun x6=> Xg rec_s_l10Left a0 n_ x6 (IntKind.i64.wrap (x3+1)) else some x2
def Wy:Nat->Zb->Int->Option Int | 0,_,_=>none | k+1,a0,a1=> (Xg (Wy k) a0 k (IntKind.i64.wrap (a1-1)) 0).bind fun x1=> some x1
def Vs (a0:Int) (a1:Int):Option Int:= if (decide (a1<a0)) then some a0 else some a1
def Y9 (rec_s_NestingOf:Zb->Option Int) (a0:Zb):Nat->Int->Int->Option Int | 0,_,_=>none | n_+1,x2,x3=> if (decide (x3<(a0.args.length:Int))) then (at? a0.args x3).bind fun x4=> (rec_s_NestingOf x4).bind fun x5=> (Vs x2 x5).bind fun x6=> Y9 rec_s_NestingOf a0 n_ x6 (IntKind.i64.wrap (x3+1)) else some x2
def Qv:Nat->Zb->Option Int | 0,_=>none | k+1,a0=> (Y9 (Qv k) a0 k 0 0).bind fun x1=> some (IntKind.i64.wrap (x1+1))
def Jh (k:Nat) (a0:Zb):Option Bool:= if (decide (a0.kind=1)) then (if (decide ((a0.args.length:Int)=0)) then if (decide (a0.text=(⟨#[]⟩:ByteArray))) then (UG a0.n 0 1000000000).bind fun x2=> some x2 else some false else some false).bind fun x1=> some x1 else if (decide (a0.kind=2)) then (if (decide ((a0.args.length:Int)=0)) then if (decide (a0.n=0)) then (X3 k a0.text).bind fun x4=> some x4 else some false else some false).bind fun x3=> some x3 else if (decide (a0.kind=3)) then (if (decide ((a0.args.length:Int)=0)) then if (decide (a0.n=0)) then (Z0 k a0.text).bind fun x6=> some x6 else some false else some false).bind fun x5=> some x5 else if (decide (a0.kind=4)) then (if (decide (a0.n=0)) then if (decide (a0.text=(⟨#[]⟩:ByteArray))) then some (decide ((a0.args.length:Int)<=8)) else some false else some false).bind fun x7=> some x7 else if (decide (a0.kind=5)) then (if (decide (a0.n=0)) then (Ya a0.text).bind fun x9=> some (decide ((a0.args.length:Int)=x9)) else some false).bind fun x8=> some x8 else if (decide (a0.kind=6)) then (if (decide (a0.text=(⟨#[]⟩:ByteArray))) then if (decide ((a0.args.length:Int)=2)) then (UG a0.n 1 5).bind fun x11=> some x11 else some false else some false).bind fun x10=> some x10 else (if (decide (a0.kind=7)) then some true else some (decide (a0.kind=9))).bind fun x12=> if x12 then (if (decide (a0.n=0)) then if (decide ((a0.args.length:Int)=2)) then (Z0 k a0.text).bind fun x14=> some x14 else some false else some false).bind fun x13=> some x13 else if (decide (a0.kind=8)) then (if (decide (a0.n=0)) then if (decide (a0.text=(⟨#[]⟩:ByteArray))) then some (decide ((a0.args.length:Int)=3)) else some false else some false).bind fun x15=> some x15 else some false
def Wz (rec_s_l10All:Zb->Option Bool) (a0:Zb):Nat->Int->Option (Unit ⊕ Bool) | 0,_=>none | n_+1,x1=> if (decide (x1<(a0.args.length:Int))) then (at? a0.args x1).bind fun x2=> (rec_s_l10All x2).bind fun x3=> if (!x3) then some (.inr false) else Wz rec_s_l10All a0 n_ (IntKind.i64.wrap (x1+1)) else some (.inl ())
def Wj:Nat->Zb->Option Bool | 0,_=>none | k+1,a0=> (Wz (Wj k) a0 k 0:Option (Unit ⊕ Bool)).bind fun | .inl _=>( (Jh k a0).bind fun x4=> some x4) | .inr z5=>( some z5)
def WV (k:Nat) (a0:Zb):Option Bool:= ((Wy k a0 40).bind fun x2=> if (decide (0<=x2)) then (Qv k a0).bind fun x3=> if (decide (x3<=8)) then (Wj k a0).bind fun x4=> some x4 else some false else some false).bind fun x1=> some x1
def WB (k:Nat) (a0:ByteArray):Option (Zb×Int):= (VS k a0).bind fun x1=> if (decide (0<=x1.2)) then some ((Zb.mk 0 0 (⟨#[]⟩:ByteArray) []),x1.2) else (Zx k (Zf.mk x1.1 0 (a0.size:Int) (-1))).bind fun x2=> ((if (decide (x2.2.bad<0)) then some (decide (x2.2.i<(x1.1.length:Int))) else some false).bind fun x7=> if x7 then (Y3 x2.2).bind fun x8=> some (x8.2.toks,x8.2.i,x8.2.end_,x8.2.bad) else some (x2.2.toks,x2.2.i,x2.2.end_,x2.2.bad)).bind fun (x3,x4,x5,x6)=> if (decide (0<=x6)) then some ((Zb.mk 0 0 (⟨#[]⟩:ByteArray) []),x6) else (WV k x2.1).bind fun x9=> if (!x9) then some ((Zb.mk 0 0 (⟨#[]⟩:ByteArray) []),0) else some (x2.1,(-1))
open Go.RowKit Am
def Ur (a0:Int):Option Za:= some (Za.mk 6 a0 0 (⟨#[]⟩:ByteArray) [] [] [])
def Zas (a0:Int):Option Za:= some (Za.mk 1 a0 0 (⟨#[]⟩:ByteArray) [] [] [])
def ZU (a0:ByteArray):Nat->(List ByteArray)->Int->Int->Option ((List ByteArray)×Int) | 0,_,_,_=>none | n_+1,x3,x4,x5=> if (decide ((IntKind.i64.wrap (x5+1))<(a0.size:Int))) then (((at? a0.data.toList x5).bind fun x9=> if (decide ((x9.toNat:Int)=59)) then (at? a0.data.toList (IntKind.i64.wrap (x5+1))).bind fun x10=> some (decide ((x10.toNat:Int)=32)) else some false).bind fun x8=> if x8 then (UH a0 x4 x5).bind fun x11=> (Yv 16 x3 [x11]).bind fun x12=> some (x12,(IntKind.i64.wrap (x5+2))) else some (x3,x4)).bind fun (x6,x7)=> ZU a0 n_ x6 x7 (IntKind.i64.wrap (x5+1)) else some (x3,x4)
def UY (k:Nat) (a0:ByteArray):Option (List ByteArray):= (ZU a0 k ([]:List ByteArray) 0 0).bind fun (x1,x2)=> (UH a0 x2 (a0.size:Int)).bind fun x13=> (Yv 16 x1 [x13]).bind fun x14=> some x14
def YI (a0:ByteArray) (a1:Int):Nat->(List ByteArray)->Int->Int->Option (List ByteArray) | 0,_,_,_=>none | n_+1,x2,x3,x4=> if (decide (x4<=(a0.size:Int))) then ((if (decide (x4=(a0.size:Int))) then some true else (at? a0.data.toList x4).bind fun x8=> some (decide ((x8.toNat:Int)=a1))).bind fun x7=> if x7 then (UH a0 x3 x4).bind fun x9=> (Yv 16 x2 [x9]).bind fun x10=> some (x10,(IntKind.i64.wrap (x4+1))) else some (x2,x3)).bind fun (x5,x6)=> YI a0 a1 n_ x5 x6 (IntKind.i64.wrap (x4+1)) else some x2
def Vg (k:Nat) (a0:ByteArray) (a1:Int):Option (List ByteArray):= (YI a0 a1 k ([]:List ByteArray) 0 0).bind fun x1=> some x1
def Qs (a0:Int):Option Bool:= (UG a0 (-1000000000) 1000000000).bind fun x1=> some x1
def YT (k:Nat) (x1:List ByteArray):Nat->(List Int)->Int->Option ((List Int) ⊕ ((List Int)×Bool)) | 0,_,_=>none | n_+1,x3,x4=> if (decide (x4<(x1.length:Int))) then (at? x1 x4).bind fun x5=> (WU k x5).bind fun x6=> (if (!x6.2) then some true else (Qs x6.1).bind fun x8=> some (!x8)).bind fun x7=> if x7 then some (.inr (x3,false)) else (Yv 8 x3 [x6.1]).bind fun x9=> YT k x1 n_ x9 (IntKind.i64.wrap (x4+1)) else some (.inl x3)
def JV (k:Nat) (a0:ByteArray) (a1:Int):Option ((List Int)×Bool):= (Vg k a0 32).bind fun x1=> (YT k x1 k ([]:List Int) 0:Option ((List Int) ⊕ ((List Int)×Bool))).bind fun | .inl x2=>( some (x2,(decide ((x2.length:Int)=a1)))) | .inr z10=>( some z10)
def Je (a0:Za):Option Bool:= (if (decide (a0.kind=1)) then some true else if (decide (a0.kind=2)) then some true else some (decide (a0.kind=3))).bind fun x1=> some x1
def XS (rec_s_DepthOf:Za->Option Int) (a0:Za):Nat->Int->Int->Option Int | 0,_,_=>none | n_+1,x2,x3=> if (decide (x3<(a0.list.length:Int))) then (at? a0.list x3).bind fun x4=> (rec_s_DepthOf x4).bind fun x5=> (Vs x2 x5).bind fun x6=> XS rec_s_DepthOf a0 n_ x6 (IntKind.i64.wrap (x3+1)) else some x2
def Xi:Nat->Za->Option Int | 0,_=>none | k+1,a0=> (XS (Xi k) a0 k 0 0).bind fun x1=> some (IntKind.i64.wrap (x1+1))
def Yd (k:Nat) (a0:List ByteArray):Nat->Int->Option (Unit ⊕ Bool) | 0,_=>none | n_+1,x1=> if (decide (x1<(a0.length:Int))) then (Zb8 a0 0 x1).bind fun x2=> (at? a0 x1).bind fun x3=> (Jg k x2 x3).bind fun x4=> if x4 then some (.inr false) else Yd k a0 n_ (IntKind.i64.wrap (x1+1)) else some (.inl ())
def Vv (k:Nat) (a0:List ByteArray):Option Bool:= (Yd k a0 k 0:Option (Unit ⊕ Bool)).bind fun | .inl _=>( some true) | .inr z5=>( some z5)
def QG (k:Nat) (a0:List ByteArray):Nat->Int->Option (Unit ⊕ Bool) | 0,_=>none | n_+1,x1=> if (decide (x1<(a0.length:Int))) then (at? a0 x1).bind fun x2=> (Z0 k x2).bind fun x3=> if (!x3) then some (.inr false) else QG k a0 n_ (IntKind.i64.wrap (x1+1)) else some (.inl ())
def VP (k:Nat) (a0:List ByteArray):Option Bool:= (QG k a0 k 0:Option (Unit ⊕ Bool)).bind fun | .inl _=>( ((UG (a0.length:Int) 1 4).bind fun x5=> if x5 then (Vv k a0).bind fun x6=> some x6 else some false).bind fun x4=> some x4) | .inr z7=>( some z7)
def VQ (a0:Zo) (a1:Zo):Option Bool:= (if (decide (a0.cell<a1.cell)) then some true else if (decide (a0.cell=a1.cell)) then some (decide (a0.row<a1.row)) else some false).bind fun x1=> some x1
def YY (a0:List Zo):Nat->Int->Option (Unit ⊕ Bool) | 0,_=>none | n_+1,x1=> if (decide (x1<(a0.length:Int))) then ((at? a0 x1).bind fun x3=> if (decide (x3.cell<0)) then some true else if (decide (x3.row<0)) then some true else if (decide (0<x1)) then (at? a0 (IntKind.i64.wrap (x1-1))).bind fun x4=> (VQ x4 x3).bind fun x5=> some (!x5) else some false).bind fun x2=> if x2 then some (.inr false) else YY a0 n_ (IntKind.i64.wrap (x1+1)) else some (.inl ())
def WT (k:Nat) (a0:List Zo):Option Bool:= (YY a0 k 0:Option (Unit ⊕ Bool)).bind fun | .inl _=>( some true) | .inr z6=>( some z6)
def Xb (x4:ZN):Nat->Int->Option (Unit ⊕ Bool) | 0,_=>none | n_+1,x7=> if (decide (x7<(x4.cells.length:Int))) then (at? x4.cells x7).bind fun x8=> (Qs x8).bind fun x9=> if (!x9) then some (.inr false) else Xb x4 n_ (IntKind.i64.wrap (x7+1)) else some (.inl ())
def Qg (k:Nat) (a0:Za):Nat->Int->Option (Unit ⊕ Bool) | 0,_=>none | n_+1,x3=> if (decide (x3<(a0.rows.length:Int))) then ((at? a0.rows x3).bind fun x4=> (if (!decide ((x4.cells.length:Int)=(a0.columns.length:Int))) then some true else (WT k x4.from_).bind fun x6=> some (!x6)).bind fun x5=> if x5 then some (.inr false) else Xb x4 k 0:Option (Unit ⊕ Bool)).bind fun | .inl _=>( Qg k a0 n_ (IntKind.i64.wrap (x3+1))) | .inr z10=>( some (.inr z10)) else some (.inl ())
def Zbx (k:Nat) (a0:Za):Option Bool:= ((VP k a0.columns).bind fun x2=> if (!x2) then some true else some (decide (12<(a0.rows.length:Int)))).bind fun x1=> if x1 then some false else (Qg k a0 k 0:Option (Unit ⊕ Bool)).bind fun | .inl _=>( some true) | .inr z11=>( some z11)
def Wq (rec_s_IsValidValue:Za->Option Bool) (a0:Za):Nat->Int->Option (Unit ⊕ Bool) | 0,_=>none | n_+1,x1=> if (decide (x1<(a0.list.length:Int))) then ((at? a0.list x1).bind fun x3=> (Je x3).bind fun x4=> if (!x4) then some true else (rec_s_IsValidValue x3).bind fun x5=> some (!x5)).bind fun x2=> if x2 then some (.inr false) else Wq rec_s_IsValidValue a0 n_ (IntKind.i64.wrap (x1+1)) else some (.inl ())
mutual
def JT:Nat->Za->Option Bool | 0,_=>none | k+1,a0=> (Wq (ZK k) a0 k 0:Option (Unit ⊕ Bool)).bind fun | .inl _=>( (if (decide ((a0.list.length:Int)<=8)) then (Xi k a0).bind fun x7=> some (decide (x7<=3)) else some false).bind fun x6=> some x6) | .inr z8=>( some z8)
def ZK:Nat->Za->Option Bool | 0,_=>none | k+1,a0=> (if (!decide (a0.kind=3)) then if (decide (0<(a0.list.length:Int))) then some true else if (!decide (a0.kind=5)) then some (decide (0<(IntKind.i64.wrap ((a0.columns.length:Int)+(a0.rows.length:Int))))) else some false else some (decide (0<(IntKind.i64.wrap ((a0.columns.length:Int)+(a0.rows.length:Int)))))).bind fun x1=> if x1 then some false else (if (!decide (a0.kind=2)) then if (!decide (a0.text=(⟨#[]⟩:ByteArray))) then some true else if (!decide (a0.kind=4)) then some (!decide (a0.step=0)) else some false else some (!decide (a0.step=0))).bind fun x2=> if x2 then some false else if (decide (a0.kind=1)) then (Qs a0.n).bind fun x3=> some x3 else if (decide (a0.kind=2)) then (if (decide (a0.n=0)) then (X3 k a0.text).bind fun x5=> some x5 else some false).bind fun x4=> some x4 else if (decide (a0.kind=3)) then (if (decide (a0.n=0)) then (JT k a0).bind fun x7=> some x7 else some false).bind fun x6=> some x6 else if (decide (a0.kind=4)) then ((Qs a0.n).bind fun x9=> if x9 then (Qs a0.step).bind fun x10=> some x10 else some false).bind fun x8=> some x8 else if (decide (a0.kind=5)) then (if (decide (a0.n=0)) then (Zbx k a0).bind fun x12=> some x12 else some false).bind fun x11=> some x11 else if (decide (a0.kind=6)) then (UG a0.n 1 8).bind fun x13=> some x13 else some false
end
open Go.RowKit Am
def YJ (k:Nat) (x1:List ByteArray) (x3:List ByteArray):Nat->(List ZN)->Int->Option ((List ZN) ⊕ (Za×Bool)) | 0,_,_=>none | n_+1,x5,x6=> if (decide (x6<(x1.length:Int))) then (at? x1 x6).bind fun x7=> (JV k x7 (x3.length:Int)).bind fun x8=> if (!x8.2) then some (.inr ((Za.mk 0 0 0 (⟨#[]⟩:ByteArray) [] [] []),false)) else (Yv 48 x5 [(ZN.mk x8.1 [])]).bind fun x9=> YJ k x1 x3 n_ x9 (IntKind.i64.wrap (x6+1)) else some (.inl x5)
def VV (k:Nat) (a0:ByteArray):Option (Za×Bool):= (UY k a0).bind fun x1=> (at? x1 0).bind fun x2=> (Vg k x2 32).bind fun x3=> (YJ k x1 x3 k [] 1:Option ((List ZN) ⊕ (Za×Bool))).bind fun | .inl x4=>( (ZK k (Za.mk 5 0 0 (⟨#[]⟩:ByteArray) [] x3 x4)).bind fun x10=> if (!x10) then some ((Za.mk 0 0 0 (⟨#[]⟩:ByteArray) [] [] []),false) else some ((Za.mk 5 0 0 (⟨#[]⟩:ByteArray) [] x3 x4),true)) | .inr z11=>( some z11)
def YK (k:Nat) (x1:List ByteArray) (x3:List ByteArray):Nat->Int->Option (Unit ⊕ Int) | 0,_=>none | n_+1,x5=> if (decide (x5<(x1.length:Int))) then (at? x1 x5).bind fun x6=> (JV k x6 (x3.length:Int)).bind fun x7=> (if (!x7.2) then some true else some (decide (12<x5))).bind fun x8=> if x8 then some (.inr x5) else YK k x1 x3 n_ (IntKind.i64.wrap (x5+1)) else some (.inl ())
def Jq (k:Nat) (a0:ByteArray):Option Int:= (UY k a0).bind fun x1=> (at? x1 0).bind fun x2=> (Vg k x2 32).bind fun x3=> (VP k x3).bind fun x4=> if (!x4) then some 0 else (YK k x1 x3 k 1:Option (Unit ⊕ Int)).bind fun | .inl _=>( some (-1)) | .inr z9=>( some z9)
def ZeC (a0:ZN):Option ZN:= (Yv 8 ([]:List Int) a0.cells).bind fun x1=> (Yv 16 ([]:List Zo) a0.from_).bind fun x2=> some (ZN.mk x1 x2)
def Ws (rec_s_l3Copy:Za->Option Za) (a0:Za):Nat->(List Za)->Int->Option (List Za) | 0,_,_=>none | n_+1,x3,x4=> if (decide (x4<(a0.list.length:Int))) then (at? a0.list x4).bind fun x5=> (rec_s_l3Copy x5).bind fun x6=> (Yv 112 x3 [x6]).bind fun x7=> Ws rec_s_l3Copy a0 n_ x7 (IntKind.i64.wrap (x4+1)) else some x3
def Wr (a0:Za):Nat->(List ZN)->Int->Option (List ZN) | 0,_,_=>none | n_+1,x9,x10=> if (decide (x10<(a0.rows.length:Int))) then (at? a0.rows x10).bind fun x11=> (ZeC x11).bind fun x12=> (Yv 48 x9 [x12]).bind fun x13=> Wr a0 n_ x13 (IntKind.i64.wrap (x10+1)) else some x9
def Va:Nat->Za->Option Za | 0,_=>none | k+1,a0=> (Yv 16 ([]:List ByteArray) a0.columns).bind fun x1=> (Ws (Va k) a0 k [] 0).bind fun x2=> (Wr a0 k [] 0).bind fun x8=> some (Za.mk a0.kind a0.n a0.step a0.text x2 x1 x8)
def ZX (a0:Int):Nat->(List ZN)->Int->Option (List ZN) | 0,_,_=>none | n_+1,x6,x7=> if (decide (x7<(x6.length:Int))) then (at? x6 x7).bind fun x8=> ZX a0 n_ (x6.set x7.toNat (ZN.mk x8.cells [(Zo.mk a0 x7)])) (IntKind.i64.wrap (x7+1)) else some x6
def Vt (k:Nat) (a0:Int) (a1:Za):Option Za:= (if (!decide (a1.kind=5)) then some true else (ZK k a1).bind fun x2=> if (!x2) then some true else some (decide (a0<0))).bind fun x1=> if x1 then (Ur 4).bind fun x3=> some x3 else (Va k a1).bind fun x4=> (ZX a0 k x4.rows 0).bind fun x5=> some (Za.mk x4.kind x4.n x4.step x4.text x4.list x4.columns x5)
def Yp (k:Nat) (a0:Zk):Option Zq:= (YV k a0).bind fun x1=> if (!x1) then some (Zq.mk 0 (⟨#[]⟩:ByteArray) (Zb.mk 0 0 (⟨#[]⟩:ByteArray) []) (Za.mk 0 0 0 (⟨#[]⟩:ByteArray) [] [] []) 0) else if (decide (a0.kind=2)) then (WB k a0.code).bind fun x2=> if (decide (0<=x2.2)) then (Ur 8).bind fun x3=> some (Zq.mk 4 a0.name (Zb.mk 0 0 (⟨#[]⟩:ByteArray) []) x3 x2.2) else some (Zq.mk 2 a0.name x2.1 (Za.mk 0 0 0 (⟨#[]⟩:ByteArray) [] [] []) 0) else if (decide (a0.kind=3)) then (Zas a0.n).bind fun x4=> some (Zq.mk 3 a0.name (Zb.mk 0 0 (⟨#[]⟩:ByteArray) []) x4 0) else if (decide (a0.kind=4)) then (VV k a0.code).bind fun x5=> if (!x5.2) then (Ur 8).bind fun x6=> (Jq k a0.code).bind fun x7=> some (Zq.mk 4 a0.name (Zb.mk 0 0 (⟨#[]⟩:ByteArray) []) x6 x7) else (Vt k a0.id x5.1).bind fun x8=> some (Zq.mk 3 a0.name (Zb.mk 0 0 (⟨#[]⟩:ByteArray) []) x8 0) else some (Zq.mk 1 (⟨#[]⟩:ByteArray) (Zb.mk 0 0 (⟨#[]⟩:ByteArray) []) (Za.mk 0 0 0 (⟨#[]⟩:ByteArray) [] [] []) 0)
def Qi (k:Nat) (a0:Zd):Nat->(List Zq)->Int->Option (List Zq) | 0,_,_=>none | n_+1,x3,x4=> if (decide (x4<(a0.cells.length:Int))) then (at? a0.cells x4).bind fun x5=> (Yp k x5).bind fun x6=> (Yv 200 x3 [x6]).bind fun x7=> Qi k a0 n_ x7 (IntKind.i64.wrap (x4+1)) else some x3
def Us (k:Nat) (a0:Zd):Option (List Zq):= (QR k a0).bind fun x1=> if (!x1) then some ([]:List Zq) else (Qi k a0 k ([]:List Zq) 0).bind fun x2=> some x2
def Qh (rec_s_l13Free:Zb->(List ByteArray)->Option (List ByteArray)) (a0:Zb) (a1:List ByteArray):Nat->(List ByteArray)->Int->Option (List ByteArray) | 0,_,_=>none | n_+1,x5,x6=> if (decide (x6<(a0.args.length:Int))) then ((if (decide (a0.kind=7)) then some (decide (0<x6)) else if (decide (a0.kind=9)) then some (decide (0<x6)) else some false).bind fun x8=> if x8 then (Yv 16 ([]:List ByteArray) a1).bind fun x9=> (Yv 16 x9 [a0.text]).bind fun x10=> some x10 else some a1).bind fun x7=> (at? a0.args x6).bind fun x11=> (rec_s_l13Free x11 x7).bind fun x12=> (Yv 16 x5 x12).bind fun x13=> Qh rec_s_l13Free a0 a1 n_ x13 (IntKind.i64.wrap (x6+1)) else some x5
def QY:Nat->Zb->(List ByteArray)->Option (List ByteArray) | 0,_,_=>none | k+1,a0,a1=> (if (decide (a0.kind=3)) then (Jg k a1 a0.text).bind fun x2=> some (!x2) else some false).bind fun x1=> if x1 then (Yv 16 ([]:List ByteArray) [a0.text]).bind fun x3=> some x3 else (Qh (QY k) a0 a1 k ([]:List ByteArray) 0).bind fun x4=> some x4
def QH (a0:List ByteArray) (x2:List ByteArray) (x3:Int):Nat->Int->Option Int | 0,_=>none | n_+1,x6=> (if (decide (x6<(x2.length:Int))) then (at? x2 x6).bind fun x8=> (at? a0 x3).bind fun x9=> some (ZkK x8 x9) else some false).bind fun x7=> if x7 then QH a0 x2 x3 n_ (IntKind.i64.wrap (x6+1)) else some x6
def QI (k:Nat) (a0:List ByteArray):Nat->(List ByteArray)->Int->Option (List ByteArray) | 0,_,_=>none | n_+1,x2,x3=> if (decide (x3<(a0.length:Int))) then ((QH a0 x2 x3 k 0).bind fun x5=> (if (decide (x5<(x2.length:Int))) then (at? x2 x5).bind fun x11=> (at? a0 x3).bind fun x12=> some (decide (x11=x12)) else some false).bind fun x10=> if x10 then some x2 else (Zb8 x2 x5 (x2.length:Int)).bind fun x13=> (Yv 16 ([]:List ByteArray) x13).bind fun x14=> (Zb8 x2 0 x5).bind fun x15=> (at? a0 x3).bind fun x16=> (Yv 16 x15 [x16]).bind fun x17=> (Yv 16 x17 x14).bind fun x18=> some x18).bind fun x4=> QI k a0 n_ x4 (IntKind.i64.wrap (x3+1)) else some x2
def VU (k:Nat) (a0:List ByteArray):Option (List ByteArray):= (QI k a0 k ([]:List ByteArray) 0).bind fun x1=> some x1
def Zat (k:Nat) (a0:Zb):Option (List ByteArray):= (QY k a0 ([]:List ByteArray)).bind fun x1=> (VU k x1).bind fun x2=> some x2
def JX (k:Nat) (a0:Zq):Option (List ByteArray):= if (!decide (a0.kind=2)) then some ([]:List ByteArray) else (Zat k a0.expr).bind fun x1=> some x1
def Qa (a0:List Zq) (a1:ByteArray):Nat->(List Int)->Int->Option (List Int) | 0,_,_=>none | n_+1,x2,x3=> if (decide (x3<(a0.length:Int))) then (((at? a0 x3).bind fun x6=> if (!decide (x6.kind=1)) then some (decide (x6.name=a1)) else some false).bind fun x5=> if x5 then (Yv 8 x2 [x3]).bind fun x7=> some x7 else some x2).bind fun x4=> Qa a0 a1 n_ x4 (IntKind.i64.wrap (x3+1)) else some x2
def WX (k:Nat) (a0:List Zq) (a1:ByteArray):Option (List Int):= (Qa a0 a1 k ([]:List Int) 0).bind fun x1=> some x1
def Vu (k:Nat) (a0:List Zq) (a1:ByteArray):Option Int:= (WX k a0 a1).bind fun x1=> if (decide ((x1.length:Int)=0)) then some (-1) else if (decide ((x1.length:Int)=1)) then (at? x1 0).bind fun x2=> some x2 else some (-2)
def YS (a0:List Int) (a1:Int):Nat->Int->Option (Unit ⊕ Bool) | 0,_=>none | n_+1,x1=> if (decide (x1<(a0.length:Int))) then (at? a0 x1).bind fun x2=> if (decide (x2=a1)) then some (.inr true) else YS a0 a1 n_ (IntKind.i64.wrap (x1+1)) else some (.inl ())
def Q4 (k:Nat) (a0:List Int) (a1:Int):Option Bool:= (YS a0 a1 k 0:Option (Unit ⊕ Bool)).bind fun | .inl _=>( some false) | .inr z3=>( some z3)
open Go.RowKit Am
def Wu (a0:List Int) (x2:List Int) (x3:Int):Nat->Int->Option Int | 0,_=>none | n_+1,x8=> (if (decide (x8<(x2.length:Int))) then (at? x2 x8).bind fun x10=> (at? a0 x3).bind fun x11=> some (decide (x10<x11)) else some false).bind fun x9=> if x9 then Wu a0 x2 x3 n_ (IntKind.i64.wrap (x8+1)) else some x8
def Wv (k:Nat) (a0:List Int):Nat->(List Int)->Int->Option (List Int) | 0,_,_=>none | n_+1,x2,x3=> if (decide (x3<(a0.length:Int))) then ((at? a0 x3).bind fun x5=> (Q4 k x2 x5).bind fun x6=> if x6 then some x2 else (Wu a0 x2 x3 k 0).bind fun x7=> (Zb8 x2 0 x7).bind fun x12=> (Yv 8 ([]:List Int) x12).bind fun x13=> (Yv 8 x13 [x5]).bind fun x14=> (Zb8 x2 x7 (x2.length:Int)).bind fun x15=> (Yv 8 x14 x15).bind fun x16=> some x16).bind fun x4=> Wv k a0 n_ x4 (IntKind.i64.wrap (x3+1)) else some x2
def Zal (k:Nat) (a0:List Int):Option (List Int):= (Wv k a0 k ([]:List Int) 0).bind fun x1=> some x1
def Z9 (k:Nat) (a0:List Zq) (x3:List ByteArray):Nat->(List Int)->Int->Option (List Int) | 0,_,_=>none | n_+1,x5,x6=> if (decide (x6<(x3.length:Int))) then ((at? x3 x6).bind fun x8=> (Vu k a0 x8).bind fun x9=> if (decide (0<=x9)) then (Yv 8 x5 [x9]).bind fun x10=> some x10 else some x5).bind fun x7=> Z9 k a0 x3 n_ x7 (IntKind.i64.wrap (x6+1)) else some x5
def Xh (k:Nat) (a0:List Zq) (a1:Int):Option (List Int):= (UG a1 0 (IntKind.i64.wrap ((a0.length:Int)-1))).bind fun x1=> if (!x1) then some ([]:List Int) else (at? a0 a1).bind fun x2=> (JX k x2).bind fun x3=> (Z9 k a0 x3 k ([]:List Int) 0).bind fun x4=> (Zal k x4).bind fun x11=> some x11
def Wc (k:Nat) (a0:List Zq) (a1:Int):Nat->(List Int)->Int->Option (List Int) | 0,_,_=>none | n_+1,x2,x3=> if (decide (x3<(a0.length:Int))) then ((Xh k a0 x3).bind fun x5=> (Q4 k x5 a1).bind fun x6=> if x6 then (Yv 8 x2 [x3]).bind fun x7=> some x7 else some x2).bind fun x4=> Wc k a0 a1 n_ x4 (IntKind.i64.wrap (x3+1)) else some x2
def Zgk (k:Nat) (a0:List Zq) (a1:Int):Option (List Int):= (Wc k a0 a1 k ([]:List Int) 0).bind fun x1=> some x1
def Un (k:Nat) (a0:List Zq) (a1:Int) (a2:Bool):Option (List Int):= if a2 then (Zgk k a0 a1).bind fun x1=> some x1 else (Xh k a0 a1).bind fun x2=> some x2
def Ww (k:Nat) (x7:List Int):Nat->(List Int)->Int->Option (List Int) | 0,_,_=>none | n_+1,x8,x9=> if (decide (x9<(x7.length:Int))) then ((at? x7 x9).bind fun x11=> (Q4 k x8 x11).bind fun x12=> if (!x12) then (Yv 8 x8 [x11]).bind fun x13=> some x13 else some x8).bind fun x10=> Ww k x7 n_ x10 (IntKind.i64.wrap (x9+1)) else some x8
def Wx (k:Nat) (a0:List Zq) (a2:Bool):Nat->(List Int)->Int->Option (List Int) | 0,_,_=>none | n_+1,x3,x4=> if (decide (x4<(x3.length:Int))) then ((at? x3 x4).bind fun x6=> (Un k a0 x6 a2).bind fun x7=> Ww k x7 k x3 0).bind fun x5=> Wx k a0 a2 n_ x5 (IntKind.i64.wrap (x4+1)) else some x3
def Zcd (k:Nat) (a0:List Zq) (a1:Int) (a2:Bool):Option (List Int):= (Un k a0 a1 a2).bind fun x1=> (Wx k a0 a2 k x1 0).bind fun x2=> (Zal k x2).bind fun x14=> some x14
def Zpw (k:Nat) (a0:List Zq) (a1:Int):Option Bool:= ((UG a1 0 (IntKind.i64.wrap ((a0.length:Int)-1))).bind fun x2=> if x2 then (at? a0 a1).bind fun x3=> if (!decide (x3.kind=1)) then (Vu k a0 x3.name).bind fun x4=> some (decide (x4=(-2))) else some false else some false).bind fun x1=> some x1
open Go.RowKit Am
def Uo (a0:Zd):Option Zd:= (Yv 64 ([]:List Zk) a0.cells).bind fun x1=> some (Zd.mk x1)
def ZcS (a0:Int) (a1:Int):Option Int:= if (decide (a0<a1)) then some a0 else some a1
def Zce (a0:List Zk) (a1:Int) (a2:Zk):Option (List Zk):= (ZcS a1 (a0.length:Int)).bind fun x1=> (Vs 0 x1).bind fun x2=> (Zb8 a0 0 x2).bind fun x3=> (Yv 64 ([]:List Zk) x3).bind fun x4=> (Yv 64 x4 [a2]).bind fun x5=> (Zb8 a0 x2 (a0.length:Int)).bind fun x6=> (Yv 64 x5 x6).bind fun x7=> some x7
def KD (a0:List Zk) (a1:Int):Option (List Zk):= (Zb8 a0 0 a1).bind fun x1=> (Yv 64 ([]:List Zk) x1).bind fun x2=> (Zb8 a0 (IntKind.i64.wrap (a1+1)) (a0.length:Int)).bind fun x3=> (Yv 64 x2 x3).bind fun x4=> some x4
def Xd (k:Nat) (a0:Zk) (a1:YA):Option (Zk×Int):= (if (decide (a1.kind=4)) then if (decide (a0.kind=3)) then some (.inr (a0,5)) else some (.inl (a1.cell.name,a1.cell.code,a0.n)) else if (decide (a1.kind=5)) then if (!decide (a0.kind=3)) then some (.inr (a0,5)) else some (.inl (a0.name,a0.code,a1.cell.n)) else if (!decide (a0.kind=2)) then some (.inr (a0,5)) else some (.inl (a0.name,a0.code,a0.n)):Option ((ByteArray×ByteArray×Int) ⊕ (Zk×Int))).bind fun | .inl (x1,x2,x3)=>( (if (!decide (a1.kind=5)) then if (decide (a0.version=999)) then some (.inr ((Zk.mk a0.id a0.version a0.kind x1 x2 x3),6)) else some (.inl (IntKind.i64.wrap (a0.version+1))) else some (.inl a0.version):Option (Int ⊕ (Zk×Int))).bind fun | .inl x4=>( (YV k (Zk.mk a0.id x4 a0.kind x1 x2 x3)).bind fun x5=> if (!x5) then some ((Zk.mk a0.id x4 a0.kind x1 x2 x3),1) else some ((Zk.mk a0.id x4 a0.kind x1 x2 x3),0)) | .inr z6=>( some z6)) | .inr z7=>( some z7)
def VY (k:Nat) (a0:Zd) (a1:YA):Option (Zd×Int):= (Uo a0).bind fun x1=> ((QR k a0).bind fun x3=> if (!x3) then some true else (UG a1.kind 1 6).bind fun x4=> some (!x4)).bind fun x2=> if x2 then some (x1,1) else (Xw k a0 a1.cell.id).bind fun x5=> if (decide (a1.kind=1)) then (YV k a1.cell).bind fun x6=> if (!x6) then some (x1,1) else if (decide (0<=x5)) then some (x1,3) else if (decide ((a0.cells.length:Int)=8)) then some (x1,4) else (Zce a0.cells a1.at_ a1.cell).bind fun x7=> some ((Zd.mk x7),0) else if (decide (x5<0)) then some (x1,2) else if (decide (a1.kind=2)) then (KD a0.cells x5).bind fun x8=> some ((Zd.mk x8),0) else if (decide (a1.kind=3)) then (KD a0.cells x5).bind fun x9=> (at? a0.cells x5).bind fun x10=> (Zce x9 a1.at_ x10).bind fun x11=> some ((Zd.mk x11),0) else (at? a0.cells x5).bind fun x12=> (Xd k x12 a1).bind fun x13=> (if (decide (x13.2=0)) then (at? x1.cells x5).bind fun x15=> some (x1.cells.set x5.toNat x13.1) else some x1.cells).bind fun x14=> some ((Zd.mk x14),x13.2)
def ZO (k:Nat) (a0:Zd) (a1:Zd):Nat->(List Int)->Int->Option (List Int) | 0,_,_=>none | n_+1,x2,x3=> if (decide (x3<(a1.cells.length:Int))) then ((at? a1.cells x3).bind fun x5=> (Xw k a0 x5.id).bind fun x6=> (if (decide (x6<0)) then some true else (at? a0.cells x6).bind fun x8=> some (!(decide (x8.id=x5.id)&&(decide (x8.version=x5.version)&&(decide (x8.kind=x5.kind)&&(decide (x8.name=x5.name)&&(decide (x8.code=x5.code)&&decide (x8.n=x5.n)))))))).bind fun x7=> if x7 then (Yv 8 x2 [x5.id]).bind fun x9=> some x9 else some x2).bind fun x4=> ZO k a0 a1 n_ x4 (IntKind.i64.wrap (x3+1)) else some x2
def Qb (k:Nat) (a0:Zd) (a1:Zd):Option (List Int):= (ZO k a0 a1 k ([]:List Int) 0).bind fun x1=> some x1
def Y7 (k:Nat) (a0:Zd) (a1:List Int):Nat->(List ByteArray)->Int->Option (List ByteArray) | 0,_,_=>none | n_+1,x2,x3=> if (decide (x3<(a0.cells.length:Int))) then (((at? a0.cells x3).bind fun x6=> (Q4 k a1 x6.id).bind fun x7=> if x7 then some (!decide (x6.kind=1)) else some false).bind fun x5=> if x5 then (at? a0.cells x3).bind fun x8=> (Yv 16 x2 [x8.name]).bind fun x9=> some x9 else some x2).bind fun x4=> Y7 k a0 a1 n_ x4 (IntKind.i64.wrap (x3+1)) else some x2
def UX (k:Nat) (a0:Zd) (a1:List Int):Option (List ByteArray):= (Y7 k a0 a1 k ([]:List ByteArray) 0).bind fun x1=> some x1
def KI (k:Nat) (a0:List Zq) (a1:Int):Option (List Int):= (Zcd k a0 a1 true).bind fun x1=> some x1
def Qj (k:Nat) (a0:List Zq) (a1:List Int):Nat->(List Int)->Int->Option (List Int) | 0,_,_=>none | n_+1,x2,x3=> if (decide (x3<(a1.length:Int))) then ((at? a1 x3).bind fun x5=> (UG x5 0 (IntKind.i64.wrap ((a0.length:Int)-1))).bind fun x6=> if x6 then (Yv 8 x2 [x5]).bind fun x7=> (KI k a0 x5).bind fun x8=> (Yv 8 x7 x8).bind fun x9=> some x9 else some x2).bind fun x4=> Qj k a0 a1 n_ x4 (IntKind.i64.wrap (x3+1)) else some x2
def Vj (k:Nat) (a0:List Zq) (a1:List Int):Option (List Int):= (Qj k a0 a1 k ([]:List Int) 0).bind fun x1=> (Zal k x1).bind fun x10=> some x10
def YG (k:Nat) (x5:List ByteArray) (x6:List ByteArray) (x19:List ByteArray):Nat->Bool->Int->Option Bool | 0,_,_=>none | n_+1,x21,x22=> if (decide (x22<(x19.length:Int))) then (if x21 then some true else (at? x19 x22).bind fun x24=> (Jg k (x5++x6) x24).bind fun x25=> some x25).bind fun x23=> YG k x5 x6 x19 n_ x23 (IntKind.i64.wrap (x22+1)) else some x21
def YH (k:Nat) (x1:Zd×Int) (x2:List Int) (x3:List Int) (x5:List ByteArray) (x6:List ByteArray) (x8:List Zq):Nat->(List Int)->Int->Option (List Int) | 0,_,_=>none | n_+1,x10,x11=> if (decide (x11<(x8.length:Int))) then (((at? x1.1.cells x11).bind fun x14=> (Q4 k (x2++x3) x14.id).bind fun x15=> if x15 then some true else (at? x8 x11).bind fun x16=> if (!decide (x16.kind=1)) then (Jg k (x5++x6) x16.name).bind fun x17=> some x17 else some false).bind fun x13=> (at? x8 x11).bind fun x18=> (JX k x18).bind fun x19=> (YG k x5 x6 x19 k x13 0).bind fun x20=> if x20 then (Yv 8 x10 [x11]).bind fun x26=> some x26 else some x10).bind fun x12=> YH k x1 x2 x3 x5 x6 x8 n_ x12 (IntKind.i64.wrap (x11+1)) else some x10
def Jj (k:Nat) (a0:Zz) (a1:YA):Option Int:= (VY k a0.notebook a1).bind fun x1=> (Qb k a0.notebook x1.1).bind fun x2=> (Qb k x1.1 a0.notebook).bind fun x3=> (Yv 8 x2 x3).bind fun x4=> (UX k a0.notebook x4).bind fun x5=> (UX k x1.1 x4).bind fun x6=> (Yv 16 x5 x6).bind fun x7=> (Us k x1.1).bind fun x8=> (YH k x1 x2 x3 x5 x6 x8 k ([]:List Int) 0).bind fun x9=> (Vj k x8 x9).bind fun x27=> some (x27.length:Int)
def YM (a0:Zd):Option Zd:= (Yv 64 ([]:List Zk) a0.cells).bind fun x1=> some (Zd.mk x1)
def UZ (a0:List Zk) (a1:Int) (a2:Zk):Option (List Zk):= (Zb8 a0 0 (if (if (a0.length:Int)<a1 then (a0.length:Int) else a1)>0 then (if (a0.length:Int)<a1 then (a0.length:Int) else a1) else 0)).bind fun x1=> (Yv 64 ([]:List Zk) x1).bind fun x2=> (Yv 64 x2 [a2]).bind fun x3=> (Zb8 a0 (if (if (a0.length:Int)<a1 then (a0.length:Int) else a1)>0 then (if (a0.length:Int)<a1 then (a0.length:Int) else a1) else 0) (a0.length:Int)).bind fun x4=> (Yv 64 x3 x4).bind fun x5=> some x5
def KN (a0:List Zk) (a1:Int):Option (List Zk):= (Zb8 a0 0 a1).bind fun x1=> (Yv 64 ([]:List Zk) x1).bind fun x2=> (Zb8 a0 (IntKind.i64.wrap (a1+1)) (a0.length:Int)).bind fun x3=> (Yv 64 x2 x3).bind fun x4=> some x4
open Go.RowKit Am
open Go.RowKit Am
def Yx (a0 a1:ByteArray):Option Bool:=some (Lib.hasPrefix a0.data.toList a1.data.toList)
def Yw (a0:ByteArray) (a1:Int):Option Int:=some (Lib.indexByte a0.data.toList a1.toNat.toUInt8)
def Qf (a0 a1:ByteArray):Option (List ByteArray):=if a0.size<4294967281/\1<=a1.size then some (Lib.splitB a1 0 (Lib.countB a0 a1) a0) else none
def XT (a0:ByteArray) (a1 a2:Int):Int×Bool:=
 match Lib.atoiAll a0.data.toList with
 | .ok n=>if a1<=n/\n<=a2/\(⟨(Lib.itoa n).toArray⟩:ByteArray)=a0 then (n,true) else (0,false)
 | _=>(0,false)
def ZbK (a0:ByteArray) (a1 a2:Int):Option (Int×Bool):=if a0.size<=281474976710656 then some (XT a0 a1 a2) else none
open Go.RowKit Am
def ZkJ (a0:ByteArray):Option Int:= (if (decide (a0=(⟨#[119,104,101,114,101]⟩:ByteArray))) then some true else if (decide (a0=(⟨#[107,101,101,112]⟩:ByteArray))) then some true else if (decide (a0=(⟨#[97,100,100]⟩:ByteArray))) then some true else some (decide (a0=(⟨#[103,114,111,117,112]⟩:ByteArray)))).bind fun x1=> if x1 then some 1 else if (decide (a0=(⟨#[106,111,105,110]⟩:ByteArray))) then some 2 else some 0
def Zfi (rec_s_l36Pipe:Zb->Option Bool) (a0:Zb) (x1:Int):Nat->Int->Option (Unit ⊕ Bool) | 0,_=>none | n_+1,x3=> if (decide (x3<(a0.args.length:Int))) then (at? a0.args x3).bind fun x4=> (if (decide (x3<(IntKind.i64.wrap ((a0.args.length:Int)-x1)))) then if (!decide (x4.kind=1)) then if (!decide (x4.kind=2)) then some true else some false else some false else (rec_s_l36Pipe x4).bind fun x6=> some (!x6)).bind fun x5=> if x5 then some (.inr false) else Zfi rec_s_l36Pipe a0 x1 n_ (IntKind.i64.wrap (x3+1)) else some (.inl ())
def ZnZ:Nat->Zb->Option Bool | 0,_=>none | k+1,a0=> if (decide (a0.kind=3)) then some true else (ZkJ a0.text).bind fun x1=> (if (!decide (a0.kind=5)) then some true else some (decide (x1=0))).bind fun x2=> if x2 then some false else (Zfi (ZnZ k) a0 x1 k 0:Option (Unit ⊕ Bool)).bind fun | .inl _=>( some true) | .inr z7=>( some z7)
def X7 (a0:Int) (a1:Int) (a2:Int):Option Bool:= (if (decide (a1<=a0)) then some (decide (a0<=a2)) else some false).bind fun x1=> some x1
def Y1 (a0:ByteArray):Nat->Int->Option (Unit ⊕ Bool) | 0,_=>none | n_+1,x1=> if (decide (x1<(a0.size:Int))) then ((at? a0.data.toList x1).bind fun x3=> if (decide ((x3.toNat:Int)<32)) then some true else some (decide (126<(x3.toNat:Int)))).bind fun x2=> if x2 then some (.inr false) else Y1 a0 n_ (IntKind.i64.wrap (x1+1)) else some (.inl ())
def W1 (k:Nat) (a0:ByteArray):Option Bool:= (Y1 a0 k 0:Option (Unit ⊕ Bool)).bind fun | .inl _=>( some (decide ((a0.size:Int)<=120))) | .inr z4=>( some z4)
def WJ (a0:ByteArray):Nat->Int->Option (Unit ⊕ Bool) | 0,_=>none | n_+1,x1=> if (decide (x1<(a0.size:Int))) then ((at? a0.data.toList x1).bind fun x3=> if (decide (97<=(x3.toNat:Int))) then some (decide ((x3.toNat:Int)<=122)) else some false).bind fun x2=> (if (!x2) then if (decide (x1=0)) then some true else (at? a0.data.toList x1).bind fun x5=> if (decide ((x5.toNat:Int)<48)) then some true else some (decide (57<(x5.toNat:Int))) else some false).bind fun x4=> if x4 then some (.inr false) else WJ a0 n_ (IntKind.i64.wrap (x1+1)) else some (.inl ())
def Zed (k:Nat) (a0:ByteArray):Option Bool:= (WJ a0 k 0:Option (Unit ⊕ Bool)).bind fun | .inl _=>( (X7 (a0.size:Int) 1 8).bind fun x6=> some x6) | .inr z7=>( some z7)
def ZM (a0:ByteArray):Option Int:= if (decide (a0=(⟨#[99,108,111,99,107]⟩:ByteArray))) then some 0 else (if (decide (a0=(⟨#[108,101,110]⟩:ByteArray))) then some true else if (decide (a0=(⟨#[115,117,109]⟩:ByteArray))) then some true else if (decide (a0=(⟨#[114,111,119,115]⟩:ByteArray))) then some true else if (decide (a0=(⟨#[99,104,97,110,99,101]⟩:ByteArray))) then some true else some (decide (a0=(⟨#[102,105,108,101]⟩:ByteArray)))).bind fun x1=> if x1 then some 1 else (if (decide (a0=(⟨#[116,97,107,101]⟩:ByteArray))) then some true else if (decide (a0=(⟨#[115,107,105,112]⟩:ByteArray))) then some true else if (decide (a0=(⟨#[114,97,110,103,101]⟩:ByteArray))) then some true else if (decide (a0=(⟨#[110,116,104]⟩:ByteArray))) then some true else if (decide (a0=(⟨#[107,101,101,112]⟩:ByteArray))) then some true else if (decide (a0=(⟨#[99,111,108,117,109,110]⟩:ByteArray))) then some true else some (decide (a0=(⟨#[116,97,98,108,101]⟩:ByteArray)))).bind fun x2=> if x2 then some 2 else (if (decide (a0=(⟨#[119,104,101,114,101]⟩:ByteArray))) then some true else if (decide (a0=(⟨#[103,114,111,117,112]⟩:ByteArray))) then some true else some (decide (a0=(⟨#[106,111,105,110]⟩:ByteArray)))).bind fun x3=> if x3 then some 3 else if (decide (a0=(⟨#[97,100,100]⟩:ByteArray))) then some 4 else some (-1)
def Uy (a0:ByteArray):Option Bool:= (if (decide (a0=(⟨#[108,101,116]⟩:ByteArray))) then some true else if (decide (a0=(⟨#[105,110]⟩:ByteArray))) then some true else if (decide (a0=(⟨#[105,102]⟩:ByteArray))) then some true else if (decide (a0=(⟨#[116,104,101,110]⟩:ByteArray))) then some true else if (decide (a0=(⟨#[101,108,115,101]⟩:ByteArray))) then some true else if (decide (a0=(⟨#[102,111,114]⟩:ByteArray))) then some true else some (decide (a0=(⟨#[100,111]⟩:ByteArray)))).bind fun x1=> if x1 then some true else (ZM a0).bind fun x2=> some (decide (0<=x2))
def Z2 (k:Nat) (a0:ByteArray):Option Bool:= ((Zed k a0).bind fun x2=> if x2 then (Uy a0).bind fun x3=> some (!x3) else some false).bind fun x1=> some x1
def YX (k:Nat) (a0:Zk):Option Bool:= ((X7 a0.id 1 999).bind fun x2=> if (!x2) then some true else (X7 a0.version 1 999).bind fun x3=> if (!x3) then some true else (W1 k a0.code).bind fun x4=> some (!x4)).bind fun x1=> if x1 then some false else if (decide (a0.kind=1)) then (if (decide (a0.name=(⟨#[]⟩:ByteArray))) then some (decide (a0.n=0)) else some false).bind fun x5=> some x5 else (if (decide (a0.kind=2)) then some true else some (decide (a0.kind=4))).bind fun x6=> if x6 then ((Z2 k a0.name).bind fun x8=> if x8 then some (decide (a0.n=0)) else some false).bind fun x7=> some x7 else if (decide (a0.kind=3)) then ((Z2 k a0.name).bind fun x10=> if x10 then if (decide (a0.code=(⟨#[]⟩:ByteArray))) then (X7 a0.n 0 100).bind fun x11=> some x11 else some false else some false).bind fun x9=> some x9 else some false
def QP (a0:Zd) (a1:Int):Nat->Int->Option (Unit ⊕ Int) | 0,_=>none | n_+1,x1=> if (decide (x1<(a0.cells.length:Int))) then (at? a0.cells x1).bind fun x2=> if (decide (x2.id=a1)) then some (.inr x1) else QP a0 a1 n_ (IntKind.i64.wrap (x1+1)) else some (.inl ())
def Y6 (k:Nat) (a0:Zd) (a1:Int):Option Int:= (QP a0 a1 k 0:Option (Unit ⊕ Int)).bind fun | .inl _=>( some (-1)) | .inr z3=>( some z3)
open Go.RowKit Am
def Z6 (k:Nat) (a0:Zd):Nat->Int->Option (Unit ⊕ Bool) | 0,_=>none | n_+1,x1=> if (decide (x1<(a0.cells.length:Int))) then (at? a0.cells x1).bind fun x2=> ((YX k x2).bind fun x4=> if (!x4) then some true else (Y6 k a0 x2.id).bind fun x5=> some (!decide (x5=x1))).bind fun x3=> if x3 then some (.inr false) else Z6 k a0 n_ (IntKind.i64.wrap (x1+1)) else some (.inl ())
def QS (k:Nat) (a0:Zd):Option Bool:= (Z6 k a0 k 0:Option (Unit ⊕ Bool)).bind fun | .inl _=>( some (decide ((a0.cells.length:Int)<=8))) | .inr z6=>( some z6)
def ZaD (a0:Int):Option Za:= some (Za.mk 1 a0 0 (⟨#[]⟩:ByteArray) [] [] [])
def Y0 (a0:ByteArray):Nat->Int->Option (Unit ⊕ Bool) | 0,_=>none | n_+1,x1=> if (decide (x1<(a0.size:Int))) then ((at? a0.data.toList x1).bind fun x3=> if (decide ((x3.toNat:Int)<32)) then some true else if (decide (126<(x3.toNat:Int))) then some true else some (decide ((x3.toNat:Int)=34))).bind fun x2=> if x2 then some (.inr false) else Y0 a0 n_ (IntKind.i64.wrap (x1+1)) else some (.inl ())
def X8 (k:Nat) (a0:ByteArray):Option Bool:= (Y0 a0 k 0:Option (Unit ⊕ Bool)).bind fun | .inl _=>( some (decide ((a0.size:Int)<=20))) | .inr z4=>( some z4)
def QK (a0:ByteArray):Nat->Int->Option Int | 0,_=>none | n_+1,x4=> (if (decide (x4<(a0.size:Int))) then (at? a0.data.toList x4).bind fun x6=> if (decide (97<=(x6.toNat:Int))) then if (decide ((x6.toNat:Int)<=122)) then some true else if (decide (48<=(x6.toNat:Int))) then some (decide ((x6.toNat:Int)<=57)) else some false else if (decide (48<=(x6.toNat:Int))) then some (decide ((x6.toNat:Int)<=57)) else some false else some false).bind fun x5=> if x5 then QK a0 n_ (IntKind.i64.wrap (x4+1)) else some x4
def QJ (a0:ByteArray):Nat->Int->Option Int | 0,_=>none | n_+1,x10=> (if (decide (x10<(a0.size:Int))) then (at? a0.data.toList x10).bind fun x12=> if (decide (48<=(x12.toNat:Int))) then some (decide ((x12.toNat:Int)<=57)) else some false else some false).bind fun x11=> if x11 then QJ a0 n_ (IntKind.i64.wrap (x10+1)) else some x10
def Qy (k:Nat) (a0:ByteArray) (a1:Int):Option (Zi×Int×Bool):= (at? a0.data.toList a1).bind fun x1=> (if (decide (97<=(x1.toNat:Int))) then some (decide ((x1.toNat:Int)<=122)) else some false).bind fun x2=> if x2 then (QK a0 k a1).bind fun x3=> (UH a0 a1 x3).bind fun x7=> some ((Zi.mk 1 0 a1 x7),x3,(decide ((IntKind.i64.wrap (x3-a1))<=8))) else (if (decide (48<=(x1.toNat:Int))) then some (decide ((x1.toNat:Int)<=57)) else some false).bind fun x8=> if x8 then (QJ a0 k a1).bind fun x9=> (UH a0 a1 x9).bind fun x13=> (ZbK x13 0 1000000000).bind fun x14=> some ((Zi.mk 2 x14.1 a1 (⟨#[]⟩:ByteArray)),x9,x14.2) else if (decide ((x1.toNat:Int)=34)) then (UH a0 (IntKind.i64.wrap (a1+1)) (a0.size:Int)).bind fun x15=> (Yw x15 34).bind fun x16=> if (decide (x16<0)) then some ((Zi.mk 0 0 0 (⟨#[]⟩:ByteArray)),0,false) else (UH a0 (IntKind.i64.wrap (a1+1)) (IntKind.i64.wrap ((IntKind.i64.wrap (a1+1))+x16))).bind fun x17=> (X8 k x17).bind fun x18=> some ((Zi.mk 3 0 a1 x17),(IntKind.i64.wrap ((IntKind.i64.wrap (a1+x16))+2)),x18) else (UH a0 a1 (a0.size:Int)).bind fun x19=> (Yx x19 (⟨#[61,61]⟩:ByteArray)).bind fun x20=> if x20 then some ((Zi.mk 4 0 a1 (⟨#[61,61]⟩:ByteArray)),(IntKind.i64.wrap (a1+2)),true) else (UH a0 a1 (IntKind.i64.wrap (a1+1))).bind fun x21=> (Yw (⟨#[40,41,91,93,44,43,45,42,60,61]⟩:ByteArray) (x1.toNat:Int)).bind fun x22=> some ((Zi.mk 4 0 a1 x21),(IntKind.i64.wrap (a1+1)),(decide (0<=x22)))
def ZW (k:Nat) (a0:ByteArray):Nat->(List Zi)->Int->Option ((List Zi) ⊕ ((List Zi)×Int)) | 0,_,_=>none | n_+1,x2,x3=> if (decide (x3<(a0.size:Int))) then (at? a0.data.toList x3).bind fun x4=> if (decide ((x4.toNat:Int)=32)) then ZW k a0 n_ x2 (IntKind.i64.wrap (x3+1)) else (Qy k a0 x3).bind fun x5=> (if (!x5.2.2) then some true else some (decide ((x2.length:Int)=60))).bind fun x6=> if x6 then some (.inr ([],x3)) else (Yv 40 x2 [x5.1]).bind fun x7=> ZW k a0 n_ x7 x5.2.1 else some (.inl x2)
def V2 (k:Nat) (a0:ByteArray):Option ((List Zi)×Int):= if (decide (120<(a0.size:Int))) then some ([],120) else (ZW k a0 k ([]:List Zi) 0:Option ((List Zi) ⊕ ((List Zi)×Int))).bind fun | .inl x1=>( some (x1,(-1))) | .inr z8=>( some z8)
def ZC (a0:Zg):Option (Zi×Zg):= (if (decide (a0.bad<0)) then some (decide (a0.at_<(a0.list.length:Int))) else some false).bind fun x1=> if x1 then (at? a0.list a0.at_).bind fun x2=> some (x2,a0) else some ((Zi.mk 0 0 0 (⟨#[]⟩:ByteArray)),a0)
def Yz (a0:Zi) (a1:ByteArray):Option Bool:= (if (decide (a0.kind=1)) then some (decide (a0.text=a1)) else some false).bind fun x1=> some x1
def Yr (a0:Zg):Option (Zb×Zg):= (if (decide (a0.bad<0)) then some a0.at_ else some a0.bad).bind fun x1=> some ((Zb.mk 0 0 (⟨#[]⟩:ByteArray) []),(Zg.mk a0.list a0.at_ x1))
def Yq (k:Nat) (a0:Zg):Option (ByteArray×Zg):= (ZC a0).bind fun x1=> (if (!decide (x1.1.kind=1)) then some true else (Z2 k x1.1.text).bind fun x3=> some (!x3)).bind fun x2=> if x2 then (Yr x1.2).bind fun x4=> some ((⟨#[]⟩:ByteArray),x4.2) else some (x1.1.text,(Zg.mk x1.2.list (IntKind.i64.wrap (x1.2.at_+1)) x1.2.bad))
def U0 (a0:Zi) (a1:ByteArray):Option Bool:= (if (decide (a0.kind=4)) then some (decide (a0.text=a1)) else some false).bind fun x1=> some x1
def Zr (a0:Zg) (a1:ByteArray):Option Zg:= ((ZC a0).bind fun x5=> (Yz x5.1 a1).bind fun x6=> if x6 then some (x5.2.list,x5.2.at_,x5.2.bad,true) else (ZC x5.2).bind fun x7=> (U0 x7.1 a1).bind fun x8=> some (x7.2.list,x7.2.at_,x7.2.bad,x8)).bind fun (x1,x2,x3,x4)=> if x4 then some (Zg.mk x1 (IntKind.i64.wrap (x2+1)) x3) else (Yr (Zg.mk x1 x2 x3)).bind fun x9=> some x9.2
def Zl (a0:Zg) (a1:ByteArray):Option (Bool×Zg):= (ZC a0).bind fun x1=> (U0 x1.1 a1).bind fun x2=> if x2 then some (true,(Zg.mk x1.2.list (IntKind.i64.wrap (x1.2.at_+1)) x1.2.bad)) else some (false,x1.2)
def KP (a0:Int):Option ByteArray:= (X7 a0 1 5).bind fun x1=> if (!x1) then some (⟨#[63]⟩:ByteArray) else (at? [(⟨#[43]⟩:ByteArray),(⟨#[45]⟩:ByteArray),(⟨#[42]⟩:ByteArray),(⟨#[60]⟩:ByteArray),(⟨#[61,61]⟩:ByteArray)] (IntKind.i64.wrap (a0-1))).bind fun x2=> some x2
def Yi (rec_i_parser_expr:Zg->Option (Zb×Zg)) (a1:ByteArray):Nat->(List Zi)->Int->Int->(List Zb)->Option ((List Zb)×(List Zi)×Int×Int) | 0,_,_,_,_=>none | n_+1,x6,x7,x8,x9=> if (decide (x8<0)) then (rec_i_parser_expr (Zg.mk x6 x7 x8)).bind fun x10=> (Yv 56 x9 [x10.1]).bind fun x11=> (Zl x10.2 a1).bind fun x12=> if x12.1 then some (x11,x12.2.list,x12.2.at_,x12.2.bad) else (Zr x12.2 (⟨#[44]⟩:ByteArray)).bind fun x13=> Yi rec_i_parser_expr a1 n_ x13.list x13.at_ x13.bad x11 else some (x9,x6,x7,x8)
def Z1 (rec_i_parser_atom:Zg->Option (Zb×Zg)):Nat->(List Zi)->Int->Int->Int->Int->ByteArray->(List Zb)->Option (Int×Int×ByteArray×(List Zb)×(List Zi)×Int×Int) | 0,_,_,_,_,_,_,_=>none | n_+1,x9,x10,x11,x12,x13,x14,x15=> (Zl (Zg.mk x9 x10 x11) (⟨#[42]⟩:ByteArray)).bind fun x16=> if x16.1 then (rec_i_parser_atom x16.2).bind fun x17=> Z1 rec_i_parser_atom n_ x17.2.list x17.2.at_ x17.2.bad 6 3 (⟨#[]⟩:ByteArray) [(Zb.mk x12 x13 x14 x15),x17.1] else some (x12,x13,x14,x15,x16.2.list,x16.2.at_,x16.2.bad)
def YW (rec_i_parser_product:Zg->Option (Zb×Zg)):Nat->(List Zi)->Int->Int->Int->Int->ByteArray->(List Zb)->Option (Int×Int×ByteArray×(List Zb)×(List Zi)×Int×Int) | 0,_,_,_,_,_,_,_=>none | n_+1,x9,x10,x11,x12,x13,x14,x15=> if (decide (x11<0)) then ((Zl (Zg.mk x9 x10 x11) (⟨#[43]⟩:ByteArray)).bind fun x23=> if (!x23.1) then (Zl x23.2 (⟨#[45]⟩:ByteArray)).bind fun x24=> if (!x24.1) then some (.inr (x24.2.list,x24.2.at_,x24.2.bad)) else some (.inl (x24.2.list,x24.2.at_,x24.2.bad,2)) else some (.inl (x23.2.list,x23.2.at_,x23.2.bad,1)):Option (((List Zi)×Int×Int×Int) ⊕ ((List Zi)×Int×Int))).bind fun | .inl (x16,x17,x18,x19)=>( (rec_i_parser_product (Zg.mk x16 x17 x18)).bind fun x25=> YW rec_i_parser_product n_ x25.2.list x25.2.at_ x25.2.bad 6 x19 (⟨#[]⟩:ByteArray) [(Zb.mk x12 x13 x14 x15),x25.1]) | .inr (x20,x21,x22)=>( some (x12,x13,x14,x15,x20,x21,x22)) else some (x12,x13,x14,x15,x9,x10,x11)
def Ye (rec_i_parser_sum:Zg->Option (Zb×Zg)) (x29:Zb×Zg):Nat->(List Zi)->Int->Int->Int->Option (((List Zi)×Int×Int) ⊕ (Zb×Zg)) | 0,_,_,_,_=>none | n_+1,x33,x34,x35,x36=> if (decide (x36<([4,5].length:Int))) then (at? [4,5] x36).bind fun x37=> (KP x37).bind fun x38=> (Zl (Zg.mk x33 x34 x35) x38).bind fun x39=> if x39.1 then (rec_i_parser_sum x39.2).bind fun x40=> some (.inr ((Zb.mk 6 x37 (⟨#[]⟩:ByteArray) [x29.1,x40.1]),x40.2)) else Ye rec_i_parser_sum x29 n_ x39.2.list x39.2.at_ x39.2.bad (IntKind.i64.wrap (x36+1)) else some (.inl (x33,x34,x35))
mutual
def YL:Nat->Zg->ByteArray->Option ((List Zb)×Zg) | 0,_,_=>none | k+1,a0,a1=> (Zl a0 a1).bind fun x1=> if x1.1 then some (([]:List Zb),x1.2) else (Yi (Zm k) a1 k x1.2.list x1.2.at_ x1.2.bad ([]:List Zb)).bind fun (x2,x3,x4,x5)=> some (x2,(Zg.mk x3 x4 x5))
def Zy:Nat->Zg->Option (Zb×Zg) | 0,_=>none | k+1,a0=> (ZC a0).bind fun x1=> if (decide (x1.1.kind=2)) then some ((Zb.mk 1 x1.1.n (⟨#[]⟩:ByteArray) []),(Zg.mk x1.2.list (IntKind.i64.wrap (x1.2.at_+1)) x1.2.bad)) else if (decide (x1.1.kind=3)) then some ((Zb.mk 2 0 x1.1.text []),(Zg.mk x1.2.list (IntKind.i64.wrap (x1.2.at_+1)) x1.2.bad)) else (if (decide (x1.1.kind=1)) then (Z2 k x1.1.text).bind fun x3=> some x3 else some false).bind fun x2=> if x2 then some ((Zb.mk 3 0 x1.1.text []),(Zg.mk x1.2.list (IntKind.i64.wrap (x1.2.at_+1)) x1.2.bad)) else (if (decide (x1.1.kind=1)) then (ZM x1.1.text).bind fun x5=> some (decide (0<=x5)) else some false).bind fun x4=> if x4 then (Zr (Zg.mk x1.2.list (IntKind.i64.wrap (x1.2.at_+1)) x1.2.bad) (⟨#[40]⟩:ByteArray)).bind fun x6=> (YL k x6 (⟨#[41]⟩:ByteArray)).bind fun x7=> some ((Zb.mk 5 0 x1.1.text x7.1),x7.2) else (Zl x1.2 (⟨#[91]⟩:ByteArray)).bind fun x8=> if x8.1 then (YL k x8.2 (⟨#[93]⟩:ByteArray)).bind fun x9=> some ((Zb.mk 4 0 (⟨#[]⟩:ByteArray) x9.1),x9.2) else (Zl x8.2 (⟨#[40]⟩:ByteArray)).bind fun x10=> if x10.1 then (Zm k x10.2).bind fun x11=> (Zr x11.2 (⟨#[41]⟩:ByteArray)).bind fun x12=> some (x11.1,x12) else (Yr x10.2).bind fun x13=> some (x13.1,x13.2)
def Zu:Nat->Zg->Option (Zb×Zg) | 0,_=>none | k+1,a0=> (Zy k a0).bind fun x1=> (Z1 (Zy k) k x1.2.list x1.2.at_ x1.2.bad x1.1.kind x1.1.n x1.1.text x1.1.args).bind fun (x2,x3,x4,x5,x6,x7,x8)=> some ((Zb.mk x2 x3 x4 x5),(Zg.mk x6 x7 x8))
def ZZ:Nat->Zg->Option (Zb×Zg) | 0,_=>none | k+1,a0=> (Zu k a0).bind fun x1=> (YW (Zu k) k x1.2.list x1.2.at_ x1.2.bad x1.1.kind x1.1.n x1.1.text x1.1.args).bind fun (x2,x3,x4,x5,x6,x7,x8)=> some ((Zb.mk x2 x3 x4 x5),(Zg.mk x6 x7 x8))
def Zm:Nat->Zg->Option (Zb×Zg) | 0,_=>none | k+1,a0=> (ZC a0).bind fun x1=> (Yz x1.1 (⟨#[108,101,116]⟩:ByteArray)).bind fun x2=> if x2 then (Yq k (Zg.mk x1.2.list (IntKind.i64.wrap (x1.2.at_+1)) x1.2.bad)).bind fun x3=> (Zr x3.2 (⟨#[61]⟩:ByteArray)).bind fun x4=> (Zm k x4).bind fun x5=> (Yv 56 ([]:List Zb) [x5.1]).bind fun x6=> (Zr x5.2 (⟨#[105,110]⟩:ByteArray)).bind fun x7=> (Zm k x7).bind fun x8=> (Yv 56 x6 [x8.1]).bind fun x9=> some ((Zb.mk 7 0 x3.1 x9),x8.2) else (ZC x1.2).bind fun x10=> (Yz x10.1 (⟨#[105,102]⟩:ByteArray)).bind fun x11=> if x11 then (Zm k (Zg.mk x10.2.list (IntKind.i64.wrap (x10.2.at_+1)) x10.2.bad)).bind fun x12=> (Yv 56 ([]:List Zb) [x12.1]).bind fun x13=> (Zr x12.2 (⟨#[116,104,101,110]⟩:ByteArray)).bind fun x14=> (Zm k x14).bind fun x15=> (Yv 56 x13 [x15.1]).bind fun x16=> (Zr x15.2 (⟨#[101,108,115,101]⟩:ByteArray)).bind fun x17=> (Zm k x17).bind fun x18=> (Yv 56 x16 [x18.1]).bind fun x19=> some ((Zb.mk 8 0 (⟨#[]⟩:ByteArray) x19),x18.2) else (ZC x10.2).bind fun x20=> (Yz x20.1 (⟨#[102,111,114]⟩:ByteArray)).bind fun x21=> if x21 then (Yq k (Zg.mk x20.2.list (IntKind.i64.wrap (x20.2.at_+1)) x20.2.bad)).bind fun x22=> (Zr x22.2 (⟨#[105,110]⟩:ByteArray)).bind fun x23=> (Zm k x23).bind fun x24=> (Yv 56 ([]:List Zb) [x24.1]).bind fun x25=> (Zr x24.2 (⟨#[100,111]⟩:ByteArray)).bind fun x26=> (Zm k x26).bind fun x27=> (Yv 56 x25 [x27.1]).bind fun x28=> some ((Zb.mk 9 0 x22.1 x28),x27.2) else (ZZ k x20.2).bind fun x29=> (Ye (ZZ k) x29 k x29.2.list x29.2.at_ x29.2.bad 0:Option (((List Zi)×Int×Int) ⊕ (Zb×Zg))).bind fun | .inl (x30,x31,x32)=>( some (x29.1,(Zg.mk x30 x31 x32))) | .inr z41=>( some z41)
end
open Go.RowKit Am
def Qd (rec_i_NodeCount:Zb->Option Int) (a0:Zb):Nat->Int->Int->Option Int | 0,_,_=>none | n_+1,x2,x3=> if (decide (x3<(a0.args.length:Int))) then (at? a0.args x3).bind fun x4=> (rec_i_NodeCount x4).bind fun x5=> Qd rec_i_NodeCount a0 n_ (IntKind.i64.wrap (x2+x5)) (IntKind.i64.wrap (x3+1)) else some x2
def QZ:Nat->Zb->Option Int | 0,_=>none | k+1,a0=> (Qd (QZ k) a0 k 1 0).bind fun x1=> some x1
def Qe (rec_i_NestingOf:Zb->Option Int) (a0:Zb):Nat->Int->Int->Option Int | 0,_,_=>none | n_+1,x2,x3=> if (decide (x3<(a0.args.length:Int))) then (at? a0.args x3).bind fun x4=> (rec_i_NestingOf x4).bind fun x5=> Qe rec_i_NestingOf a0 n_ (if x5>x2 then x5 else x2) (IntKind.i64.wrap (x3+1)) else some x2
def Qw:Nat->Zb->Option Int | 0,_=>none | k+1,a0=> (Qe (Qw k) a0 k 0 0).bind fun x1=> some (IntKind.i64.wrap (x1+1))
def Zaz (k:Nat) (a0:Zb):Option Bool:= if (decide (a0.kind=1)) then ((X7 a0.n 0 1000000000).bind fun x2=> if x2 then if (decide (a0.text=(⟨#[]⟩:ByteArray))) then some (decide ((a0.args.length:Int)=0)) else some false else some false).bind fun x1=> some x1 else if (decide (a0.kind=2)) then (if (decide (a0.n=0)) then (X8 k a0.text).bind fun x4=> if x4 then some (decide ((a0.args.length:Int)=0)) else some false else some false).bind fun x3=> some x3 else if (decide (a0.kind=3)) then (if (decide (a0.n=0)) then (Z2 k a0.text).bind fun x6=> if x6 then some (decide ((a0.args.length:Int)=0)) else some false else some false).bind fun x5=> some x5 else if (decide (a0.kind=4)) then (if (decide (a0.n=0)) then if (decide (a0.text=(⟨#[]⟩:ByteArray))) then some (decide ((a0.args.length:Int)<=8)) else some false else some false).bind fun x7=> some x7 else if (decide (a0.kind=5)) then (if (decide (a0.n=0)) then (ZM a0.text).bind fun x9=> some (decide ((a0.args.length:Int)=x9)) else some false).bind fun x8=> some x8 else if (decide (a0.kind=6)) then ((X7 a0.n 1 5).bind fun x11=> if x11 then if (decide (a0.text=(⟨#[]⟩:ByteArray))) then some (decide ((a0.args.length:Int)=2)) else some false else some false).bind fun x10=> some x10 else (if (decide (a0.kind=7)) then some true else some (decide (a0.kind=9))).bind fun x12=> if x12 then (if (decide (a0.n=0)) then (Z2 k a0.text).bind fun x14=> if x14 then some (decide ((a0.args.length:Int)=2)) else some false else some false).bind fun x13=> some x13 else if (decide (a0.kind=8)) then (if (decide (a0.n=0)) then if (decide (a0.text=(⟨#[]⟩:ByteArray))) then some (decide ((a0.args.length:Int)=3)) else some false else some false).bind fun x15=> some x15 else some false
def Xm (rec_i_areNodes:Zb->Option Bool) (a0:Zb):Nat->Int->Option (Unit ⊕ Bool) | 0,_=>none | n_+1,x1=> if (decide (x1<(a0.args.length:Int))) then (at? a0.args x1).bind fun x2=> (rec_i_areNodes x2).bind fun x3=> if (!x3) then some (.inr false) else Xm rec_i_areNodes a0 n_ (IntKind.i64.wrap (x1+1)) else some (.inl ())
def Qt:Nat->Zb->Option Bool | 0,_=>none | k+1,a0=> (Xm (Qt k) a0 k 0:Option (Unit ⊕ Bool)).bind fun | .inl _=>( (Zaz k a0).bind fun x4=> some x4) | .inr z5=>( some z5)
def W0 (k:Nat) (a0:Zb):Option Bool:= ((QZ k a0).bind fun x2=> if (decide (x2<=40)) then (Qw k a0).bind fun x3=> if (decide (x3<=8)) then (Qt k a0).bind fun x4=> some x4 else some false else some false).bind fun x1=> some x1
def WM (k:Nat) (a0:ByteArray):Option (Zb×Int):= (V2 k a0).bind fun x1=> if (decide (0<=x1.2)) then some ((Zb.mk 0 0 (⟨#[]⟩:ByteArray) []),x1.2) else (Zm k (Zg.mk x1.1 0 (-1))).bind fun x2=> ((if (decide (x2.2.bad<0)) then some (decide (x2.2.at_<(x1.1.length:Int))) else some false).bind fun x4=> if x4 then some x2.2.at_ else some x2.2.bad).bind fun x3=> if (decide ((x1.1.length:Int)<=x3)) then some ((Zb.mk 0 0 (⟨#[]⟩:ByteArray) []),(a0.size:Int)) else if (decide (0<=x3)) then (at? x1.1 x3).bind fun x5=> some ((Zb.mk 0 0 (⟨#[]⟩:ByteArray) []),x5.at_) else (W0 k x2.1).bind fun x6=> if (!x6) then some ((Zb.mk 0 0 (⟨#[]⟩:ByteArray) []),0) else some (x2.1,(-1))
def Uz (a0:Int):Option Za:= some (Za.mk 6 a0 0 (⟨#[]⟩:ByteArray) [] [] [])
def Vh (a0:ByteArray) (a1:Int):Option (List ByteArray):= (Qf a0 (Zlj [a1])).bind fun x1=> some x1
def Ym (x1:List ByteArray):Nat->(List Int)->Int->Option ((List Int) ⊕ ((List Int)×Bool)) | 0,_,_=>none | n_+1,x3,x4=> if (decide (x4<(x1.length:Int))) then (at? x1 x4).bind fun x5=> (ZbK x5 (-1000000000) 1000000000).bind fun x6=> if (!x6.2) then some (.inr ([],false)) else (Yv 8 x3 [x6.1]).bind fun x7=> Ym x1 n_ x7 (IntKind.i64.wrap (x4+1)) else some (.inl x3)
def Uv (k:Nat) (a0:ByteArray) (a1:Int):Option ((List Int)×Bool):= (Vh a0 32).bind fun x1=> (Ym x1 k ([]:List Int) 0:Option ((List Int) ⊕ ((List Int)×Bool))).bind fun | .inl x2=>( some (x2,(decide ((x2.length:Int)=a1)))) | .inr z8=>( some z8)
def We (a0:Int):Option Bool:= (X7 a0 (-1000000000) 1000000000).bind fun x1=> some x1
def QN (a0:List ByteArray) (a1:ByteArray):Nat->Int->Option (Unit ⊕ Int) | 0,_=>none | n_+1,x1=> if (decide (x1<(a0.length:Int))) then (at? a0 x1).bind fun x2=> if (decide (x2=a1)) then some (.inr x1) else QN a0 a1 n_ (IntKind.i64.wrap (x1+1)) else some (.inl ())
def VC (k:Nat) (a0:List ByteArray) (a1:ByteArray):Option Int:= (QN a0 a1 k 0:Option (Unit ⊕ Int)).bind fun | .inl _=>( some (-1)) | .inr z3=>( some z3)
def Yf (k:Nat) (a0:List ByteArray):Nat->Int->Option (Unit ⊕ Bool) | 0,_=>none | n_+1,x1=> if (decide (x1<(a0.length:Int))) then (at? a0 x1).bind fun x2=> (VC k a0 x2).bind fun x3=> if (!decide (x3=x1)) then some (.inr false) else Yf k a0 n_ (IntKind.i64.wrap (x1+1)) else some (.inl ())
def VD (k:Nat) (a0:List ByteArray):Option Bool:= (Yf k a0 k 0:Option (Unit ⊕ Bool)).bind fun | .inl _=>( some true) | .inr z4=>( some z4)
def Qm (k:Nat) (a0:List ByteArray):Nat->Int->Option (Unit ⊕ Bool) | 0,_=>none | n_+1,x1=> if (decide (x1<(a0.length:Int))) then (at? a0 x1).bind fun x2=> (Z2 k x2).bind fun x3=> if (!x3) then some (.inr false) else Qm k a0 n_ (IntKind.i64.wrap (x1+1)) else some (.inl ())
def Vl (k:Nat) (a0:List ByteArray):Option Bool:= (Qm k a0 k 0:Option (Unit ⊕ Bool)).bind fun | .inl _=>( ((X7 (a0.length:Int) 1 4).bind fun x5=> if x5 then (VD k a0).bind fun x6=> some x6 else some false).bind fun x4=> some x4) | .inr z7=>( some z7)
def Xx (a0:Zo) (a1:Zo):Option Bool:= (if (decide (a0.cell<a1.cell)) then some true else if (decide (a0.cell=a1.cell)) then some (decide (a0.row<a1.row)) else some false).bind fun x1=> some x1
end Go.Proofs.YtbkllghhcphkaaaGreatDoor
