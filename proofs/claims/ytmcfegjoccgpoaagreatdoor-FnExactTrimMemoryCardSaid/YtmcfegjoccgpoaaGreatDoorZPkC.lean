import Derived.Test.YtmcfegjoccgpoaaGreatDoorZPkB
import Derived.ProofKit
import Derived.OpenShut
import Derived.ShutString
import Derived.Deep.Fields
set_option linter.unusedSimpArgs false
set_option linter.unusedVariables false
namespace Go.Proofs.YtmcfegjoccgpoaaGreatDoor.Am
open Go.RowKit
section
variable (P:Program) (ops:Array Oper) (O0:St) (K:St->Prop) (B:List (List Nat))
def Zfi:List (List Nat)->List Oper->Nat->List (Nat×Eff)->Prop
 | A::l,o::k,i,es=>match o.guard with
  | none=>match XJ o.op with
   | some (f,r)=>match (Xs (view O0 es A) r).bind (Vs (view O0 es A)) with
    | some (z,C,p)=>p/\((∃fr t s,Ctr P f z fr s/\(fr=false->C=true)/\(match QO (view O0 es A) o.dst fr t s with | some g=>g.side/\Zfi l k (i+1) ((i,g)::es)| none=>False))\/XBy P (view O0 es A) o.dst f (Xs (view O0 es A) r) λg=>Zfi l k (i+1) ((i,g)::es))
    | none=>XBy P (view O0 es A) o.dst f (Xs (view O0 es A) r) λg=>Zfi l k (i+1) ((i,g)::es)
   | none=>match Zaa P (view O0 es A) o with | some g=>g.side/\Zfi l k (i+1) ((i,g)::es)| none=>HBy P (view O0 es A) o λg=>Zfi l k (i+1) ((i,g)::es)
  | some (j,m)=>match yld (view O0 es A) ops j m with
   | some b=>if b=m then match XJ o.op with
     | some (f,r)=>match (Xs (view O0 es A) r).bind (Vs (view O0 es A)) with
      | some (z,C,p)=>p/\((∃fr t s,Ctr P f z fr s/\(fr=false->C=true)/\(match QO (view O0 es A) o.dst fr t s with | some g=>g.side/\Zfi l k (i+1) ((i,g)::es)| none=>False))\/XBy P (view O0 es A) o.dst f (Xs (view O0 es A) r) λg=>Zfi l k (i+1) ((i,g)::es))
      | none=>XBy P (view O0 es A) o.dst f (Xs (view O0 es A) r) λg=>Zfi l k (i+1) ((i,g)::es)
     | none=>match Zaa P (view O0 es A) o with | some g=>g.side/\Zfi l k (i+1) ((i,g)::es)| none=>HBy P (view O0 es A) o λg=>Zfi l k (i+1) ((i,g)::es)
    else Zfi l k (i+1) ((i,⟨True,match o.dst with | some d=>[(d,.dead)]| none=>[],[],[]⟩)::es)
   | none=>False
 | _,[],_,es=>dOk O0 B es=true/\K (Zd9 O0 es)
 | _,_,_,_=>False
def ZpT (k:List (List Nat)) (j:List Oper) (i:Nat) (es:List (Nat×Eff)):Option Eff->Prop
 | some g=>g.side/\Zfi P ops O0 K B k j (i+1) ((i,g)::es)
 | none=>False
def Zos (k:List (List Nat)) (o:Oper) (j:List Oper) (i:Nat) (es:List (Nat×Eff)) (O:St):Option Eff->Prop
 | some g=>g.side/\Zfi P ops O0 K B k j (i+1) ((i,g)::es)
 | none=>HBy P O o λg=>Zfi P ops O0 K B k j (i+1) ((i,g)::es)
def Zsf (k:List (List Nat)) (o:Oper) (j:List Oper) (i:Nat) (es:List (Nat×Eff)) (O:St) (f:Nat) (vs:Option (List V)):Option (List DV×Bool×Prop)->Prop
 | some (r,s,p)=>p/\((∃fr m l,Ctr P f r fr l/\(fr=false->s=true)/\ZpT P ops O0 K B k j i es (QO O o.dst fr m l))\/XBy P O o.dst f vs λg=>Zfi P ops O0 K B k j (i+1) ((i,g)::es))
 | none=>XBy P O o.dst f vs λg=>Zfi P ops O0 K B k j (i+1) ((i,g)::es)
def ZuO (k:List (List Nat)) (o:Oper) (j:List Oper) (i:Nat) (es:List (Nat×Eff)) (O:St):Option (Nat×List Operand)->Prop
 | some (f,l)=>Zsf P ops O0 K B k o j i es O f (Xs O l) ((Xs O l).bind (Vs O))
 | none=>Zos P ops O0 K B k o j i es O (Zaa P O o)
def Zot (l:List (List Nat)) (o:Oper) (j:List Oper) (i:Nat) (es:List (Nat×Eff)) (O:St) (k:Bool):Option Bool->Prop
 | some b=>if b=k then ZuO P ops O0 K B l o j i es O (XJ o.op) else Zfi P ops O0 K B l j (i+1) ((i,⟨True,match o.dst with | some d=>[(d,.dead)]| none=>[],[],[]⟩)::es)
 | none=>False
end
section
variable {P:Program} {ops:Array Oper} {O0:St} {K:St->Prop} {B:List (List Nat)}
theorem Zrg (j:List (List Nat)) (i:Nat) (es:List (Nat×Eff)):Zfi P ops O0 K B j [] i es=(dOk O0 B es=true/\K (Zd9 O0 es)):=by cases j<;>rfl
theorem ZlD (A:List Nat) (k:List (List Nat)) (j:List Oper) (i:Nat) (es:List (Nat×Eff)) (d:Option Nat) (op:Op) (ty:Nat) (pos:String) (l:Array Edge):
  Zfi P ops O0 K B (A::k) (⟨d,op,ty,pos,l,none⟩::j) i es=ZuO P ops O0 K B k ⟨d,op,ty,pos,l,none⟩ j i es (view O0 es A) (XJ op):=by
 rw [Zfi];simp only [ZuO,Zsf,ZpT,Zos]
theorem ZlE (A:List Nat) (m:List (List Nat)) (l:List Oper) (i:Nat) (es:List (Nat×Eff)) (d:Option Nat) (op:Op) (ty:Nat) (pos:String) (o:Array Edge) (j:Nat) (k:Bool):
  Zfi P ops O0 K B (A::m) (⟨d,op,ty,pos,o,some (j,k)⟩::l) i es=Zot P ops O0 K B m ⟨d,op,ty,pos,o,some (j,k)⟩ l i es (view O0 es A) k (yld (view O0 es A) ops j k):=by
 rw [Zfi];simp only [Zot,ZuO,Zsf,ZpT,Zos]
theorem Zcr:∀{m:List (List Nat)} {l:List Oper} {i:Nat} {es:List (Nat×Eff)},Zfi P ops O0 K B m l i es->Zp2 P ops O0 K B m l i es
 | m,[],i,es,h=>by rw [Zrg] at h;exact Zre m i es h.1 h.2
 | [],o::l,i,es,h=>by unfold Zfi at h;exact h.elim
 | A::m,⟨d,z,J,s,G,gd⟩::l,i,es,h=>by
  have I:∀gd,ZuO P ops O0 K B m ⟨d,z,J,s,G,gd⟩ l i es (view O0 es A) (XJ z)->ZyQ P ops O0 K B m ⟨d,z,J,s,G,gd⟩ l i es (view O0 es A) (XJ z):=by
   intro gd k
   have nx:∀g,ZpT P ops O0 K B m l i es g->ZvV P ops O0 K B m l i es g:=by
    intro g t;cases g with
    | none=>exact t
    | some g=>exact ⟨t.1,Zcr t.2⟩
   unfold ZuO at k;unfold ZyQ;cases U:XJ z with
   | none=>
    rw [U] at k;simp only at k ⊢;cases t:Zaa P (view O0 es A) ⟨d,z,J,s,G,gd⟩ with
    | none=>rw [t] at k;obtain ⟨g,ho,hz⟩:=k;exact ⟨g,ho,Zcr hz⟩
    | some g=>rw [t] at k;exact ⟨k.1,Zcr k.2⟩
   | some p=>
    obtain ⟨f,xs⟩:=p;rw [U] at k;simp only at k ⊢;cases hd:(Xs (view O0 es A) xs).bind (Vs (view O0 es A)) with
    | none=>
     rw [hd] at k;obtain ⟨S,g,E,R,t⟩:=k;exact ⟨S,g,E,R,Zcr t⟩
    | some r=>
     obtain ⟨ds,pu,p⟩:=r;rw [hd] at k;obtain ⟨T,⟨fr,X,rs,Y,Z,h4⟩| ⟨S,g,E,R,t⟩⟩:=k
     ·exact ⟨T,.inl ⟨fr,X,rs,Y,Z,nx _ h4⟩⟩
     ·exact ⟨T,.inr ⟨S,g,E,R,Zcr t⟩⟩
  cases gd with
  | none=>rw [ZlD] at h;exact Zsg A m l i es d z J s G (I _ h)
  | some p=>
   obtain ⟨j,C⟩:=p;rw [ZlE] at h;refine Zsh A m l i es d z J s G j C ?_;cases W:yld (view O0 es A) ops j C with
   | none=>rw [W] at h;exact h
   | some b=>
    rw [W] at h;simp only [Zot] at h;simp only [Zug]
    split
    ·rename_i M;rw [if_pos M] at h;exact I _ h
    ·rename_i M;rw [if_neg M] at h;exact ⟨trivial,Zcr h⟩
theorem KY {N:Nat->Prop} {w0:Bs} {Q:Exit->St->Prop} {id:Nat} {l:List Oper} (A:List (List Nat)) (hm:P.follows .mixedOrders=true) (hd:ZcI l A=true) (h:Zfi P l.toArray O0 (λO'=>Q .normal O') A A l 0 []):AW P N w0 (.region id l.toArray true) Q O0:=
 ZuK A hm hd (Zcr h)
end
section
variable {P:Program} {N:Nat->Prop} {w0:Bs} {Q:Exit->St->Prop} {c:Code} {O:St}
def Ok:L->Prop
 | .int k n=>InK k n
 | .bool _=>True
 | .str s=>Fit s
 | .sl es=>es.length<=9223372036854775807
 | .void=>True
theorem Rp.ok {w:World} {x:L} {v:Value} {F:List Nat} (h:Rp w x v F):Ok x:=by
 cases x<;>simp only [Rp] at h
 ·exact h.2.2
 ·trivial
 ·exact h.2.2
 ·obtain ⟨A,c,j,k,l,_⟩:=h;show _<=_;omega
 ·trivial
def OkE (es:List (List L)):Prop:=∀e∈es,∀x∈e,Ok x
theorem RpL.ok {w:World}:∀{xs:List L} {vs:List Value} {F:List Nat},RpL w xs vs F->∀x∈xs,Ok x
 | [],_,_,_=>Ha
 | x::xs,_,_,h=>by
  simp only [RpL] at h;obtain ⟨v,m,o,p,rfl,rfl,k,l⟩:=h;intro y j;rcases Hc.1 j with rfl| j
  ·exact k.ok
  ·exact RpL.ok l y j
theorem RpE.ok {w:World}:∀{xs:List (List L)} {vs:List Value} {F:List Nat},RpE w xs vs F->OkE xs
 | [],_,_,_=>by simp [OkE]
 | x::xs,_,_,h=>by
  simp only [RpE] at h;obtain ⟨p,r,m,o,rfl,rfl,k,l⟩:=h;intro y j;rcases Hc.1 j with rfl| j
  ·exact k.ok
  ·exact RpE.ok l y j
end
structure Chg (F:List Nat) (w w':World):Prop where
 os:w'.os=w.os
 tape:w'.tape=w.tape
 output:w'.output=w.output
 size:w.heap.size<=w'.heap.size
 block:∀b,b<w.heap.size->b∉F->w'.heap[b]? =w.heap[b]?
def XT (w:World) (b:Nat):Prop:=∃j t,w.heap[b]? =some (.cells j t (0,0))
def ZyD (P:Program) (f:Nat) (d:DV) (k:Int) (l:DV) (j:Int):Prop:=
 Y9 P f=true/\∀(w:World) (v:Value) (F:List Nat),Zad w d v F->F.Nodup->(∀b∈F,XT w b)->
  Calls P f #[v,.int .i64 k] w λe w'=>e= .returned (.int .i64 j)/\InK .i64 j/\Zad w' l v F/\Chg F w w'
def wrC (O:St):CV->Option (L×List Nat×Prop)
 | .l x=>if x.flat then some (x,[],True) else none
 | .nil=>some (.sl [],[],True)
 | .own j n=>match O.ar.lookup j with
  | some (some A)=>if A.fr=true/\1000000<=j then some (.sl A.es,[j],A.es.length=n) else none
  | _=>none
 | _=>none
def wrL (O:St):List CV->Option (List L×List Nat×Prop)
 | []=>some ([],[],True)
 | c::cs=>match wrC O c,wrL O cs with
  | some (x,l,p),some (k,j,q)=>some (x::k,l++j,p/\q)
  | _,_=>none
def wrV (O:St):V->Option (DV×List Nat×Prop)
 | .one c=>(wrC O c).map λr=>(.one r.1,r.2)
 | .agg cs=>(wrL O cs).map λr=>(.agg r.1,r.2)
 | _=>none
def Zsv:List CV->List L->List (Nat×List (List L))
 | .own k _::cs,.sl es::j=>(k,es)::Zsv cs j
 | _::cs,_::j=>Zsv cs j
 | _,_=>[]
def Zsu:V->DV->List (Nat×List (List L))
 | .one c,.one x=>Zsv [c] [x]
 | .agg cs,.agg j=>Zsv cs j
 | _,_=>[]
def mkC (m:List (Nat×List (List L))):CV->CV
 | .own j n=>match m.lookup j with
  | some es=>if es.length=n then .l (.sl es) else .own j n
  | none=>.own j n
 | c=>c
def mkV (m:List (Nat×List (List L))):V->V
 | .one c=>.one (mkC m c)
 | .agg cs=>.agg (cs.map (mkC m))
 | .tup j=>.tup (j.map λp=>(p.1,p.2.map (mkC m)))
 | .dead=>.dead
def St.wrote (O:St) (m:List (Nat×List (List L))):St:=
 ⟨O.nt,O.tm.map (λp=>(p.1,mkV m p.2)),O.bx.map (λp=>(p.1,p.2.map (mkC m))),m.map (λp=>(p.1,none))++O.ar⟩
section
variable {e:Env} {O:St} {w:World} {N:Nat->Prop} {w0:Bs} {a:Act} {P:Program}
theorem U4 {α β:Type} (g:α->β):∀(l:List (Nat×α)) (k:Nat),(l.map λp=>(p.1,g p.2)).lookup k=(l.lookup k).map g
 | [],_=>rfl
 | (j,x)::l,k=>by
  simp only [Hi,lookup_cons,U4 g l k]
  by_cases h:k=j<;>simp [h]
theorem ZjY {α β:Type} (m:List (Nat×α)) (l:List (Nat×Option β)) (k:Nat):(m.map (λp=>(p.1,(none:Option β)))++l).lookup k=if (m.lookup k).isSome then some none else l.lookup k:=by
 induction m with
 | nil=>simp
 | cons p m o=>
  obtain ⟨j,x⟩:=p;simp only [Hi,Hm,lookup_cons,o]
  by_cases h:k=j
  ·simp only [if_pos h,Option.isSome_some,if_true]
  ·simp only [if_neg h]
theorem Uf.ow (h:ZJ N w0 e O a w) {τ:Nat} {A:Arr} (C:O.ar.lookup τ=some (some A)) (hf:A.fr=true):Ow N w (.sl A.es) (e.ρ τ) (e.φ τ):=by
 obtain ⟨p,c,m,l,z| ⟨b,t,j,o,W,E,G,I,J,M,R,S,T⟩⟩:=h.ar τ A C
 ·simp only [Ow];exact ⟨p,c,m,l,.inl z⟩
 ·simp only [Ow];rcases T with ⟨k,r,U,s⟩| ⟨k,_⟩
  ·exact ⟨p,c,m,l,.inr ⟨b,t,j,o,W,E,G,I,J,M,R,S,r,s⟩⟩
  ·rw [hf] at k;cases k
theorem ZoO (h:ZJ N w0 e O a w) {c:CV} {v:Value} (r:c.rel e O w v) {x:L} {τs:List Nat} {p:Prop} (hc:wrC O c=some (x,τs,p)) (hp:p):
  Ow N w x v (τs.flatMap e.φ)/\(∀τ∈τs,(∃A,O.ar.lookup τ=some (some A)/\A.fr=true)/\1000000<=τ)/\(∀τ n,c= .own τ n->v=e.ρ τ):=by
 unfold wrC at hc
 split at hc
 ·split at hc
  ·rename_i hf;simp only [ZEK,ZEL] at hc;obtain ⟨rfl,rfl,rfl⟩:=hc;obtain ⟨F,m,_⟩:=r;exact ⟨(m.flat hf).2,Ha,Ha⟩
  ·cases hc
 ·simp only [ZEK,ZEL] at hc;obtain ⟨rfl,rfl,rfl⟩:=hc;have l:=r;subst l;refine ⟨?_,Ha,Ha⟩;simp;exact ⟨none,0,rfl,WF,.inl Ha⟩
 ·rename_i τ n
  split at hc
  ·rename_i A o
   split at hc
   ·rename_i hf;simp only [ZEK,ZEL] at hc;obtain ⟨rfl,rfl,rfl⟩:=hc;obtain ⟨z,k,m,_⟩:=r;rw [o] at k;obtain rfl:=ZEI k;have l:=(m A rfl).2 hp;refine ⟨?_,λE s=> ?_,λt C j=> ?_⟩
    ·rw [l];simpa using Uf.ow h o hf.1
    ·obtain rfl:=Hu.1 s;exact ⟨⟨A,o,hf.1⟩,hf.2⟩
    ·injection j with j _
     rw [<-j];exact l
   ·cases hc
  ·cases hc
 ·cases hc
theorem ZoN (h:ZJ N w0 e O a w):∀{cs:List CV} {vs:List Value},Yn e O w cs vs->∀{xs:List L} {τs:List Nat} {p:Prop},wrL O cs=some (xs,τs,p)->p->
  OwL N w xs vs (τs.flatMap e.φ)/\(∀τ∈τs,(∃A,O.ar.lookup τ=some (some A)/\A.fr=true)/\1000000<=τ)/\(∀(i:Nat) τ n v,cs[i]? =some (.own τ n)->vs[i]? =some v->v=e.ρ τ)
 | [],vs,l,xs,τs,p,k,hp=>by
  simp only [Yn] at l;subst l;simp only [wrL,ZEK,ZEL] at k;obtain ⟨rfl,rfl,rfl⟩:=k;simp [OwL]
 | c::cs,vs,l,xs,τs,p,k,hp=>by
  simp only [Yn] at l;obtain ⟨v,r,rfl,G,I⟩:=l;simp only [wrL] at k
  split at k
  ·rename_i x T W S U X s t;simp only [ZEK,ZEL] at k;obtain ⟨rfl,rfl,rfl⟩:=k;obtain ⟨J,M,R⟩:=ZoO h G s hp.1;obtain ⟨z,C,E⟩:=ZoN h I t hp.2;refine ⟨?_,λτ j=>by rcases He.1 j with j| j;exact M τ j;exact C τ j,λi τ n u m o=> ?_⟩
   ·simp only [OwL,List.flatMap_append];exact ⟨v,r,_,_,rfl,rfl,J,z⟩
   ·cases i with
    | zero=>simp at m o;subst o;exact R τ n m
    | succ i=>exact E i τ n u (by simpa using m) (by simpa using o)
  ·cases k
theorem Zmo:∀{cs:List CV} {xs:List L} {τ:Nat} {es:List (List L)},(τ,es)∈Zsv cs xs->∃(i n:Nat),cs[i]? =some (CV.own τ n)/\xs[i]? =some (L.sl es)
 | [],xs,τ,es,h=>by cases xs<;>simp [Zsv] at h
 | c::cs,[],τ,es,h=>by cases c<;>simp [Zsv] at h
 | c::cs,x::xs,τ,es,h=>by
  have j:(τ,es)∈Zsv cs xs->∃(i n:Nat),(c::cs)[i]? =some (CV.own τ n)/\(x::xs)[i]? =some (L.sl es):=λh=>by
   obtain ⟨i,n,l,m⟩:=Zmo h;exact ⟨i+1,n,by simpa using l,by simpa using m⟩
  cases c with
  | own p o=>
   cases x with
   | sl k=>
    simp only [Zsv,Hc,ZEL] at h;rcases h with ⟨rfl,rfl⟩| h
    ·exact ⟨0,o,rfl,rfl⟩
    ·exact j h
   | _=>exact j (by simpa [Zsv] using h)
  | _=>exact j (by simpa [Zsv] using h)
theorem RpL.at:∀{xs:List L} {vs:List Value} {F:List Nat},RpL w xs vs F->∀{i:Nat} {x:L},xs[i]? =some x->∃v G,vs[i]? =some v/\Rp w x v G/\∀b∈G,b∈F
 | x::xs,vs,F,h,i,y,k=>by
  simp only [RpL] at h;obtain ⟨v,t,l,z,rfl,rfl,r,s⟩:=h;cases i with
  | zero=>simp at k;subst k;exact ⟨v,l,rfl,r,λb j=>by simp [j]⟩
  | succ i=>
   obtain ⟨u,G,m,o,p⟩:=RpL.at s (by simpa using k);exact ⟨u,G,by simpa using m,o,λb j=>by simp [p b j]⟩
theorem ZJ.wrote (h:ZJ N w0 e O a w) (hbad:∀b,w0.bad b->¬N b) {w':World} {τs:List Nat} {m:List (Nat×List (List L))} (hl:∀τ∈τs,(∃A,O.ar.lookup τ=some (some A)/\A.fr=true)/\1000000<=τ)
  (hc:Chg (τs.flatMap e.φ) w w') (hm:∀τ es,m.lookup τ=some es->∃G,Rp w' (.sl es) (e.ρ τ) G/\∀b∈G,b∈τs.flatMap e.φ) (b7:∀τ∈τs,(m.lookup τ).isSome=true) (b8:∀τ es,m.lookup τ=some es->τ∈τs/\∀A,O.ar.lookup τ=some (some A)->A.es.length=es.length):
  ZJ N w0 ⟨e.β,e.ρ,e.φ,λb=>e.bad b/\b∉τs.flatMap e.φ⟩ (O.wrote m) a w':=by
 have Z:∀k cs,(O.wrote m).bx.lookup k=some cs->∃r,O.bx.lookup k=some r/\cs=r.map (mkC m):=λk cs I=>by
  have o:(O.bx.lookup k).map (λcs=>cs.map (mkC m))=some cs:=by rw [<-U4];exact I
  obtain ⟨r,z,q2⟩:=Hf.1 o;exact ⟨r,z,q2.symm⟩
 have Y:∀τ A,(O.wrote m).ar.lookup τ=some (some A)->τ∉τs/\O.ar.lookup τ=some (some A):=λτ A E=>by
  have o:(if (m.lookup τ).isSome then some none else O.ar.lookup τ)=some (some A):=by rw [<-ZjY];exact E
  split at o
  ·cases o
  ·rename_i hn;exact ⟨λht=>hn (b7 τ ht),o⟩
 have R:∀b∈τs.flatMap e.φ,e.bad b/\N b/\b<w.heap.size/\∃τ∈τs,b∈e.φ τ:=λb l=>by
  obtain ⟨τ,o,T⟩:=GH.1 l;obtain ⟨⟨A,E,_⟩,hd⟩:=hl τ o;have:=h.Yp (κ:=.a τ) ⟨A,E⟩ b T;exact ⟨h.dk (.a τ) ⟨A,E⟩ hd b T,this.2,this.1,τ,o,T⟩
 have b0:∀b,Mut ⟨e.β,e.ρ,e.φ,λb=>e.bad b/\b∉τs.flatMap e.φ⟩ (O.wrote m) b->Mut e O b/\b∉τs.flatMap e.φ:=λb l=>by
  rcases l with h0| ⟨k,cs,o,T⟩| ⟨τ,A,o,T⟩
  ·exact ⟨.inl h0.1,h0.2⟩
  ·obtain ⟨r,z,_⟩:=Z k cs o;refine ⟨.inr (.inl ⟨k,r,z,T⟩),λU=> ?_⟩;obtain ⟨_,_,_,τ,M,S⟩:=R b U;obtain ⟨⟨A,E,_⟩,_⟩:=hl τ M;exact h.sep (.b k) (.a τ) ⟨r,z⟩ ⟨A,E⟩ Ha b (by simp only [blk];exact Hu.2 T.symm) S
  ·obtain ⟨q0,z⟩:=Y τ A o;refine ⟨.inr (.inr ⟨τ,A,z,T⟩),λU=> ?_⟩;obtain ⟨_,_,_,s,M,S⟩:=R b U;obtain ⟨⟨B,X,_⟩,_⟩:=hl s M;exact h.sep (.a τ) (.a s) ⟨A,z⟩ ⟨B,X⟩ (by rintro ⟨⟩;exact q0 M) b ((h.ar τ A z).own T).1 S
 have u:Up e O w ⟨e.β,e.ρ,e.φ,λb=>e.bad b/\b∉τs.flatMap e.φ⟩ (O.wrote m) w':=by
  refine ⟨hc.size,λb l hm=>hc.block b l λU=>hm (.inl (R b U).1),λb _ l=>(b0 b l).1,λk cs I=>⟨⟨cs.map (mkC m), ?_⟩,rfl⟩,λτ A E=> ?_,λτ _ ⟨B,X⟩ ⟨B',b4⟩=>⟨rfl,λb l=>hc.block b (h.Yp (κ:=.a τ) ⟨B,X⟩ b ((h.ar τ B X).own l).1).1 λU=> ?_⟩⟩
  rotate_right
  ·obtain ⟨q0,z⟩:=Y τ B' b4;obtain ⟨_,_,_,s,M,S⟩:=R b U;obtain ⟨⟨C,hC,_⟩,_⟩:=hl s M;exact h.sep (.a τ) (.a s) ⟨B,X⟩ ⟨C,hC⟩ (by rintro ⟨⟩;exact q0 M) b ((h.ar τ B X).own l).1 S
  ·show (O.bx.map (λ(p:Nat×List CV)=>(p.1,p.2.map (mkC m)))).lookup k=_;rw [U4,I];rfl
  ·show ∃A',(m.map (λ(p:Nat×List (List L))=>(p.1,none))++O.ar).lookup τ=some A'/\_;rw [ZjY]
   split
   ·exact ⟨none,rfl,Ha⟩
   ·exact ⟨A,E,λB X=>⟨B,X,ZEN _,λ_=>rfl⟩⟩
 have hC:∀(c:CV) (v:Value),c.rel e O w v->(mkC m c).rel ⟨e.β,e.ρ,e.φ,λb=>e.bad b/\b∉τs.flatMap e.φ⟩ (O.wrote m) w' v:=λc v J=>by
  cases c with
  | own τ n=>
   simp only [mkC]
   split
   ·rename_i es he
    split
    ·rename_i hn;obtain ⟨z,q2⟩:=b8 τ es he;obtain ⟨⟨A,E,_⟩,_⟩:=hl τ z;obtain ⟨A',b2,o,_⟩:=J;rw [E] at b2;obtain rfl:=ZEI b2;have hv:=(o A rfl).2 (by rw [q2 A E,hn]);obtain ⟨G,M,S⟩:=hm τ es he;exact ⟨G,by rw [hv];exact M,λb l b9=>(b0 b b9).2 (S b l)⟩
    ·exact J.up u
   ·exact J.up u
  | _=>exact J.up u
 have hL:∀(cs:List CV) (W:List Value),Yn e O w cs W->Yn ⟨e.β,e.ρ,e.φ,λb=>e.bad b/\b∉τs.flatMap e.φ⟩ (O.wrote m) w' (cs.map (mkC m)) W:=λcs=>by
  induction cs with
  | nil=>intro W J;exact J
  | cons c cs ih=>
   intro W J;simp only [Yn] at J;obtain ⟨v,b1,rfl,o,T⟩:=J;simp only [Hi,Yn];exact ⟨v,b1,rfl,hC _ _ o,ih _ T⟩
 have hP:∀(ps:List (Bool×List CV)) (W:List Value),YH e O w ps W->YH ⟨e.β,e.ρ,e.φ,λb=>e.bad b/\b∉τs.flatMap e.φ⟩ (O.wrote m) w' (ps.map λ(p:Bool×List CV)=>(p.1,p.2.map (mkC m))) W:=λps=>by
  induction ps with
  | nil=>intro W J;exact J
  | cons p ps ih=>
   intro W J;simp only [YH] at J;obtain ⟨v,b1,rfl,o,T⟩:=J;simp only [Hi,YH];refine ⟨v,b1,rfl, ?_,ih _ T⟩;obtain ⟨b,cs⟩:=p;cases b
   ·obtain ⟨c,rfl,o⟩:=o;exact ⟨_,rfl,hC _ _ o⟩
   ·obtain ⟨us,rfl,o⟩:=o;exact ⟨us,rfl,hL _ _ o⟩
 have hV:∀(x:V) (v:Value),x.rel e O w v->(mkV m x).rel ⟨e.β,e.ρ,e.φ,λb=>e.bad b/\b∉τs.flatMap e.φ⟩ (O.wrote m) w' v:=λx v J=>by
  cases x with
  | one c=>exact hC c v J
  | agg cs=>obtain ⟨us,rfl,o⟩:=J;exact ⟨us,rfl,hL _ _ o⟩
  | tup ps=>obtain ⟨us,rfl,o⟩:=J;exact ⟨us,rfl,hP _ _ o⟩
  | dead=>exact J
 have j:∀s,live (O.wrote m) s->live O s/\∀b∈blk e s,b∉τs.flatMap e.φ:=λs I=>by
  cases s with
  | b k=>
   obtain ⟨cs,I⟩:=I;obtain ⟨r,z,_⟩:=Z k cs I;refine ⟨⟨r,z⟩,λb l U=> ?_⟩;obtain ⟨_,_,_,τ,M,S⟩:=R b U;obtain ⟨⟨A,E,_⟩,_⟩:=hl τ M;exact h.sep (.b k) (.a τ) ⟨r,z⟩ ⟨A,E⟩ Ha b l S
  | a τ=>
   obtain ⟨A,E⟩:=I;obtain ⟨q0,z⟩:=Y τ A E;refine ⟨⟨A,z⟩,λb l U=> ?_⟩;obtain ⟨_,_,_,s,M,S⟩:=R b U;obtain ⟨⟨B,X,_⟩,_⟩:=hl s M;exact h.sep (.a τ) (.a s) ⟨A,z⟩ ⟨B,X⟩ (by rintro ⟨⟩;exact q0 M) b l S
 refine ⟨h.nt,h.df,λt x ht=> ?_,λk cs I=> ?_,λτ A E=> ?_,λs b3 o T c0=>h.sep s b3 (j s o).1 (j b3 T).1 c0, ?_,⟨λb l=>⟨h.bad.1 b l,λU=>hbad b l (R b U).2.1⟩,λb l=>⟨HM (h.bad.2 b l.1).1 hc.size,λs I b5=>(h.bad.2 b l.1).2 s (j s I).1 b5⟩⟩,λs I hd b l=>⟨h.dk s (j s I).1 hd b l,(j s I).2 b l⟩,λk cs I b6=>by obtain ⟨r,z,_⟩:=Z k cs I;exact h.pn k r z b6,h.tn,λs b I l=>h.tp s b (j s I).1 l⟩
 ·have o:(O.tm.lookup t).map (mkV m)=some x:=by rw [<-U4];exact ht
  obtain ⟨x0,z,rfl⟩:=Hf.1 o;exact hV _ _ (h.tm t x0 z)
 ·obtain ⟨r,z,rfl⟩:=Z k cs I;obtain ⟨M,S⟩:=h.bx k r z;have:=(j (.b k) ⟨_,I⟩).2 (e.β k) (by simp [blk]);refine ⟨M, ?_⟩;rw [hc.block _ S.some this];exact S.imp (λW=>hL _ W) λc h0 hc=>by rw [h0];cases c<;>first | rfl| cases hc
 ·obtain ⟨q0,z⟩:=Y τ A E;exact (h.ar τ A z).up u λb l=>hc.block b (h.Yp (κ:=.a τ) ⟨A,z⟩ b l).1 ((j (.a τ) ⟨A,E⟩).2 b l)
 ·refine ⟨h.fr.gl,hc.os.trans h.fr.os,hc.tape.trans h.fr.tape,hc.output.trans h.fr.output,HA h.fr.size hc.size,λb l hN=> ?_,h.fr.new⟩;rw [<-h.fr.block b l hN];exact hc.block b (HM l h.fr.size) λU=>hN (by obtain ⟨_,_,_,τ,M,S⟩:=R b U;obtain ⟨⟨A,E,_⟩,hd⟩:=hl τ M;exact h.tp (.a τ) b ⟨A,E⟩ (.inr ⟨hd,S⟩))
end
def ZCJ (O:St) (τs:List Nat) (m:List (Nat×List (List L))):Prop:= (∀j∈τs,∃A es,O.ar.lookup j=some (some A)/\m.lookup j=some es/\A.es.length=es.length)/\∀p∈m,p.1∈τs
def ZoM (O:St) (d:Nat) (k:Int) (m:List (Nat×List (List L))):St:= ⟨(O.wrote m).nt,(d,.one (.l (.int .i64 k)))::(O.wrote m).tm,(O.wrote m).bx,(O.wrote m).ar⟩
def wOp (P:Program) (ops:Array Oper) (j:List Oper) (O:St) (K:St->Prop) (d f:Nat) (x:V) (k:Int):Option (DV×List Nat×Prop)->Prop
 | some (r,l,p)=>p/\l.Nodup/\d<O.nt/\∃m o,ZyD P f r k m o/\ZCJ O l (Zsu x m)/\Z9 P ops j (ZoM O d o (Zsu x m)) K
 | none=>False
def ZuV (P:Program) (ops:Array Oper) (j:List Oper) (O:St) (K:St->Prop) (d f:Nat):Option (List V)->Prop
 | some [x,.one (.l (.int .i64 k))]=>wOp P ops j O K d f x k (wrV O x)
 | _=>False
def ZuU (P:Program) (ops:Array Oper) (O:St) (K:St->Prop):List Oper->Prop
 | ⟨some d,.call { callee:=.value (.func f),args:=k,argTypes:=_},_,_,_,none⟩::j=>ZuV P ops j O K d f (Xs O k.toList)
 | _=>False
section
variable {e:Env} {O:St} {w:World} {N:Nat->Prop} {w0:Bs} {a:Act} {P:Program} {ops:Array Oper}
theorem Zcq {Q:Exit->Act->World->Prop} {tail:List Oper}:∀{l:List Oper} {O:St} {K:St->Prop},Z9 P ops l O K->∀{a:Act} {w:World},Sim N w0 O a w->(∀O' a' w',K O'->Sim N w0 O' a' w'->wpList P ops Q tail a' w')->wpList P ops Q (l++tail) a w
 | [],O,K,h,a,w,J,U=>U _ _ _ (by simpa [ZeB] using h) J
 | ⟨d,E,I,o,G,gd⟩::t,O,K,h,a,w,⟨e,J⟩,U=>by
  have R:Zp6 P ops ⟨d,E,I,o,G,gd⟩ t O K (XJ E)->∀A:Act->World->Prop,(∀a w,wpList P ops Q (t++tail) a w->A a w)->(Oper.mk d E I o G gd).wp P a w A Q:=by
   intro m A r
   have fin:∀g:Eff,Ev P O ⟨d,E,I,o,G,gd⟩ g->Z9 P ops t (O.app g) K->(Oper.mk d E I o G gd).wp P a w A Q:=
    λg Y C=>Y.sound J λa' w' Z=>r _ _ (Zcq C Z U)
   unfold Zp6 at m
   split at m
   ·rename_i f xs X;unfold ZmT at m
    split at m
    ·rename_i ds pu p hd;obtain ⟨hp,⟨fr,dp,rs,h5,h6,T⟩| ⟨S,g,s,hx,z⟩⟩:=m
     ·unfold ZmS at T
      split at T
      ·rename_i g z;obtain ⟨S,s,hd⟩:=Hq.1 hd;exact fin g (.call f xs S ds pu p fr dp rs g X s hd hp h5 h6 z) T.2
      ·exact T.elim
     ·exact fin g (.ZaK f xs S g X s hx) z
    ·obtain ⟨S,g,s,hx,z⟩:=m;exact fin g (.ZaK f xs S g X s hx) z
   ·unfold Zky at m
    split at m
    ·rename_i g z;exact fin g (.step g z m.1) m.2
    ·obtain ⟨g,z,m⟩:=m;exact fin g (.hand g z) m
  refine wpList_step λA r=> ?_;cases gd with
  | none=>
   rw [Zau] at h;simp;exact R h A r
  | some g=>
   obtain ⟨j,k⟩:=g;rw [Zav] at h;unfold Vu at h
   split at h
   ·rename_i b hy;have M:=ZfD J hy
    by_cases W:b=k
    ·have:Region.wanted (Oper.mk d E I o G (some (j,k))) (yielded ops a.tmps)=true:=by
      show (yielded ops a.tmps j==some k)=true;rw [M];simp [W]
     rw [if_pos this];exact R (h.1 W) A r
    ·have:Region.wanted (Oper.mk d E I o G (some (j,k))) (yielded ops a.tmps)=false:=by
      show (yielded ops a.tmps j==some k)=false;rw [M];simp [W]
     rw [if_neg (by simp [this])];exact r _ _ (Zcq (h.2 (by cases b<;>cases k<;>simp_all)) ⟨e,J.kill d⟩ U)
   ·exact h.elim
theorem Zr3.rp {d:DV} {v:Value} {F:List Nat} (h:Zr3 N w d v F):Zad w d v F:=by
 cases d with
 | one x=>exact Ow.rp h
 | agg m=>obtain ⟨l,j,k⟩:=h;exact ⟨l,j,k.rp⟩
theorem Zr3.blocks {d:DV} {v:Value} {F:List Nat} (h:Zr3 N w d v F):∀b∈F,XT w b:=by
 cases d with
 | one x=>exact λb j=>(Ow.blocks h b j).2
 | agg o=>obtain ⟨m,l,k⟩:=h;exact λb j=>(k.blocks b j).2
theorem ZjR {o:Operand} {r:List Operand} {vs:List V} (h:Xs O (o::r)=some vs):∃v j,opd O o=some v/\Xs O r=some j/\vs=v::j:=by
 simp only [Xs] at h
 split at h
 ·rename_i v j k l;exact ⟨v,j,k,l,(ZEI h).symm⟩
 ·cases h
theorem Zvk {l:List Operand} {x y:V} (h:Xs O l=some [x,y]):∃o1 k,l=[o1,k]/\opd O o1=some x/\opd O k=some y:=by
 cases l with
 | nil=>simp [Xs] at h
 | cons o1 r=>
  obtain ⟨v,j,o,m,p⟩:=ZjR h;obtain ⟨rfl,rfl⟩:=List.cons.inj p;cases r with
  | nil=>simp [Xs] at m
  | cons k r=>
   obtain ⟨v,j,s,t,z⟩:=ZjR m;obtain ⟨rfl,rfl⟩:=List.cons.inj z;cases r with
   | nil=>exact ⟨o1,k,rfl,o,s⟩
   | cons C r=>
    obtain ⟨v,j,_,_,A⟩:=ZjR t;cases A
theorem ZoS (hbad:∀b,w0.bad b->¬N b) {Q:Exit->Act->World->Prop} {l:List Oper} {K:St->Prop} (E:ZuU P ops O K l) (hs:Sim N w0 O a w) (hQ:∀O' a' w',K O'->Sim N w0 O' a' w'->Q .normal a' w'):wpList P ops Q l a w:=by
 obtain ⟨e,h⟩:=hs;unfold ZuU at E
 split at E
 ·rename_i d f xs ts ty c0 af c6;unfold ZuV at E
  split at E
  ·rename_i x k b1;unfold wOp at E
   split at E
   ·rename_i dv Y p j;obtain ⟨hp,b7,hd,d',k',hM,⟨c1,c2⟩,W⟩:=E;obtain ⟨o1,o2,b9,b0⟩:=Zvk b1;have R:=ZG h b0.1;have r2:=ZG h b0.2;obtain ⟨F2,r2,_⟩:=r2;simp only [Rp] at r2;obtain ⟨hk,_,c5⟩:=r2
    have r:Zr3 N w dv (a.eval o1) (Y.flatMap e.φ)/\(∀m∈Y,(∃A,O.ar.lookup m=some (some A)/\A.fr=true)/\1000000<=m):=by
     cases x with
     | one c=>
      simp only [wrV] at j;obtain ⟨⟨y,X,p'⟩,C,o⟩:=Hf.1 j;simp only [ZEL] at o;obtain ⟨rfl,rfl,rfl⟩:=o;obtain ⟨Z,J,_⟩:=ZoO h R C hp;exact ⟨Z,J⟩
     | agg cs=>
      simp only [wrV] at j;obtain ⟨⟨y,X,p'⟩,C,o⟩:=Hf.1 j;simp only [ZEL] at o;obtain ⟨rfl,rfl,rfl⟩:=o;obtain ⟨vs,hv,R⟩:=R;obtain ⟨Z,J,_⟩:=ZoN h R C hp;exact ⟨⟨vs,hv,Z⟩,J⟩
     | tup ps=>simp [wrV] at j
     | dead=>simp [wrV] at j
    obtain ⟨t,T⟩:=hM
    have b2:(execOp a.eval ⟨some d,.call { callee:=.value (.func f),args:=xs,argTypes:=ts},ty,c0,af,none⟩).run P w= .ok (.enter f #[a.eval o1,a.eval o2]) w:=by
     unfold Y9 at t
     split at t
     ·rename_i fn b5;simp only [ZEM,bne_iff_ne,ne_eq] at t;obtain ⟨c,hb⟩:∃c,fn.body=some c:=Hk.1 t.2;have S:xs.map a.eval= #[a.eval o1,a.eval o2]:=by rw [<-HJ];simp [b9]
      rw [<-S];simp [execOp,resolve,Act.eval,Deferred.ofValue,invoke,callFunc,b5,t.1,hb]
     ·cases t
    refine wpList_step λK' b3=> ?_;simp;unfold Oper.wp;rw [b2,Oper.upon_enter];rw [hk];refine (T w _ _ r.1.rp (Ji h (λm z=>(r.2 m z).1) b7) r.1.blocks).mono λen w' hR=> ?_;obtain ⟨rfl,b6,s,b4⟩:=hR;simp only
    have U:∀(m:Nat) (es:List (List L)),(m,es)∈Zsu x d'->∃G,Rp w' (.sl es) (e.ρ m) G/\∀b∈G,b∈Y.flatMap e.φ:=by
     intro m es M;cases x with
     | one c=>
      cases d' with
      | one y=>
       simp only [Zsu] at M;obtain ⟨i,n,C,o⟩:=Zmo M;cases i with
       | zero=>
        simp at C o;subst C o;simp only [wrV] at j;obtain ⟨⟨y,X,p'⟩,C,o⟩:=Hf.1 j;simp only [ZEL] at o;obtain ⟨rfl,rfl,rfl⟩:=o;have c3:CV.rel e O w (.own m n) (a.eval o1):=R;obtain ⟨_,_,g3⟩:=ZoO h c3 C hp;rw [<-g3 m n rfl];exact ⟨_,s,λb hb=>hb⟩
       | succ i=>simp at C
      | agg ys=>simp [Zsu] at M
     | agg cs=>
      cases d' with
      | one y=>simp [Zsu] at M
      | agg ys=>
       simp only [Zsu] at M;obtain ⟨i,n,C,o⟩:=Zmo M;simp only [wrV] at j;obtain ⟨⟨y,X,p'⟩,q1,q2⟩:=Hf.1 j;simp only [ZEL] at q2;obtain ⟨rfl,rfl,rfl⟩:=q2;obtain ⟨vs,hv,R⟩:=R;obtain ⟨_,_,g3⟩:=ZoN h R q1 hp;obtain ⟨c4,I,s⟩:=s;rw [hv] at I;injection I with I
       have b8:vs=c4:=by simpa using congrArg Array.toList I
       subst b8;obtain ⟨v,G,j1,j2,j3⟩:=s.at o;rw [<-g3 i m n v C j1];exact ⟨G,j2,j3⟩
     | tup ps=>cases d'<;>simp [Zsu] at M
     | dead=>cases d'<;>simp [Zsu] at M
    have h':=h.wrote hbad r.2 b4 (λm es he=>U m es (ZhS he)) (λm z=>by obtain ⟨A,es,_,J,_⟩:=c1 m z;rw [J];rfl) (λm es he=>by
     have z:=c2 _ (ZhS he);refine ⟨z,λA hA=> ?_⟩;obtain ⟨B,c7,Z,J,g3⟩:=c1 m z;rw [hA] at Z;obtain rfl:=ZEI (ZEI Z);rw [he] at J;obtain rfl:=ZEI J;exact g3)
    have o:=h'.put (d:=d) (x:=.one (.l (.int .i64 k'))) (v:=.int .i64 k') hd ⟨[],by simp [Rp,b6],Ha⟩;exact b3 _ _ (JO W ⟨_,o⟩ hQ)
   ·exact E.elim
  ·exact E.elim
 ·exact E.elim
theorem Ju {Q:Exit->St->Prop} (hbad:Bok N w0) {id:Nat} {l:List Oper} (n:Nat) (h:Z9 P l.toArray (l.take n) O (λm=>ZuU P l.toArray m (λO'=>Q .normal O') (l.drop n))):AW P N w0 (.region id l.toArray false) Q O:=λa w p=>by
 refine wp_region_lit ?_;have:=Zcq (Q:=λe a w=>∃O',Q e O'/\Sim N w0 O' a w) (tail:=l.drop n) h p λO' o w' j k=>ZoS hbad.1 j k λO' o w' j k=>⟨O',j,k⟩
 rwa [Hn] at this
end
def ZBG (j:List L):Option (List L×Bool×Prop)->Prop
 | some (l,k,p)=>p/\k=true/\l=j
 | none=>False
def ZzD (O:St) (k:Nat) (j:List L):Prop:=ZBG j ((O.bx.lookup k).bind (Zm6 O))
def ZAR (P:Program) (m:Array ResultVar) (fr:Bool) (l:List DV) (nt k:Nat) (j:List L) (O:St):Prop:=O.nt=nt/\Zph P m fr l O/\ZzD O k j
def ZAf (P:Program) (m:Array ResultVar) (fr:Bool) (l:List DV) (nt k:Nat) (j:List L):Exit->St->Prop
 | .normal,O=>ZAR P m fr l nt k j O
 | .ret,O=>ZAR P m fr l nt k j O
 | _,_=>False
def ZzC (P:Program) (j:Array ResultVar) (cs:List L) (O:St):Prop:=
 match ZgE P O j.toList with
 | some [.one (.box k 0)]=>ZzD O k cs
 | _=>False
def ZCg (P:Program) (j:Array ResultVar) (cs:List L):Exit->St->Prop
 | .normal,O=>ZzC P j cs O
 | .ret,O=>ZzC P j cs O
 | _,_=>False
section
variable {e:Env} {O:St} {w:World} {N:Nat->Prop} {w0:Bs} {a:Act} {P:Program}
theorem Zrq {c:CV} {v:Value} (h:c.rel e O w v) {x:L} {f:Bool} {τs:List Nat} {p:Prop} (j:ZsA O c=some (x,f,τs,p)) (hp:p) (hf:f=true) {b:Nat} (l:v.ownBlock=some b):Mut e O b:=by
 unfold ZsA at j
 split at j
 ·simp only [ZEK,ZEL] at j;obtain ⟨rfl,rfl,rfl,rfl⟩:=j;obtain ⟨F,m,z⟩:=h;rename_i x;cases x with
  | sl es=>simp [L.flat] at hf
  | void=>simp [L.flat] at hf
  | _=>simp only [Rp] at m;rw [m.1] at l;simp [Value.ownBlock] at l
 ·have o:=h;rw [o] at l;simp [Value.ownBlock] at l
 ·rename_i s n
  split at j
  ·rename_i A r
   split at j
   ·simp only [ZEK,ZEL] at j;obtain ⟨rfl,rfl,rfl,rfl⟩:=j;obtain ⟨t,k,m,_⟩:=h;rw [r] at k;obtain rfl:=ZEI k;have o:=(m A rfl).2 hp;subst o;exact .inr (.inr ⟨s,A,r,l⟩)
   ·cases j
  ·cases j
 ·cases j
theorem Zro:∀{cs:List CV} {vs:List Value},Yn e O w cs vs->∀{xs:List L} {f:Bool} {τs:List Nat} {p:Prop},Zk1 O cs=some (xs,f,τs,p)->p->f=true->∀v∈vs,∀b,v.ownBlock=some b->Mut e O b
 | [],vs,k,xs,f,τs,p,j,hp,hf=>by simp only [Yn] at k;simp [k]
 | c::cs,vs,k,xs,f,τs,p,j,hp,hf=>by
  simp only [Yn] at k;obtain ⟨v,z,rfl,s,t⟩:=k;simp only [Zk1] at j
  split at j
  ·rename_i o r;simp only [ZEK,ZEL] at j;obtain ⟨_,rfl,_,rfl⟩:=j;simp only [ZEM] at hf;intro u l b m;rcases Hc.1 l with rfl| l
   ·exact Zrq s o hp.1 hf.1 m
   ·exact Zro t r hp.2 hf.2 u l b m
  ·cases j
theorem Zv6 {x:V} {v:Value} (l:x.rel e O w v) {d:DV} {f:Bool} {τs:List Nat} {p:Prop} (j:Zsz O x=some (d,f,τs,p)) (hp:p) (hf:f=true):∀u∈Jl v,∀b,u.ownBlock=some b->Mut e O b:=by
 cases x with
 | one c=>
  simp only [Zsz] at j;obtain ⟨⟨y,z,t,C⟩,o,k⟩:=Hf.1 j;simp only [ZEL] at k;obtain ⟨_,rfl,_,rfl⟩:=k;intro u m b r
  have A:Jl v=[v]:=by
   have s:c.rel e O w v:=l;cases v<;>first | rfl| (have:=s.cells.2;simp [Value.oneCell'] at this)
  rw [A] at m;obtain rfl:=Hu.1 m;exact Zrq l o hp hf r
 | agg cs=>
  simp only [Zsz] at j;obtain ⟨⟨y,z,t,C⟩,o,k⟩:=Hf.1 j;simp only [ZEL] at k;obtain ⟨_,rfl,_,rfl⟩:=k;obtain ⟨G,rfl,l⟩:=l;intro u m b r;exact Zro l o hp hf u (by simpa [Jl] using m) b r
 | tup E=>simp [Zsz] at j
 | dead=>simp [Zsz] at j
theorem ZoG:∀{vs:List V} {us:List Value},J3 e O w vs us->∀{l:List DV} {f:Bool} {τs:List Nat} {p:Prop},Zk0 O vs=some (l,f,τs,p)->p->f=true->∀u∈us,∀v∈Jl u,∀b,v.ownBlock=some b->Mut e O b
 | [],us,k,l,f,τs,p,j,hp,hf=>by simp only [J3] at k;simp [k]
 | x::vs,us,k,l,f,τs,p,j,hp,hf=>by
  simp only [J3] at k;obtain ⟨u,C,rfl,z,A⟩:=k;simp only [Zk0] at j
  split at j
  ·rename_i s t;simp only [ZEK,ZEL] at j;obtain ⟨_,rfl,_,rfl⟩:=j;simp only [ZEM] at hf;intro y m v r b o;rcases Hc.1 m with rfl| m
   ·exact Zv6 z s hp.1 hf.1 v r b o
   ·exact ZoG A t hp.2 hf.2 y m v r b o
  ·cases j
theorem Zyi:∀{cs:List CV} {x:List L×Bool×Prop},Zm6 O cs=some x->U3 cs=true
 | [],_,_=>rfl
 | [c],_,h=>by cases c<;>first | rfl| (simp [Zm6,ZpO] at h)
 | _::_::_,_,_=>rfl
theorem ZqG (h:ZJ N w0 e O a w) {k:Nat} {m:List L} (ho:ZzD O k m):∃cells cur ty FS,O.bx.lookup k=some cells/\N (e.β k)/\w.heap[e.β k]? =some (.cells cur ty (0,0))/\RpL w m cur.toList FS/\∀x∈FS,¬Mut e O x:=by
 unfold ZzD ZBG at ho
 split at ho
 ·rename_i C A p hq;obtain ⟨hp,j,rfl⟩:=ho;obtain ⟨cells,l,hd⟩:=Hq.1 hq;obtain ⟨s,cur,ty,t,z⟩:=h.bxC l (Zyi hd);obtain ⟨FS,o,r⟩:=ZmL h z hd hp;exact ⟨cells,cur,ty,FS,l,s,t,o,r j⟩
 ·exact ho.elim
def ZDv (N:Nat->Prop) (v:Value):Prop:=∀(w:World) (es:List (List L)) (F:List Nat),Ue es=true->Rp w (.sl es) v F->∃j,Rp w (.sl es) v j/\∀b∈j,¬N b/\b∈F
theorem ZyJ {c:Code} {Q j:Exit->St->Prop} (m:∀e O,Q e O->j e O) (h:AW P N w0 c Q O):AW P N w0 c j O:=λa w o=>Code.wp_mono (λ_ _ _ ⟨O',k,l⟩=>⟨O',m _ _ k,l⟩) (h a w o)
theorem Zxz {N:Nat->Prop} {w:World} {cs:List L} {vs:List Value} {F:List Nat} (h:RpL w cs vs F) {i:Nat} {k:List (List L)} (hi:cs[i]? =some (.sl k)) (Z:∀b∈F,¬N b):ZDv N (vs.getD i undef):=by
 obtain ⟨v,G,W,z,X⟩:=h.at hi;have hv:vs.getD i undef=v:=by simp [List.getD,W]
 rw [hv];intro w2 es F2 l hR;simp only [Rp] at z hR;obtain ⟨A,c,rfl,g1,g2,U⟩:=z;obtain ⟨J,T,m,r,s,k3⟩:=hR;obtain ⟨rfl,j,rfl⟩:A=J/\k.length=es.length/\c=T:=by simpa using m
 rw [j];rcases k3 with ⟨rfl,rfl⟩| ⟨b,t,xs,M,rfl,q1,rfl,q2,I⟩
 ·exact ⟨[],by simp only [Rp];exact ⟨_,_,rfl,r,s,.inl ⟨trivial,trivial⟩⟩,Ha⟩
 ·by_cases C:es=[]
  ·subst C;exact ⟨[],by simp only [Rp];exact ⟨_,_,rfl,r,s,.inl ⟨trivial,trivial⟩⟩,Ha⟩
  ·have Y:M=[]:=(I.flat (N:=N) l).1;subst Y;refine ⟨[b],by simp only [Rp];exact ⟨_,_,rfl,r,s,.inr ⟨b,t,xs,[],rfl,q1,rfl,q2,I⟩⟩,λx p=>⟨?_,p⟩⟩;simp only [Hu] at p;subst p;rcases U with ⟨rfl,_⟩| ⟨S,E,b1,R,hb,_,rfl,_⟩
   ·exact absurd (HI j.symm) C
   ·have:x=S:=by simpa using congrArg (λo=>o.map (·.block)) hb
    exact Z x (X x (by simp [this]))
theorem ZmW.XZ {f:Nat} {fn:Func} {c:Code} {nt:Nat} {rv:Array ResultVar} (g5:Y9 P f=true) (hf:P.funcs[f]? =some fn) (hb:fn.body=some c) (g4:fn.ntmps=nt) (g7:fn.results=rv) {d1 d2:List DV} {cs ls:List L} {fr:Bool} {rs:List DV} (h8:d1.length+1+d2.length<=nt)
  (X:List Value->List Value->Prop) (c0:(Nat->Value)->List CV) (E:(Nat->Value)->St->Prop)
  (h0:∀(f0:Nat->Value) (e:Env) (O:St) (w:World) (vs:List Value) (F:List Nat),RpL w cs vs F->(∀b∈F,¬Mut e O b)->(∀i,f0 i=vs.getD i undef)->Yn e O w (c0 f0) vs)
  (hX:∀(f0:Nat->Value) (e:Env) (O:St) (w:World) (cells:List CV) (vs us:List Value),E f0 O->O.bx.lookup (nt+d1.length)=some cells->Yn e O w cells us->vs.length=cs.length->us.length=ls.length->(∀i,f0 i=vs.getD i undef)->X vs us)
  (h:∀(N:Nat->Prop) (w0:Bs) (f0:Nat->Value),Bok N w0->(∀i es,cs[i]? =some (.sl es)->ZDv N (f0 i))->AW P N w0 c (λex O=>ZAf P rv fr rs nt (nt+d1.length) ls ex O/\E f0 O) ⟨nt,Zft 0 d1++(d1.length,.one (.box (nt+d1.length) 0))::Zft (d1.length+1) d2,[(nt+d1.length,c0 f0)],[]⟩):ZmW P f d1 cs d2 fr rs ls X:=by
 subst g4 g7;refine ⟨g5,λw C T F1 F2 FS b U ty ⟨G,hG,e5⟩ b4 b5 M Y b7=> ?_⟩;refine calls_of_wp hf hb ?_;have l1:=b4.len;have l2:=b5.len;obtain ⟨k,hk⟩:∃k,k=fn.ntmps+d1.length:=⟨_,rfl⟩;rw [<-hk] at h hX
 let f0:Nat->Value:=λi=>U.toList.getD i undef
 let O0:St:=⟨fn.ntmps,Zft 0 d1++(d1.length,.one (.box k 0))::Zft (d1.length+1) d2,[(k,c0 f0)],[]⟩
 let e0:Env:=⟨λ_=>b,λ_=>undef,λ_=>[],λx=>x<w.heap.size/\x∉F1++(F2++FS)/\x≠b⟩
 have h7:=V6 M
 have hm:∀x∈F1++(F2++FS),¬Mut e0 O0 x:=by
  intro x l hm;rcases hm with h0| ⟨_,_,_,I⟩| ⟨_,_,I,_⟩
  ·exact h0.2.1 l
  ·have e4:b=x:=I;exact b7 (e4▸l)
  ·simp [O0] at I
 have e8:∀t x,(Zft 0 d1++(d1.length,.one (.box k 0))::Zft (d1.length+1) d2).lookup t=some x->∃v,(C++.pointer (some ⟨b,0,none⟩)::T)[t]? =some v/\x.rel e0 O0 w v:=by
  intro t x S;rw [lookup_append] at S;cases hq:(Zft 0 d1).lookup t with
  | some y=>
   rw [hq] at S;simp only [Option.some_or,ZEK] at S;subst S;obtain ⟨j,v,rfl,s,g3⟩:=KK (e:=e0) (O:=O0) b4 (λx l=>hm x (by simp [l])) hq;have hj:=(Hh.1 s).1;exact ⟨v,by rw [HH,Gq hj];exact s,g3⟩
  | none=>
   rw [hq] at S;simp only [Option.none_or,lookup_cons] at S
   split at S
   ·rename_i hj;obtain rfl:=ZEI S;subst hj;refine ⟨_,by rw [<-l1,Ge (ZEN _),Gz];rfl,⟨c0 f0,by simp [O0]⟩,rfl⟩
   ·obtain ⟨j,v,rfl,s,g3⟩:=KK (e:=e0) (O:=O0) b5 (λx l=>hm x (by simp [l])) S;refine ⟨v, ?_,g3⟩;rw [Ge WF,show d1.length+1+j-C.length=j+1 from WF]
    simpa using s
 have e1:ZJ (λx=>w.heap.size<=x\/x=b) ⟨w,e0.bad,λ_=>b,λx=>w.heap.size<=x\/x=b⟩ e0 O0 { tmps:=(C++.pointer (some ⟨b,0,none⟩)::T).toArray++Array.replicate (fn.ntmps-(C++.pointer (some ⟨b,0,none⟩)::T).toArray.size) undef,defers:=[]} w:=by
  refine ⟨by simp [O0];omega,rfl,λt x S=> ?_,λj cells hj=> ?_,λτ A W=>by simp [O0] at W,λJ h6 hl e7 g0=> ?_,⟨⟨G,hG,λx g=>by rintro (q| rfl);exact absurd (hG.1 x g) WF;exact e5 g⟩,rfl,rfl,rfl,ZEN _,λ_ _ _=>rfl,λb hb=>.inl hb⟩,⟨λ_ h=>h,λx l=>⟨l.1,λJ hl h3=> ?_⟩⟩,λJ _ hd=> ?_,λj cells hj _=>rfl,λ_ h=>h,λJ x hl l=> ?_⟩
  ·obtain ⟨v,s,g3⟩:=e8 t x S;have hj:=(Hh.1 s).1
   have:((C++.pointer (some ⟨b,0,none⟩)::T).toArray++Array.replicate (fn.ntmps-(C++.pointer (some ⟨b,0,none⟩)::T).toArray.size) undef).getD t undef=v:=by
    rw [HQ,GE (by simpa using hj)];simp only [List.getElem?_toArray,s,Option.getD_some]
   rw [this];exact g3
  ·have e6:j=k/\cells=c0 f0:=by
    simp only [O0,lookup_cons] at hj
    split at hj
    ·exact ⟨by assumption,(ZEI hj).symm⟩
    ·simp at hj
   obtain ⟨rfl,rfl⟩:=e6;exact ⟨.inr rfl,.inl ⟨U,ty,M,h0 f0 _ _ _ _ _ Y (λx l=>hm x (by simp [l])) λ_=>rfl⟩⟩
  ·have e2:∀J,live O0 J->J= .b k:=by
    intro J hl;cases J with
    | b j=>
     obtain ⟨cells,hj⟩:=hl;simp only [O0,lookup_cons] at hj
     split at hj
     ·rename_i h;rw [h]
     ·simp at hj
    | a τ=>obtain ⟨A,W⟩:=hl;simp [O0] at W
   exact absurd ((e2 J hl).trans (e2 h6 e7).symm) g0
  ·cases J with
   | b j=>
    have I:x=b:=by simpa [blk] using h3
    exact absurd I l.2.2
   | a τ=>obtain ⟨A,W⟩:=hl;simp [O0] at W
  ·cases J with
   | b k=>exact hd.elim
   | a τ=>intro b hb;cases hb
  ·cases J with
   | b k=>exact .inr l
   | a τ=>obtain ⟨A,W⟩:=hl;simp [O0] at W
 refine Code.wp_mono (λex a' w' hq=> ?_) (h (λx=>w.heap.size<=x\/x=b) ⟨w,e0.bad,λ_=>b,λx=>w.heap.size<=x\/x=b⟩ f0 ⟨λx l R=>by
  rcases R with R| R
  ·have:=l.1;omega
  ·exact l.2.2 R,λ_ h=>h⟩ (λi es hi=>Zxz Y hi λx l R=>by
  have I:=Y.lt x l;rcases R with R| R
  ·omega
  ·exact b7 (by simp [<-R,l])) _ _ ⟨e0,e1⟩)
 obtain ⟨O',I,e',o⟩:=hq
 have fin:ZAR P fn.results fr rs fn.ntmps k ls O'->E f0 O'->a'.defers=[]/\∃v,(results fn a'.tmps).run P w'= .ok v w'/\∃us m Z z,Ending.returned v= .returned (Zpc us)/\w'.heap[b]? =some (.cells m Z (0,0))/\RpL w' ls m.toList z/\
   (∀x∈z,x≠b/\(x∈F1++(F2++FS)\/w.heap.size<=x))/\Zxm fr w w' b (F1++(F2++FS)) z rs us/\But b w w'/\X U.toList m.toList:=by
  intro ⟨R,ho,hc⟩ hE;obtain ⟨cells,m,Z,z,c1,c5,c2,c3,c4⟩:=ZqG o hc;have c7:=(o.bx k cells c1).2.rel c2;have b6:=hX f0 _ _ _ cells U.toList m.toList hE c1 c7 Y.len c3.len λ_=>rfl;have b3:e'.β k=b:=o.pn k cells c1 (by rw [R,hk];omega);rw [b3] at c2;have b8:Mut e' O' b:=.inr (.inl ⟨k,cells,c1,b3⟩);have b1:But b w w':=⟨o.fr.os,o.fr.tape,o.fr.output,o.fr.size,λx l g9=>o.fr.block x l (by intro g;rcases g with g| g;omega;exact g9 g)⟩
  have c9:∀x,¬Mut e' O' x->x≠b/\(x∈F1++(F2++FS)\/w.heap.size<=x):=by
   intro x l;refine ⟨λg=>l (g▸b8), ?_⟩
   by_cases g1:w.heap.size<=x
   ·exact .inr g1
   ·by_cases s:x∈F1++(F2++FS)
    ·exact .inl s
    ·exact absurd (.inl (o.bad.1 x ⟨WF,s,λg=>l (g▸b8)⟩)) l
  have b0:=λx l=>c9 x (c4 x l);unfold Zph at ho;cases fr
  ·simp only [ZEO,if_false] at ho;cases hq:(ZgE P O' fn.results.toList).bind (Vs O') with
   | none=>rw [hq] at ho;exact ho.elim
   | some r=>
    obtain ⟨e3,pu,p⟩:=r;rw [hq] at ho;obtain ⟨hp,g6,rfl⟩:=ho;obtain ⟨h5,b2,hd⟩:=Hq.1 hq;obtain ⟨us,k1,k2⟩:=U1 (P:=P) o b2;obtain ⟨F,g1,s⟩:=Zfy o k2 hd hp;refine ⟨o.df,_,k1,us,m,Z,z,rfl,c2,c3,b0, ?_,b1,b6⟩;simp only [Zxm,ZEO,if_false];exact ⟨F,g1,λx l=>c9 x (s g6 x l)⟩
  ·simp only [if_true] at ho;cases hq:(ZgE P O' fn.results.toList).bind (Zk0 O') with
   | none=>rw [hq] at ho;exact ho.elim
   | some r=>
    obtain ⟨e3,f',h9,p⟩:=r;rw [hq] at ho;obtain ⟨hp,c8,e9,rfl⟩:=ho;obtain ⟨h5,b2,hd⟩:=Hq.1 hq;obtain ⟨us,k1,k2⟩:=U1 (P:=P) o b2;obtain ⟨g1,s⟩:=Zkx o k2 hd hp c8;refine ⟨o.df,_,k1,us,m,Z,z,rfl,c2,c3,b0, ?_,b1,b6⟩;simp only [Zxm,if_true];refine ⟨_,g1,Ji o s e9,λb9=> ?_,λu hu v hv x l g8=>c4 x g8 (ZoG k2 hd hp c8 u hu v hv x l)⟩;obtain ⟨τ,h4,c6⟩:=GH.1 b9;obtain ⟨A,W,_⟩:=s τ h4;exact o.sep (.b k) (.a τ) ⟨cells,c1⟩ ⟨A,W⟩ Ha b (by simp [blk,b3]) c6
 cases ex with
 | normal=>exact fin I.1 I.2
 | ret=>exact fin I.1 I.2
 | _=>exact I.1.elim
theorem ZeC.XZ {f:Nat} {fn:Func} {c:Code} {nt:Nat} {s:Array ResultVar} (m:Y9 P f=true) (hf:P.funcs[f]? =some fn) (j:fn.body=some c) (l:fn.ntmps=nt) (o:fn.results=s) {d1 d2:List DV} {cs p:List L} {fr:Bool} {r:List DV} (k:d1.length+1+d2.length<=nt)
  (h:∀N w0,Bok N w0->AW P N w0 c (ZAf P s fr r nt (nt+d1.length) p) ⟨nt,Zft 0 d1++(d1.length,.one (.box (nt+d1.length) 0))::Zft (d1.length+1) d2,[(nt+d1.length,cs.map .l)],[]⟩):ZeC P f d1 cs d2 fr r p:=
 ZmW.ZDx (ZmW.XZ m hf j l o k (λ_ _=>True) (λ_=>cs.map .l) (λ_ _=>True) (λ_ _ _ _ _ _ hR t _=>WL hR t) (λ_ _ _ _ _ _ _ _ _ _ _ _ _=>trivial) λN w0 _ j _=>ZyJ (λ_ _ g=>⟨g,trivial⟩) (h N w0 j))
def Zvz (f0:Nat->Value):Nat->List L->List CV->Prop
 | _,[],_=>True
 | i,.sl _::j,.kept v _::cs=>v=f0 i/\Zvz f0 (i+1) j cs
 | _,.sl _::_,_=>False
 | i,_::j,cs=>Zvz f0 (i+1) j (cs.drop 1)
def ZB8 (f0:Nat->Value) (k:Nat) (j:List L) (O:St):Prop:=match O.bx.lookup k with | some cs=>Zvz f0 0 j cs| none=>False
theorem Zwb.XZ {f:Nat} {fn:Func} {c:Code} {nt:Nat} {rv:Array ResultVar} (S:Y9 P f=true) (hf:P.funcs[f]? =some fn) (m:fn.body=some c) (R:fn.ntmps=nt) (T:fn.results=rv) {z:List DV} {cs:List L} (b1:z.length<=nt)
  (h:∀N w0,Bok N w0->AW P N w0 c (ZCg P rv cs) ⟨nt,Zft 0 z,[],[]⟩):Zwb P f z cs:=by
 subst R T;refine ⟨S,λw J M ⟨G,Z⟩ E=> ?_⟩;refine calls_of_wp hf m ?_;have b0:=E.len
 let A:Env:=⟨λ_=>0,λ_=>undef,λ_=>[],λb=>b<w.heap.size/\b∉M⟩
 have I:ZJ (w.heap.size<= ·) ⟨w,A.bad,λ_=>0,(w.heap.size<= ·)⟩ A ⟨fn.ntmps,Zft 0 z,[],[]⟩ { tmps:=J.toArray++Array.replicate (fn.ntmps-J.toArray.size) undef,defers:=[]} w:=by
  refine ⟨by simp;omega,rfl,λt x ht=> ?_,Ha,Ha,λs b3 hl=> ?_,⟨⟨G,Z,λb g=>by have:=Z.1 b g;omega⟩,rfl,rfl,rfl,ZEN _,λ_ _ _=>rfl,λb m=>m⟩,⟨λ_ h=>h,λb m=>⟨m.1,λs hl=> ?_⟩⟩,λs _ hd=> ?_,λk cs hk=>by simp at hk,λ_ h=>h,λs b hl _=>by cases s<;>obtain ⟨_,l⟩:=hl<;>simp at l⟩
  ·obtain ⟨j,v,rfl,C,g3⟩:=KK (e:=A) (O:=⟨fn.ntmps,Zft 0 z,[],[]⟩) E (λb m hm=>by
    rcases hm with h0| ⟨_,_,l,_⟩| ⟨_,_,l,_⟩
    ·exact h0.2 m
    ·simp at l
    ·simp at l) ht
   have hj:=(Hh.1 C).1
   have:(J.toArray++Array.replicate (fn.ntmps-J.toArray.size) undef).getD (0+j) undef=v:=by
    rw [HQ,HH,GE (by simpa using hj)];simp [C]
   rw [this];exact g3
  ·cases s with
   | b k=>obtain ⟨_,l⟩:=hl;simp at l
   | a τ=>obtain ⟨_,l⟩:=hl;simp at l
  ·cases s with
   | b k=>obtain ⟨_,l⟩:=hl;simp at l
   | a τ=>obtain ⟨_,l⟩:=hl;simp at l
  ·cases s with
   | b k=>exact hd.elim
   | a τ=>intro b m;cases m
 refine Code.wp_mono (λex X w' hq=> ?_) (h (w.heap.size<= ·) ⟨w,A.bad,λ_=>0,(w.heap.size<= ·)⟩ ⟨λb m hn=>by have:=m.1;have:w.heap.size<=b:=hn;omega,λ_ h=>h⟩ _ _ ⟨A,I⟩);obtain ⟨O',l,e',p⟩:=hq
 have fin:ZzC P fn.results cs O'->X.defers=[]/\∃v,(results fn X.tmps).run P w'= .ok v w'/\∃b o W FS,Ending.returned v= .returned (.pointer (some ⟨b,0,none⟩))/\w.heap.size<=b/\w'.heap[b]? =some (.cells o W (0,0))/\RpL w' cs o.toList FS/\(∀x∈FS,x≠b/\(x∈M\/w.heap.size<=x))/\Below w.heap.size w w':=by
  intro ho;have r:Below w.heap.size w w':=⟨p.fr.os,p.fr.tape,p.fr.output,p.fr.size,λb m=>p.fr.block b m WF⟩;unfold ZzC at ho
  split at ho
  ·rename_i k U;obtain ⟨us,k1,k2⟩:=U1 p U;simp only [J3] at k2;obtain ⟨u,b2,rfl,k3,rfl⟩:=k2;obtain ⟨cells,o,W,FS,c1,c2,c3,c4,Y⟩:=ZqG p ho;have hv:=k3.2;subst hv;refine ⟨p.df,_,k1,e'.β k,o,W,FS,rfl,c2,c3,c4,λx hx=>⟨λg=>Y x hx (.inr (.inl ⟨k,cells,c1,g.symm⟩)), ?_⟩,r⟩
   by_cases g1:w.heap.size<=x
   ·exact .inr g1
   ·by_cases C:x∈M
    ·exact .inl C
    ·exact absurd (.inl (p.bad.1 x ⟨WF,C⟩)) (Y x hx)
  ·exact ho.elim
 cases ex with
 | normal=>exact fin l
 | ret=>exact fin l
 | _=>exact l.elim
end
def ZaI (O' O:St):Prop:=∀(N:Nat->Prop) (w0:Bs) (a:Act) (w:World),Sim N w0 O a w->Sim N w0 O' a w
def cle (O' O:St):CV->CV->Prop
 | .l (.sl es),.own l n=>match O.ar.lookup l with
  | some (some A)=>A.es=es/\A.es.length=n/\l<1000000/\O'.ar.lookup l=none
  | _=>False
 | .l x,.nil=>x= .sl []
 | .l x,.l y=>x=y
 | .nil,.nil=>True
 | .np,.np=>True
 | .any,.any=>True
 | .kept v' R,.kept v x=>v'=v/\R=x
 | .l R,.kept _ x=>R=x
 | .own l n,.nil=>n=0/\O.ar.lookup l=none/\∃f,O'.ar.lookup l=some (some ⟨f,[]⟩)
 | .own l n,.own r C=>l=r/\n=C/\(O'.ar.lookup l).isSome=true
 | .box k o,.box Y o'=>k=Y/\o=o'/\(O'.bx.lookup k).isSome=true
 | .adr x,.adr y=>x=y
 | .elt l n i W t,.elt r C U z s=>l=r/\n=C/\i=U/\W=z/\t=s/\(O'.ar.lookup l).isSome=true
 | .nst l j W t m,.nst r G z s J=>l=r/\j=G/\W=z/\t=s/\m=J/\(O'.ar.lookup l).isSome=true
 | .nel l j W t m,.nel r G z s J=>l=r/\j=G/\W=z/\t=s/\m=J/\(O'.ar.lookup l).isSome=true
 | .clo f S,.clo g X=>f=g/\S=X/\∀k∈S,(O'.bx.lookup k).isSome=true
 | .nf,.nf=>True
 | .mp k,.mp j=>k=j/\(O'.bx.lookup k).isSome=true
 | .mc x,.mc y=>x=y
 | .mpt M,.mpt L=>M=L/\∀p∈M,(O'.bx.lookup p.2).isSome=true
 | .vw l n Z T W,.vw r C I E z=>l=r/\n=C/\Z=I/\T=E/\W=z/\(O'.ar.lookup l).isSome=true
 | _,_=>False
def Zd7 (O' O:St):List CV->List CV->Prop
 | [],[]=>True
 | c::cs,d::j=>cle O' O c d/\Zd7 O' O cs j
 | _,_=>False
def Zxq (O' O:St):List (Bool×List CV)->List (Bool×List CV)->Prop
 | [],[]=>True
 | p::j,q::qs=>p.1=q.1/\Zd7 O' O p.2 q.2/\Zxq O' O j qs
 | _,_=>False
def vle (O' O:St):V->V->Prop
 | .dead,.dead=>True
 | .one c,.one d=>cle O' O c d
 | .agg cs,.agg j=>Zd7 O' O cs j
 | .tup k,.tup qs=>Zxq O' O k qs
 | _,_=>False
def ZyN (O' O:St):List (Nat×V)->Prop
 | []=>True
 | (t,v)::r=>(match O.tm.lookup t with | some u=>vle O' O v u| none=>False)/\ZyN O' O r
def ZyR (O' O:St):List (Nat×List CV)->Prop
 | []=>True
 | (t,v)::r=>(match O.bx.lookup t with | some u=>Zd7 O' O v u| none=>False)/\ZyR O' O r
def ZyU (O:St):List (Nat×Option Arr)->Prop
 | []=>True
 | (t,A)::r=>(match O.ar.lookup t with | some B=>A=B| none=>∃f,A=some ⟨f,[]⟩)/\ZyU O r
structure Ka (O' O:St):Prop where
 nt:O'.nt=O.nt
 tm:ZyN O' O O'.tm
 bx:ZyR O' O O'.bx
 ar:ZyU O O'.ar
section
variable {e e':Env} {O O':St} {w w':World} {N:Nat->Prop} {w0:Bs} {a:Act} {P:Program}
theorem Zns:∀{l:List (Nat×V)},ZyN O' O l->∀{t:Nat} {v:V},l.lookup t=some v->∃u,O.tm.lookup t=some u/\vle O' O v u
 | [],_,_,_,h=>by simp at h
 | (j,x)::l,hl,t,v,h=>by
  simp only [ZyN] at hl;rw [lookup_cons] at h
  split at h
  ·rename_i hj;subst hj;obtain rfl:=ZEI h;have k:=hl.1
   split at k
   ·rename_i u m;exact ⟨u,m,k⟩
   ·exact k.elim
  ·exact Zns hl.2 h
theorem KW:∀{l:List (Nat×List CV)},ZyR O' O l->∀{t:Nat} {v:List CV},l.lookup t=some v->∃u,O.bx.lookup t=some u/\Zd7 O' O v u
 | [],_,_,_,h=>by simp at h
 | (j,x)::l,hl,t,v,h=>by
  simp only [ZyR] at hl;rw [lookup_cons] at h
  split at h
  ·rename_i hj;subst hj;obtain rfl:=ZEI h;have k:=hl.1
   split at k
   ·rename_i u m;exact ⟨u,m,k⟩
   ·exact k.elim
  ·exact KW hl.2 h
theorem WV:∀{l:List (Nat×Option Arr)},ZyU O l->∀{t:Nat} {A:Option Arr},l.lookup t=some A->O.ar.lookup t=some A\/(O.ar.lookup t=none/\∃f,A=some ⟨f,[]⟩)
 | [],_,_,_,h=>by simp at h
 | (j,x)::l,hl,t,v,h=>by
  simp only [ZyU] at hl;rw [lookup_cons] at h
  split at h
  ·rename_i hj;subst hj;obtain rfl:=ZEI h;have k:=hl.1
   split at k
   ·rename_i u m;subst k;exact .inl m
   ·rename_i m;exact .inr ⟨m,k⟩
  ·exact WV hl.2 h
def ZfB (e:Env) (O:St):Env:=
 ⟨e.β,λj=>match O.ar.lookup j with | none=>.slice none 0 0| some _=>e.ρ j,λj=>match O.ar.lookup j with | none=>[]| some _=>e.φ j,e.bad⟩
theorem Wb {τ:Nat} {A:Option Arr} (h:O.ar.lookup τ=some A):(ZfB e O).ρ τ=e.ρ τ/\(ZfB e O).φ τ=e.φ τ:=by simp [ZfB,h]
theorem JP {τ:Nat} (h:O.ar.lookup τ=none):(ZfB e O).ρ τ= .slice none 0 0/\(ZfB e O).φ τ=[]:=by simp [ZfB,h]
theorem Ka.mut (k:Ka O' O) {b:Nat} (h:Mut (ZfB e O) O' b):Mut e O b:=by
 rcases h with h| ⟨j,cs,o,l⟩| ⟨r,A,o,l⟩
 ·exact .inl h
 ·obtain ⟨u,p,_⟩:=KW k.bx o;exact .inr (.inl ⟨j,u,p,l⟩)
 ·rcases WV k.ar o with m| ⟨m,s⟩
  ·rw [(Wb m).1] at l;exact .inr (.inr ⟨r,A,m,l⟩)
  ·rw [(JP m).1] at l;simp [Value.ownBlock] at l
theorem Ka.freeze (k:Ka O' O) (h:ZJ N w0 e O a w) {τ n:Nat} {A:Arr} (o:O.ar.lookup τ=some (some A)) (hd:τ<1000000) (hn:O'.ar.lookup τ=none) (hl:A.es.length=n) {v:Value} (hr:(CV.own τ n).rel e O w v):
  (CV.l (.sl A.es)).rel (ZfB e O) O' w v:=by
 obtain ⟨I,t,U,_⟩:=hr;rw [o] at t;obtain rfl:=ZEI t;have G:=(U A rfl).2 hl;subst G;obtain ⟨p,c,G,z,C,X| ⟨b,vs,S,W,rfl,Y,h6,Z,E,h9⟩⟩:=h.elems o hd
 ·refine ⟨[], ?_,Ha⟩;rw [G];simp only [Rp];exact ⟨p,c,rfl,z,C,.inl ⟨X,trivial⟩⟩
 ·have J:=(h.Yp (κ:=.a τ) ⟨A,o⟩ b E).1;refine ⟨b::S, ?_, ?_⟩
  ·rw [G];simp only [Rp];exact ⟨_,c,rfl,z,C,.inr ⟨b,0,vs,S,rfl,J,rfl,Y,Z⟩⟩
  ·intro x R T;rcases Hc.1 R with rfl| R
   ·rcases T with hb| ⟨j,cs,r,m⟩| ⟨l,I,r,m⟩
    ·have:1000000<=τ:=(h.bad.2 x hb).2 (.a τ) ⟨A,o⟩ E;omega
    ·obtain ⟨u,hu,_⟩:=KW k.bx r;exact h.sep (.b j) (.a τ) ⟨u,hu⟩ ⟨A,o⟩ Ha x (by simp only [blk,Hu];exact m.symm) E
    ·have M:l≠τ:=λhe=>by rw [he,hn] at r;cases r
     rcases WV k.ar r with s| ⟨s,g4⟩
     ·rw [(Wb s).1] at m;exact h.sep (.a l) (.a τ) ⟨I,s⟩ ⟨A,o⟩ (by simpa using M) x ((h.ar l I s).own m).1 E
     ·rw [(JP s).1] at m;simp [Value.ownBlock] at m
   ·exact h9 x R (k.mut T)
theorem ZvX {d:CV} {cs:List CV} (hd:d.ZAU=true) (h:Zd7 O' O cs [d]):cs=[d]:=by
 cases cs with
 | nil=>simp [Zd7] at h
 | cons c t=>
  simp only [Zd7] at h;cases t with
  | cons _ _=>simp [Zd7] at h
  | nil=>
   have j:=h.1;cases d<;>first | cases hd| skip
   ·cases c<;>simp [cle] at j;rw [j]
   ·cases c<;>simp [cle] at j;rw [j.1]
theorem Ka.rel (k:Ka O' O) (h:ZJ N w0 e O a w) {Z c:CV} {v:Value} (r:c.rel e O w v) (hc:cle O' O Z c):Z.rel (ZfB e O) O' w v:=by
 unfold cle at hc
 split at hc
 ·rename_i es τ n
  split at hc
  ·rename_i A hA;obtain ⟨rfl,s,o,R⟩:=hc;exact k.freeze h hA o R s r
  ·exact hc.elim
 ·subst hc;have T:=r;subst T;refine ⟨[], ?_,Ha⟩;simp only [Rp];exact ⟨none,0,rfl,ZEN _,WF,.inl Ha⟩
 ·subst hc;obtain ⟨F,l,s⟩:=r;exact ⟨F,l,λb J E=>s b J (k.mut E)⟩
 ·exact r
 ·exact r
 ·exact r
 ·obtain ⟨rfl,rfl⟩:=hc;obtain ⟨h0,F,l,s⟩:=r;exact ⟨h0,F,l,λb J E=>s b J (k.mut E)⟩
 ·subst hc;obtain ⟨_,F,l,s⟩:=r;exact ⟨F,l,λb J E=>s b J (k.mut E)⟩
 ·obtain ⟨rfl,s,f,o⟩:=hc;have T:=r;subst T;refine ⟨_,o,λB C=> ?_,none,0,rfl,WF⟩;obtain rfl:=ZEI C;exact ⟨ZEN _,λ_=>(JP s).1.symm⟩
 ·obtain ⟨rfl,rfl,o⟩:=hc;obtain ⟨A,l,s,z⟩:=r;obtain ⟨M,j⟩:=Hk.1 o;rcases WV k.ar j with g| ⟨g,_⟩
  ·rw [l] at g;obtain rfl:=ZEI g;refine ⟨A,j,λB C=> ?_,z⟩;obtain ⟨I,W⟩:=s B C;exact ⟨I,λhl=>(W hl).trans (Wb l).1.symm⟩
  ·rw [l] at g;cases g
 ·obtain ⟨rfl,rfl,o⟩:=hc;obtain ⟨cs,S⟩:=Hk.1 o;exact ⟨⟨cs,S⟩,r.2⟩
 ·subst hc;obtain ⟨b,U,vs,F,l,s,o,R,z,h6⟩:=r;exact ⟨b,U,vs,F,l,s,o,R,λE=>z (k.mut E),λx hx E=>h6 x hx (k.mut E)⟩
 ·obtain ⟨rfl,rfl,rfl,rfl,rfl,o⟩:=hc;obtain ⟨A,l,s,z⟩:=r;obtain ⟨M,j⟩:=Hk.1 o;rcases WV k.ar j with g| ⟨g,_⟩
  ·rw [l] at g;obtain rfl:=ZEI g;refine ⟨A,j,λB C=> ?_,z⟩;obtain ⟨I,W⟩:=s B C;exact ⟨I,λhl=>by rw [(Wb l).1];exact W hl⟩
  ·rw [l] at g;cases g
 ·obtain ⟨rfl,rfl,rfl,rfl,rfl,o⟩:=hc;obtain ⟨A,l,s,z⟩:=r;obtain ⟨M,j⟩:=Hk.1 o;rcases WV k.ar j with g| ⟨g,_⟩
  ·rw [l] at g;obtain rfl:=ZEI g;refine ⟨A,j,λB C=> ?_,z⟩;obtain ⟨I,b,G,t,X,Y⟩:=s B C;exact ⟨I,b,G,t,by rw [(Wb l).1];exact X,Y⟩
  ·rw [l] at g;cases g
 ·obtain ⟨rfl,rfl,rfl,rfl,rfl,o⟩:=hc;obtain ⟨A,l,s,z⟩:=r;obtain ⟨M,j⟩:=Hk.1 o;rcases WV k.ar j with g| ⟨g,_⟩
  ·rw [l] at g;obtain rfl:=ZEI g;refine ⟨A,j,λB C=> ?_,z⟩;obtain ⟨I,b,G,t,b',m,c,X,Y⟩:=s B C;exact ⟨I,b,G,t,b',m,c,by rw [(Wb l).1];exact X,Y⟩
  ·rw [l] at g;cases g
 ·obtain ⟨rfl,rfl,o⟩:=hc;exact ⟨λk hk=>Hk.1 (o k hk),r.2⟩
 ·exact r
 ·obtain ⟨rfl,o⟩:=hc;exact ⟨Hk.1 o,r.2⟩
 ·subst hc;exact r.elim
 ·obtain ⟨rfl,o⟩:=hc;exact ⟨λp hp=>⟨Hk.1 (o p hp),(r.1 p hp).2⟩,r.2⟩
 ·obtain ⟨rfl,rfl,rfl,rfl,rfl,o⟩:=hc;obtain ⟨A,l,s,z⟩:=r;obtain ⟨M,j⟩:=Hk.1 o;rcases WV k.ar j with g| ⟨g,_⟩
  ·rw [l] at g;obtain rfl:=ZEI g;refine ⟨A,j,λB C=> ?_,z⟩;rw [(Wb l).1];exact s B C
  ·rw [l] at g;cases g
 ·exact hc.elim
theorem Ka.Yn (k:Ka O' O) (h:ZJ N w0 e O a w):∀{j cs:List CV} {vs:List Value},Yn e O w cs vs->Zd7 O' O j cs->Yn (ZfB e O) O' w j vs
 | [],[],_,m,_=>m
 | [],_::_,_,_,l=>by simp [Zd7] at l
 | _::_,[],_,_,l=>by simp [Zd7] at l
 | t::j,c::cs,_,m,l=>by
  simp only [Am.Yn] at m ⊢;obtain ⟨v,o,p,r,s⟩:=m;simp only [Zd7] at l;exact ⟨v,o,p,k.rel h r l.1,k.Yn h s l.2⟩
theorem Ka.pts (k:Ka O' O) (h:ZJ N w0 e O a w):∀{l t:List (Bool×List CV)} {vs:List Value},YH e O w t vs->Zxq O' O l t->YH (ZfB e O) O' w l vs
 | [],[],_,p,_=>p
 | [],_::_,_,_,o=>by simp [Zxq] at o
 | _::_,[],_,_,o=>by simp [Zxq] at o
 | (A,r)::l,(b,cs)::t,_,p,o=>by
  simp only [YH] at p ⊢;obtain ⟨v,z,E,m,G⟩:=p;simp only [Zxq] at o;obtain ⟨I,j,s⟩:=o;subst I;refine ⟨v,z,E, ?_,k.pts h G s⟩;cases A
  ·obtain ⟨c,rfl,m⟩:=m
   match r,j with
   | [C],j=>simp only [Zd7] at j;exact ⟨C,rfl,k.rel h m j.1⟩
   | [],j=>simp [Zd7] at j
   | _::_::_,j=>simp [Zd7] at j
  ·obtain ⟨J,rfl,m⟩:=m;exact ⟨J,rfl,k.Yn h m j⟩
theorem Ka.ZBE (k:Ka O' O) (h:ZJ N w0 e O a w) {p x:V} {v:Value} (j:x.rel e O w v) (hc:vle O' O p x):p.rel (ZfB e O) O' w v:=by
 unfold vle at hc
 split at hc
 ·exact j
 ·exact k.rel h j hc
 ·obtain ⟨o,l,m⟩:=j;exact ⟨o,l,k.Yn h m hc⟩
 ·obtain ⟨o,l,m⟩:=j;exact ⟨o,l,k.pts h m hc⟩
 ·exact hc.elim
theorem Ka.into (k:Ka O' O):ZaI O' O:=by
 intro N w0 a w ⟨e,h⟩
 have l:∀m,live O' m->(live O m/\blk (ZfB e O) m=blk e m)\/blk (ZfB e O) m=[]:=by
  intro m hl;cases m with
  | b j=>obtain ⟨cs,s⟩:=hl;obtain ⟨u,z,_⟩:=KW k.bx s;exact .inl ⟨⟨u,z⟩,rfl⟩
  | a R=>
   obtain ⟨A,s⟩:=hl;rcases WV k.ar s with g| ⟨g,_⟩
   ·exact .inl ⟨⟨A,g⟩,(Wb g).2⟩
   ·exact .inr (JP g).2
 refine ⟨ZfB e O,⟨by rw [h.nt,k.nt],h.df,λt v ht=> ?_,λj cs hj=> ?_,λR A hA=> ?_,λm J hl X Z=> ?_,h.fr,⟨h.bad.1,λb E=>⟨(h.bad.2 b E).1,λm hl r=> ?_⟩⟩,λm hl hd b r=> ?_,λj cs hj Y=>by obtain ⟨u,z,_⟩:=KW k.bx hj;exact h.pn j u z (k.nt▸Y),h.tn,λm b hl E=> ?_⟩⟩
 ·obtain ⟨u,z,G⟩:=Zns k.tm ht;exact k.ZBE h (h.tm t u z) G
 ·obtain ⟨u,z,G⟩:=KW k.bx hj;obtain ⟨s,h2⟩:=h.bx j u z;exact ⟨s,h2.imp (λvs h3=>k.Yn h h3 G) λc h0 M=>ZvX M (h0▸G)⟩
 ·rcases WV k.ar hA with g| ⟨g,f,U⟩
  ·rw [(Wb g).1,(Wb g).2];obtain ⟨p,c,G,M,h4| ⟨b,t,S,Fs,W,q1,q2,q3,q4,q5,q6,q7,q8⟩⟩:=h.ar R A g
   ·exact ⟨p,c,G,M,.inl h4⟩
   ·refine ⟨p,c,G,M,.inr ⟨b,t,S,Fs,W,q1,q2,q3,q4,q5,q6,q7, ?_⟩⟩;rcases q8 with q8| ⟨C,o,T,I⟩
    ·exact .inl q8
    ·exact .inr ⟨C,o,T,λx hx r=>I x hx (k.mut r)⟩
  ·obtain rfl:=ZEI U;rw [(JP g).1,(JP g).2];exact ⟨none,0,rfl,WF,.inl ⟨rfl,rfl,rfl,rfl⟩⟩
 ·rcases l m hl with ⟨C,o⟩| o
  ·rcases l J X with ⟨T,I⟩| I
   ·rw [o,I];exact h.sep m J C T Z
   ·rw [I];simp
  ·rw [o];simp
 ·rcases l m hl with ⟨C,o⟩| o
  ·rw [o] at r;exact (h.bad.2 b E).2 m C r
  ·rw [o] at r;simp at r
 ·rcases l m hl with ⟨C,o⟩| o
  ·rw [o] at r;exact h.dk m C hd b r
  ·rw [o] at r;simp at r
 ·cases m with
  | b j=>obtain ⟨cs,s⟩:=hl;obtain ⟨u,z,_⟩:=KW k.bx s;exact h.tp (.b j) b ⟨u,z⟩ E
  | a R=>
   obtain ⟨A,s⟩:=hl;rcases WV k.ar s with g| ⟨g,_⟩
   ·simp only [tpB,(Wb g).1,(Wb g).2] at E;exact h.tp (.a R) b ⟨A,g⟩ E
   ·simp [tpB,(JP g).1,(JP g).2,Value.ownBlock] at E
def ZqB (τ k:Nat):CV->CV
 | .own j n=>if j=τ then .own k n else .own j n
 | .vw j n m l W=>if j=τ then .vw k n m l W else .vw j n m l W
 | c=>c
def ZAP (τ j:Nat):V->V
 | .one c=>.one (ZqB τ j c)
 | .agg cs=>.agg (cs.map (ZqB τ j))
 | .tup k=>.tup (k.map λp=>(p.1,p.2.map (ZqB τ j)))
 | .dead=>.dead
def St.ren (O:St) (τ j:Nat):St:=⟨O.nt,O.tm.map (λp=>(p.1,ZAP τ j p.2)),O.bx.map (λp=>(p.1,p.2.map (ZqB τ j))),(j,(O.ar.lookup τ).getD none)::(τ,none)::O.ar⟩
theorem ZJ.ren (h:ZJ N w0 e O a w) {τ o:Nat} {A:Arr} (hA:O.ar.lookup τ=some (some A)) (h2:O.ar.lookup o=none) (hd:τ<1000000) (e2:o<1000000):
  ZJ N w0 ⟨e.β,λκ=>if κ=o then e.ρ τ else e.ρ κ,λκ=>if κ=o then e.φ τ else e.φ κ,e.bad⟩ (O.ren τ o) a w:=by
 have c9:τ≠o:=λe'=>by rw [<-e',hA] at h2;cases h2
 have Z:(O.ren τ o).ar.lookup o=some (some A):=by simp [St.ren,hA]
 have s:(O.ren τ o).ar.lookup τ=some none:=by simp only [St.ren,lookup_cons,if_neg c9,if_true]
 have look:∀κ,κ≠o->κ≠τ->(O.ren τ o).ar.lookup κ=O.ar.lookup κ:=λκ G I=>by simp only [St.ren,lookup_cons,if_neg G,if_neg I]
 have b1:∀k cs,(O.ren τ o).bx.lookup k=some cs->∃S,O.bx.lookup k=some S/\cs=S.map (ZqB τ o):=λk cs hk=>by
  have h1:(O.bx.lookup k).map (λS=>S.map (ZqB τ o))=some cs:=by rw [<-U4];exact hk
  obtain ⟨S,r,J⟩:=Hf.1 h1;exact ⟨S,r,J.symm⟩
 have b5:∀k S,O.bx.lookup k=some S->(O.ren τ o).bx.lookup k=some (S.map (ZqB τ o)):=λk S hk=>by
  show (O.bx.map λp=>(p.1,p.2.map (ZqB τ o))).lookup k=_;rw [U4,hk];rfl
 obtain ⟨e',b2⟩:∃e':Env,e'=⟨e.β,λκ=>if κ=o then e.ρ τ else e.ρ κ,λκ=>if κ=o then e.φ τ else e.φ κ,e.bad⟩:=⟨_,rfl⟩;rw [<-b2];have r2:e'.ρ o=e.ρ τ/\e'.φ o=e.φ τ:=by rw [b2];simp
 have rk:∀κ,κ≠o->e'.ρ κ=e.ρ κ/\e'.φ κ=e.φ κ:=λκ hk=>by rw [b2];simp [hk]
 have X:e'.β=e.β:=by rw [b2]
 have rb:e'.bad=e.bad:=by rw [b2]
 have b3:∀b,Mut e' (O.ren τ o) b->Mut e O b:=λb hm=>by
  rcases hm with h0| ⟨k,cs,h1,h3⟩| ⟨κ,B,h1,h3⟩
  ·exact .inl (rb▸h0)
  ·obtain ⟨S,r,_⟩:=b1 k cs h1;exact .inr (.inl ⟨k,S,r,X▸h3⟩)
  ·by_cases G:κ=o
   ·subst G;rw [r2.1] at h3;exact .inr (.inr ⟨τ,A,hA,h3⟩)
   ·by_cases I:κ=τ
    ·rw [I,s] at h1;cases h1
    ·rw [look κ G I] at h1;rw [(rk κ G).1] at h3;exact .inr (.inr ⟨κ,B,h1,h3⟩)
 have R:∀(c:CV) (v:Value),c.rel e O w v->(ZqB τ o c).rel e' (O.ren τ o) w v:=λc v z=>by
  cases c with
  | l x=>obtain ⟨F,r,J⟩:=z;exact ⟨F,r,λb T hm=>J b T (b3 b hm)⟩
  | nil=>exact z
  | vw κ n lo m W=>
   obtain ⟨B,r,J,Y⟩:=z;simp only [ZqB]
   by_cases I:κ=τ
   ·subst I;rw [if_pos rfl];rw [hA] at r;obtain rfl:=ZEI r;refine ⟨_,Z,λC R=> ?_,Y⟩;rw [r2.1];exact J C R
   ·rw [if_neg I];have G:κ≠o:=λe1=>by rw [e1,h2] at r;cases r
    refine ⟨B,by rw [look κ G I];exact r,λC R=> ?_,Y⟩;rw [(rk κ G).1];exact J C R
  | any=>exact z
  | kept v0 x=>obtain ⟨q0,F,r,J⟩:=z;exact ⟨q0,F,r,λb T hm=>J b T (b3 b hm)⟩
  | np=>exact z
  | clo f ks=>exact ⟨λj hj=>⟨_,b5 j _ (z.1 j hj).choose_spec⟩,by rw [X];exact z.2⟩
  | nf=>exact z
  | mp j=>exact ⟨⟨_,b5 j _ z.1.choose_spec⟩,by rw [X];exact z.2⟩
  | mpt M=>exact ⟨λp hp=>⟨⟨_,b5 p.2 _ (z.1 p hp).1.choose_spec⟩,(z.1 p hp).2⟩,by rw [X];exact z.2⟩
  | mc es=>exact z
  | own κ n=>
   obtain ⟨B,r,J,Y⟩:=z;simp only [ZqB]
   by_cases I:κ=τ
   ·subst I;rw [if_pos rfl];rw [hA] at r;obtain rfl:=ZEI r;refine ⟨_,Z,λC R=> ?_,Y⟩;rw [r2.1];exact J C R
   ·rw [if_neg I];have G:κ≠o:=λe1=>by rw [e1,h2] at r;cases r
    refine ⟨B,by rw [look κ G I];exact r,λC R=> ?_,Y⟩;rw [(rk κ G).1];exact J C R
  | box k b4=>
   obtain ⟨⟨cs,r⟩,J⟩:=z;exact ⟨⟨_,b5 k cs r⟩,by rw [X];exact J⟩
  | adr ls=>
   obtain ⟨b,b4,vs,F,r,J,Y,q4,q5,q6⟩:=z;exact ⟨b,b4,vs,F,r,J,Y,q4,λhm=>q5 (b3 b hm),λx hx hm=>q6 x hx (b3 x hm)⟩
  | elt κ n i W b4=>
   obtain ⟨B,r,J,Y⟩:=z
   by_cases I:κ=τ
   ·subst I;exact ⟨none,s,λC R=>(nomatch R),Y⟩
   ·have G:κ≠o:=λe1=>by rw [e1,h2] at r;cases r
    refine ⟨B,by rw [look κ G I];exact r,λC R=> ?_,Y⟩;rw [(rk κ G).1];exact J C R
  | nst κ j W b4 m=>
   obtain ⟨B,r,J,Y⟩:=z
   by_cases I:κ=τ
   ·subst I;exact ⟨none,s,λC R=>(nomatch R),Y⟩
   ·have G:κ≠o:=λe1=>by rw [e1,h2] at r;cases r
    refine ⟨B,by rw [look κ G I];exact r,λC R=> ?_,Y⟩;rw [(rk κ G).1];exact J C R
  | nel κ j W b4 i=>
   obtain ⟨B,r,J,Y⟩:=z
   by_cases I:κ=τ
   ·subst I;exact ⟨none,s,λC R=>(nomatch R),Y⟩
   ·have G:κ≠o:=λe1=>by rw [e1,h2] at r;cases r
    refine ⟨B,by rw [look κ G I];exact r,λC R=> ?_,Y⟩;rw [(rk κ G).1];exact J C R
 have hL:∀(cs:List CV) (vs:List Value),Yn e O w cs vs->Yn e' (O.ren τ o) w (cs.map (ZqB τ o)) vs:=λcs=>by
  induction cs with
  | nil=>intro vs z;exact z
  | cons c cs ih=>
   intro vs z;simp only [Am.Yn] at z;obtain ⟨v,b8,rfl,r,J⟩:=z;simp;exact ⟨v,b8,rfl,R _ _ r,ih _ J⟩
 have hP:∀(ps:List (Bool×List CV)) (vs:List Value),YH e O w ps vs->YH e' (O.ren τ o) w (ps.map λ(p:Bool×List CV)=>(p.1,p.2.map (ZqB τ o))) vs:=λps=>by
  induction ps with
  | nil=>intro vs z;exact z
  | cons p ps ih=>
   intro vs z;simp only [YH] at z;obtain ⟨v,b8,rfl,r,J⟩:=z;simp;refine ⟨v,b8,rfl, ?_,ih _ J⟩;obtain ⟨b,cs⟩:=p;cases b
   ·obtain ⟨c,rfl,r⟩:=r;exact ⟨_,rfl,R _ _ r⟩
   ·obtain ⟨us,rfl,r⟩:=r;exact ⟨us,rfl,hL _ _ r⟩
 have hV:∀(x:V) (v:Value),x.rel e O w v->(ZAP τ o x).rel e' (O.ren τ o) w v:=λx v z=>by
  cases x with
  | one c=>exact R c v z
  | agg cs=>obtain ⟨us,rfl,r⟩:=z;exact ⟨us,rfl,hL _ _ r⟩
  | tup ps=>obtain ⟨us,rfl,r⟩:=z;exact ⟨us,rfl,hP _ _ r⟩
  | dead=>exact z
 have U:∀κ,live (O.ren τ o) κ->∃E,live O E/\blk e' κ=blk e E/\(ZkX κ↔ZkX E)/\(E=κ\/(E= .a τ/\κ= .a o)):=λκ hl=>by
  cases κ with
  | b k=>
   obtain ⟨cs,r⟩:=hl;obtain ⟨S,J,_⟩:=b1 k cs r;exact ⟨.b k,⟨S,J⟩,by simp [blk,X],Iff.rfl,.inl rfl⟩
  | a κ=>
   obtain ⟨B,r⟩:=hl
   by_cases G:κ=o
   ·subst G;exact ⟨.a τ,⟨A,hA⟩,by simp only [blk];exact r2.2,by simp only [ZkX];omega,.inr ⟨rfl,rfl⟩⟩
   ·by_cases I:κ=τ
    ·rw [I,s] at r;cases r
    ·rw [look κ G I] at r;exact ⟨.a κ,⟨B,r⟩,by simp only [blk];exact (rk κ G).2,Iff.rfl,.inl rfl⟩
 have b6:¬live (O.ren τ o) (.a τ):=λ⟨B,r⟩=>by rw [s] at r;cases r
 refine ⟨h.nt,h.df,λt x ht=> ?_,λk cs hk=> ?_,λκ B hB=> ?_,λκ e0 hl c0 hn=> ?_,h.fr,⟨λb T=>rb▸h.bad.1 b T,λb T=>⟨(h.bad.2 b (rb▸T)).1,λκ hl b9=> ?_⟩⟩,λκ hl c7 b T=> ?_,λk cs hk c8=> ?_,h.tn,λκ b hl T=> ?_⟩
 ·have h1:(O.tm.lookup t).map (ZAP τ o)=some x:=by rw [<-U4];exact ht
  obtain ⟨x0,r,rfl⟩:=Hf.1 h1;exact hV _ _ (h.tm t x0 r)
 ·obtain ⟨S,r,rfl⟩:=b1 k cs hk;obtain ⟨g1,g2⟩:=h.bx k S r;rw [X];exact ⟨g1,g2.imp (λvs g3=>hL _ _ g3) λc h0 hc=>by rw [h0];cases c<;>first | rfl| cases hc⟩
 ·have c1:∀E,O.ar.lookup E=some (some B)->Uf N (Mut e' (O.ren τ o)) w B (e.ρ E) (e.φ E):=λE q0=>by
   obtain ⟨p,c,hv,hc,h4| ⟨b,t,c3,Fs,W,r,J,Y,q4,q5,q6,q7,q8⟩⟩:=h.ar E B q0
   ·exact ⟨p,c,hv,hc,.inl h4⟩
   ·refine ⟨p,c,hv,hc,.inr ⟨b,t,c3,Fs,W,r,J,Y,q4,q5,q6,q7, ?_⟩⟩;rcases q8 with q8| ⟨g1,g2,g3,g4⟩
    ·exact .inl q8
    ·exact .inr ⟨g1,g2,g3,λx hx hm=>g4 x hx (b3 x hm)⟩
  by_cases G:κ=o
  ·subst G;rw [Z] at hB;obtain rfl:=ZEI (ZEI hB);rw [r2.1,r2.2];exact c1 τ hA
  ·by_cases I:κ=τ
   ·rw [I,s] at hB;cases hB
   ·rw [look κ G I] at hB;rw [(rk κ G).1,(rk κ G).2];exact c1 κ hB
 ·obtain ⟨E,g1,g2,_,g3⟩:=U κ hl;obtain ⟨c2,c4,c5,_,b0⟩:=U e0 c0;rw [g2,c5];refine h.sep E c2 g1 c4 λb7=> ?_;rcases g3 with g3| ⟨g3,g4⟩<;>rcases b0 with b0| ⟨b0,c6⟩
  ·exact hn (by rw [<-g3,<-b0,b7])
  ·exact b6 (by rw [<-b0,<-b7,g3];exact hl)
  ·exact b6 (by rw [<-g3,b7,b0];exact c0)
  ·exact hn (by rw [g4,c6])
 ·obtain ⟨E,g1,g2,g3,_⟩:=U κ hl;rw [g2] at b9;exact g3.2 ((h.bad.2 b (rb▸T)).2 E g1 b9)
 ·obtain ⟨E,g1,g2,g3,_⟩:=U κ hl;rw [g2] at T;rw [rb];exact h.dk E g1 (g3.1 c7) b T
 ·obtain ⟨S,r,_⟩:=b1 k cs hk;rw [X];exact h.pn k S r c8
 ·cases κ with
  | b k=>
   obtain ⟨cs,hk⟩:=hl;obtain ⟨S,r,_⟩:=b1 k cs hk;exact h.tp (.b k) b ⟨S,r⟩ (by simp only [tpB,X] at T ⊢;exact T)
  | a κ=>
   obtain ⟨B,hB⟩:=hl
   by_cases G:κ=o
   ·subst G;rcases T with T| ⟨T,_⟩
    ·exact h.tp (.a τ) b ⟨A,hA⟩ (.inl (by rw [<-r2.1];exact T))
    ·omega
   ·by_cases I:κ=τ
    ·rw [I,s] at hB;cases hB
    ·rw [look κ G I] at hB;exact h.tp (.a κ) b ⟨B,hB⟩ (by simp only [tpB,(rk κ G).1,(rk κ G).2] at T ⊢;exact T)
theorem Zvc {τ j:Nat} (m:(match O.ar.lookup τ with | some (some _)=>True| _=>False)) (o:O.ar.lookup j=none) (hd:τ<1000000) (l:j<1000000):ZaI (O.ren τ j) O:=λN w0 a w ⟨e,h⟩=>by
 split at m
 ·rename_i A k;exact ⟨_,h.ren k o hd l⟩
 ·exact m.elim
def St.Zek (O:St) (τ:Nat):St:=⟨O.nt,O.tm,O.bx,(τ,match O.ar.lookup τ with | some (some A)=>some ⟨false,A.es⟩| _=>none)::O.ar⟩
theorem ZJ.Zek (h:ZJ N w0 e O a w) {τ:Nat} {A:Arr} (C:O.ar.lookup τ=some (some A)) (hd:τ<1000000):∃e',ZJ N w0 e' (O.Zek τ) a w:=by
 have o:(O.Zek τ).ar.lookup τ=some (some ⟨false,A.es⟩):=by simp [St.Zek,C]
 have look:∀j,j≠τ->(O.Zek τ).ar.lookup j=O.ar.lookup j:=λj s=>by simp only [St.Zek,lookup_cons,if_neg s]
 obtain ⟨e',r⟩:∃e':Env,e'=⟨e.β,e.ρ,λj=>if j=τ then (match (e.ρ τ).ownBlock with | some b=>[b]| none=>[]) else e.φ j,e.bad⟩:=⟨_,rfl⟩;have X:e'.β=e.β:=by rw [r]
 have l:e'.ρ=e.ρ:=by rw [r]
 have rb:e'.bad=e.bad:=by rw [r]
 have J:e'.φ τ=(match (e.ρ τ).ownBlock with | some b=>[b]| none=>[]):=by rw [r];simp
 have U:∀j,j≠τ->e'.φ j=e.φ j:=λj S=>by rw [r];simp [S]
 have I:∀b,Mut e' (O.Zek τ) b->Mut e O b:=λb G=>by
  rcases G with h0| ⟨k,cs,M,R⟩| ⟨j,B,M,R⟩
  ·exact .inl (rb▸h0)
  ·exact .inr (.inl ⟨k,cs,M,X▸R⟩)
  ·rw [l] at R
   by_cases s:j=τ
   ·subst s;exact .inr (.inr ⟨j,A,C,R⟩)
   ·rw [look j s] at M;exact .inr (.inr ⟨j,B,M,R⟩)
 have u:Up e O w e' (O.Zek τ) w:=⟨ZEN _,λ_ _ _=>rfl,λb _ G=>I b G,λk cs S=>⟨⟨cs,S⟩,by rw [X]⟩,λj B z=>by
  by_cases s:j=τ
  ·subst s;rw [C] at z;obtain rfl:=ZEI z;exact ⟨_,o,λB' E=>by obtain rfl:=ZEI E;exact ⟨A,rfl,ZEN _,λ_=>by rw [l]⟩⟩
  ·exact ⟨B,by rw [look j s];exact z,λB' E=>⟨B',E,ZEN _,λ_=>by rw [l]⟩⟩,λ_ _ _ _=>⟨by rw [l],λ_ _=>rfl⟩⟩
 have T:∀b∈e'.φ τ,b∈e.φ τ:=λb m=>by
  rw [J] at m;cases ho:(e.ρ τ).ownBlock with
  | none=>rw [ho] at m;simp at m
  | some c=>rw [ho] at m;simp at m;subst m;exact ((h.ar τ A C).own ho).1
 refine ⟨e',h.Zqi u (λj=>j= .a τ) h.nt h.df (λt v ht=>.inl ⟨ht,rfl⟩) (λk cs S _=>⟨S,rfl⟩) (λj B z hK=> ?_) (λk cs _ hK=>by cases hK) (λj B z hK=> ?_) (λj hl hK b m=> ?_) (λj b3 _ _ b2 M h2=>absurd (M.trans h2.symm) b2) h.fr (λ_ h=>rb▸h) (λ_ h=>.inl (rb▸h)) (λj _ hK b1=> ?_) (λk cs _ hK=>by cases hK) (λj b _ hK m=>by
  subst hK;rcases m with m| ⟨m,_⟩
  ·rw [l] at m;exact h.tp (.a τ) b ⟨A,C⟩ (.inl m)
  ·omega)⟩
 ·have s:j≠τ:=λe1=>hK (by rw [e1]);rw [look j s] at z;exact ⟨z,by rw [l],U j s,λ_ _=>rfl⟩
 ·injection hK with hK
  subst hK;rw [o] at z;obtain rfl:=ZEI (ZEI z);rw [l];obtain ⟨p,c,hv,hc,Z| ⟨b,t,b0,Fs,W,q1,q2,q3,q4,q5,q6,q7,q8⟩⟩:=h.ar j A C
  ·refine ⟨p,c,hv,hc,.inl ⟨Z.1,Z.2.1,Z.2.2.1, ?_⟩⟩;rw [J,hv,Z.2.1];rfl
  ·have ho:(e.ρ j).ownBlock=some b:=by rw [hv,q1];rfl
   refine ⟨p,c,hv,hc,.inr ⟨b,t,b0,Fs,W,q1,q2,q3,q4,q5,q6,q7,.inr ⟨rfl,by rw [J,ho], ?_⟩⟩⟩;rcases q8 with ⟨g1,g2,Y,g4⟩| ⟨g1,g2,Y,g4⟩
   ·refine ⟨g4.rp,λx hx G=>h.inner C hd (by simp [g2,hx]) ?_ (I x G)⟩;rw [ho];intro e1;obtain rfl:=ZEI e1;rw [g2] at Y;exact (Gf.1 Y).1 hx
   ·exact ⟨Y,λx hx G=>g4 x hx (I x G)⟩
 ·subst hK;exact .inl ⟨⟨A,C⟩,T b m⟩
 ·subst hK;have:1000000<=τ:=b1;omega
def Zcw:List Nat->St->Prop
 | [],_=>True
 | j::k,O=>(match O.ar.lookup j with | some (some _)=>True| _=>False)/\j<1000000/\Zcw k (O.Zek j)
theorem ZaY:∀{τs:List Nat} {O:St},Zcw τs O->ZaI (τs.foldl St.Zek O) O
 | [],_,_=>λ_ _ _ _ h=>h
 | o::τs,O,⟨j,k,l⟩=>λN w0 a w ⟨e,h⟩=>by
  split at j
  ·rename_i A m;exact ZaY l N w0 a w (h.Zek m k)
  ·exact j.elim
def St.ZqA (O:St) (τ:Nat):St:=⟨O.nt,O.tm,O.bx,(τ,match O.ar.lookup τ with | some (some A)=>some ⟨true,A.es⟩| _=>none)::O.ar⟩
theorem ZJ.ZqA (h:ZJ N w0 e O a w) {τ:Nat} {A:Arr} (z:O.ar.lookup τ=some (some A)) (hd:τ<1000000) (hf:Ue A.es=true):ZJ N w0 e (O.ZqA τ) a w:=by
 have l:(O.ZqA τ).ar.lookup τ=some (some ⟨true,A.es⟩):=by simp [St.ZqA,z]
 have look:∀j,j≠τ->(O.ZqA τ).ar.lookup j=O.ar.lookup j:=λj o=>by simp only [St.ZqA,lookup_cons,if_neg o]
 have U:∀b,Mut e (O.ZqA τ) b->Mut e O b:=λb T=>by
  rcases T with h0| ⟨k,cs,s,I⟩| ⟨j,B,s,I⟩
  ·exact .inl h0
  ·exact .inr (.inl ⟨k,cs,s,I⟩)
  ·by_cases o:j=τ
   ·subst o;exact .inr (.inr ⟨j,A,z,I⟩)
   ·rw [look j o] at s;exact .inr (.inr ⟨j,B,s,I⟩)
 have u:Up e O w e (O.ZqA τ) w:=⟨ZEN _,λ_ _ _=>rfl,λb _ T=>U b T,λk cs S=>⟨⟨cs,S⟩,rfl⟩,λj B m=>by
  by_cases o:j=τ
  ·subst o;rw [z] at m;obtain rfl:=ZEI m;exact ⟨_,l,λZ r=>by obtain rfl:=ZEI r;exact ⟨A,rfl,ZEN _,λ_=>rfl⟩⟩
  ·exact ⟨B,by rw [look j o];exact m,λZ r=>⟨Z,r,ZEN _,λ_=>rfl⟩⟩,λ_ _ _ _=>⟨rfl,λ_ _=>rfl⟩⟩
 refine h.Zqi u (λj=>j= .a τ) h.nt h.df (λt v ht=>.inl ⟨ht,rfl⟩) (λk cs S _=>⟨S,rfl⟩) (λj B m hK=> ?_) (λk cs _ hK=>by cases hK) (λj B m hK=> ?_) (λj hl hK b C=> ?_) (λj b0 _ _ X s h2=>absurd (s.trans h2.symm) X) h.fr (λ_ h=>h) (λ_ h=>.inl h) (λj _ hK R=> ?_) (λk cs _ hK=>by cases hK) (λj b _ hK C=>by
  subst hK;rcases C with C| ⟨C,_⟩
  ·exact h.tp (.a τ) b ⟨A,z⟩ (.inl C)
  ·omega)
 ·have o:j≠τ:=λe1=>hK (by rw [e1]);rw [look j o] at m;exact ⟨m,rfl,rfl,λ_ _=>rfl⟩
 ·injection hK with hK
  subst hK;rw [l] at m;obtain rfl:=ZEI (ZEI m);obtain ⟨p,c,Y,M,h4| ⟨b,t,E,Fs,W,q1,q2,q3,q4,q5,q6,q7,q8⟩⟩:=h.ar j A z
  ·exact ⟨p,c,Y,M,.inl h4⟩
  ·rcases q8 with ⟨g1,G,J,g4⟩| ⟨g1,G,J,g4⟩
   ·exact ⟨p,c,Y,M,.inr ⟨b,t,E,Fs,W,q1,q2,q3,q4,q5,q6,q7,.inl ⟨rfl,G,J,g4⟩⟩⟩
   ·exact ⟨p,c,Y,M,.inr ⟨b,t,E,[],W,q1,q2,q3,q4,q5,q6,q7,.inl ⟨rfl,G,by rw [G];simp,(J.flat hf).2⟩⟩⟩
 ·subst hK;exact .inl ⟨⟨A,z⟩,C⟩
 ·subst hK;have:1000000<=τ:=R;omega
def Zqz:List Nat->St->Prop
 | [],_=>True
 | j::k,O=>(match O.ar.lookup j with | some (some A)=>Ue A.es=true| _=>False)/\j<1000000/\Zqz k (O.ZqA j)
theorem ZnN:∀{τs:List Nat} {O:St},Zqz τs O->ZaI (τs.foldl St.ZqA O) O
 | [],_,_=>λ_ _ _ _ h=>h
 | o::τs,O,⟨j,k,l⟩=>λN w0 a w ⟨e,h⟩=>by
  split at j
  ·rename_i A m;exact ZnN l N w0 a w ⟨_,h.ZqA m k j⟩
  ·exact j.elim
variable {Q:Exit->St->Prop} {x y c:Code}
theorem Jk (k:ZaI O' O) (h:AW P N w0 c Q O'):AW P N w0 c Q O:=λa w j=>h a w (k _ _ _ _ j)
theorem KZ {ι:Type} (S:ι->St) (I:ι->Prop) (l:∀K:St->Prop,(∀i O',I i->ZaI (S i) O'->K O')->AW P N w0 x (Zax K Q) O) (m:∀i,I i->AW P N w0 y Q (S i)):AW P N w0 (.seq x y) Q O:=
 Zr λK hK=>l K λi O' j k=>hK O' (Jk k (m i j))
theorem ZkC {ι:Type} (S:ι->St) (I:Nat->ι->Prop) (A:Nat) (t:ι) (E:I A t) (G:ZaI (S t) O) (M:∀i,¬I 0 i)
  (k:∀(KL:St->Prop) (n:Nat) (i:ι),(∀j O',I n j->ZaI (S j) O'->KL O')->I (n+1) i->AW P N w0 c (Zax KL Q) (S i)):AW P N w0 (.loop c) Q O:=by
 have z:∀n i a w,I n i->Sim N w0 (S i) a w->Code.rounds P c (λe a w=>∃O',Q e O'/\Sim N w0 O' a w) n a w:=by
  intro n
  induction n with
  | zero=>intro i a w p;exact (M i p).elim
  | succ n R=>
   intro i a w p l;rw [rounds_succ];refine Code.wp_mono (λe C w' hq=> ?_) (k (λO'=>∃j,I n j/\ZaI (S j) O') n i (λj O' m o=>⟨j,m,o⟩) p a w l);obtain ⟨O',m,o⟩:=hq;cases e with
   | normal=>
    obtain ⟨j,r,s⟩:=m;exact R j C w' r (s _ _ _ _ o)
   | _=>exact ⟨O',m,o⟩
 intro a w J;exact wp_loop_rounds A (z _ t a w E (G _ _ _ _ J))
def ZbH (P:Program) (f:Nat) (l:List DV) (m:Bool) (X:Bool->Bool->List DV->Prop) (Y:Prop):Prop:=(∃fr k j,Ctr P f l fr j/\(fr=false->m=true)/\X fr k j)\/Y
theorem ZwQ {f:Nat} {m j:List DV} {fr o:Bool} {k:List DV} {X:Bool->Bool->List DV->Prop} {Y:Prop} (l:Bool) (h:Ctr P f m fr k) (hd:j=m) (hp:fr=false->o=true) (p:X fr l k):ZbH P f j o X Y:=
 .inl ⟨fr,l,k,hd▸h,hp,p⟩
theorem Zsp {ops:Array Oper} {o:Oper} {j:List Oper} {K:St->Prop} {f:Nat} {vs:Option (List V)} {k:List DV} {l:Bool} {p:Prop}:ZmT P ops o j O K f vs (some (k,l,p))=(p/\ZbH P f k l (λfr m r=>ZmS P ops j O K (QO O o.dst fr m r)) (XBy P O o.dst f vs λg=>Z9 P ops j (O.app g) K)):=rfl
def ZAQ (O:St) (dst:Option Nat) (j:Nat) (d1:List DV) (t:List L) (d2:List DV) (fr:Bool) (z:List DV) (m:List L) (Z:Eff->Prop):Option (List DV×Nat×List L×List DV×List Nat×Prop)->Prop
 | some (r,k,l,s,o,p)=>p/\r=d1/\l=t/\s=d2/\(match UC O dst k o fr z m with | some g=>Z g| none=>False)
 | none=>False
theorem ZAz {f:Nat} {dst:Option Nat} {vs:List V} {d1 d2:List DV} {z m:List L} {fr:Bool} {s:List DV} {Z:Eff->Prop} (j:Nat) (h:ZeC P f d1 z d2 fr s m) (o:ZAQ O dst j d1 z d2 fr s m Z (Zm2 O j vs)):XBy P O dst f (some vs) Z:=by
 unfold ZAQ at o
 split at o
 ·rename_i E k l G t p A;obtain ⟨hp,rfl,rfl,rfl,r⟩:=o
  split at r
  ·rename_i g C;exact ⟨vs,g,rfl,.ptr j _ k _ _ t p fr s m g A hp h C,r⟩
  ·exact r.elim
 ·exact o.elim
def ZAB (O:St) (dst:Option Nat) (k:List DV) (cs:List L) (Z:Eff->Prop):Option (List DV×List Nat×Prop)->Prop
 | some (e,j,p)=>p/\e=k/\(match dst with | some d=>d<O.nt/\O.bx.lookup d=none/\Z ⟨True,[(d,.one (.box d 0))],[(d,cs.map .l)],j.map λl=>(l,none)⟩| none=>False)
 | none=>False
theorem ZAA {f:Nat} {dst:Option Nat} {vs:List V} {m:List DV} {cs:List L} {Z:Eff->Prop} (h:Zwb P f m cs) (k:ZAB O dst m cs Z (Zhs O vs)):XBy P O dst f (some vs) Z:=by
 unfold ZAB at k
 split at k
 ·rename_i e l p o;obtain ⟨hp,rfl,j⟩:=k
  split at j
  ·rename_i d;exact ⟨vs,_,rfl,.box _ l p cs d o hp h rfl j.1 j.2.1,j.2.2⟩
  ·exact j.elim
 ·exact k.elim
def Zx7 (O:St) (dst:Option Nat) (k:List DV) (l:List DV) (Z:Eff->Prop):Option (List DV×List Nat×Prop)->Prop
 | some (e,j,p)=>p/\e=k/\(match dst with | some d=>d<O.nt/\Z ⟨True,[(d,Zml (l.map ptD))],[],j.map λm=>(m,none)⟩| none=>False)
 | none=>False
theorem Zuq {f:Nat} {dst:Option Nat} {vs:List V} {r l:List DV} {t:Bool} {X:Bool->Bool->List DV->Prop} {m:List DV} {Z:Eff->Prop} (h:Ctr P f r false m) (j:Zx7 O dst r m Z (Zhs O vs)):ZbH P f l t X (XBy P O dst f (some vs) Z):=by
 refine .inr ?_;unfold Zx7 at j
 split at j
 ·rename_i e o p s;obtain ⟨hp,rfl,k⟩:=j
  split at k
  ·rename_i d;exact ⟨vs,_,rfl,.froz _ o p m d s hp h rfl k.1,k.2⟩
  ·exact k.elim
 ·exact j.elim
theorem Zyt {f:Nat} {dst:Option Nat} {vs:List V} {k j:List DV} {m:Bool} {X:Bool->Bool->List DV->Prop} {cs:List L} {Z:Eff->Prop} (h:Zwb P f k cs) (l:ZAB O dst k cs Z (Zhs O vs)):ZbH P f j m X (XBy P O dst f (some vs) Z):=.inr (ZAA h l)
theorem Zp7 {ops:Array Oper} {o:Oper} {j:List Oper} {K:St->Prop} {k:Bool}:Vu P ops o j O K k none=False:=rfl
theorem Zsq {ops:Array Oper} {o:Oper} {j:List Oper} {K:St->Prop} {f:Nat} {vs:Option (List V)}:ZmT P ops o j O K f vs none=XBy P O o.dst f vs λg=>Z9 P ops j (O.app g) K:=rfl
theorem Zsd {ops:Array Oper} {O0:St} {K:St->Prop} {B k:List (List Nat)} {o:Oper} {j:List Oper} {i:Nat} {es:List (Nat×Eff)} {f:Nat} {vs:Option (List V)} {l:List DV} {m:Bool} {p:Prop}:
  Zsf P ops O0 K B k o j i es O f vs (some (l,m,p))=(p/\ZbH P f l m (λfr r s=>ZpT P ops O0 K B k j i es (QO O o.dst fr r s)) (XBy P O o.dst f vs λg=>Zfi P ops O0 K B k j (i+1) ((i,g)::es))):=rfl
theorem Zse {ops:Array Oper} {O0:St} {K:St->Prop} {B k:List (List Nat)} {o:Oper} {j:List Oper} {i:Nat} {es:List (Nat×Eff)} {f:Nat} {vs:Option (List V)}:Zsf P ops O0 K B k o j i es O f vs none=XBy P O o.dst f vs λg=>Zfi P ops O0 K B k j (i+1) ((i,g)::es):=rfl
end
section
variable {α β γ:Type}
def at? (xs:List α) (i:Int):Option α:=if 0<=i then xs[i.toNat]? else none
theorem Zh8 {xs:List α} {i:Int} {x:α} (h:at? xs i=some x):0<=i/\xs[i.toNat]? =some x/\i.toNat<xs.length/\∀h,xs[i.toNat]'h=x:=by
 unfold at? at h
 split at h
 ·exact ⟨by assumption,h,(Hh.1 h).1,λ_=>(Hh.1 h).2⟩
 ·cases h
def YJ (b:Nat) (xs ys:List α):Option (List α):=if xs.length+ys.length<=140737488355328/\(xs.length+ys.length)*b<=140737488355328 then some (xs++ys) else none
theorem Vm {b:Nat} {xs ys j:List α} (h:YJ b xs ys=some j):j=xs++ys/\xs.length+ys.length<=140737488355328/\(xs.length+ys.length)*b<=140737488355328:=by
 unfold YJ at h
 split at h
 ·exact ⟨(ZEI h).symm,by assumption⟩
 ·cases h
def ZEG (xs ys:List α):Option (List α):=if xs.length<=9223372036854775807/\ys.length<=9223372036854775807 then some (over xs ys) else none
def mk? (b:Nat) (n:Int):Option Nat:=if 0<=n/\n<=9223372036854775807/\(b:Int)*n<=281474976710656 then some n.toNat else none
theorem ZhP {b:Nat} {n:Int} {m:Nat} (h:mk? b n=some m):m=n.toNat/\0<=n/\n<=9223372036854775807/\(b:Int)*n<=281474976710656:=by
 unfold mk? at h
 split at h
 ·exact ⟨(ZEI h).symm,by assumption⟩
 ·cases h
def ZEF (xs:List α) (m:Int):Option (List α):=if 1<=m/\m<=xs.length then some (xs.take m.toNat) else none
def nz? (b:Int):Option Unit:=if b≠0 then some () else none
def ZkD (xs:List α) (l h:Int):Option (List α):=if 0<=l/\l<=h/\h<=xs.length then some ((xs.take h.toNat).drop l.toNat) else none
theorem Zma {xs ys:List α} {l r:Int} (h:ZkD xs l r=some ys):ys=(xs.take r.toNat).drop l.toNat/\0<=l/\l<=r/\r<=xs.length:=by
 unfold ZkD at h
 split at h
 ·exact ⟨(ZEI h).symm,by assumption⟩
 ·cases h
theorem ZsH {xs ys:List α} {l r:Int} (h:ZkD xs l r=some ys):ys=(xs.take r.toNat).drop l.toNat/\0<=l/\l<=r/\r<=xs.length/\min r.toNat xs.length=r.toNat/\r.toNat<=xs.length:=by
 obtain ⟨j,k,m,o⟩:=Zma h;exact ⟨j,k,m,o,Hw WF,WF⟩
def J2 (s:Ma) (l h:Int):Option Ma:=if 0<=l/\l<=h/\h<=s.size then some (s.extract l.toNat h.toNat) else none
theorem ZnA {s t:Ma} {l r:Int} (h:J2 s l r=some t):t=s.extract l.toNat r.toNat/\0<=l/\l<=r/\r<=s.size:=by
 unfold J2 at h
 split at h
 ·exact ⟨(ZEI h).symm,by assumption⟩
 ·cases h
def Zyp (s t:Ma):Option Ma:=if s.size+t.size<=9223372036854775807 then some (s++t) else none
theorem Zra {s t u:Ma} (h:Zyp s t=some u):u=s++t/\s.size+t.size<=9223372036854775807:=by
 unfold Zyp at h
 split at h
 ·exact ⟨(ZEI h).symm,by assumption⟩
 ·cases h
theorem bind_some {o:Option α} {f:α->Option β} {r:β} (h:o.bind f=some r):∃x,o=some x/\f x=some r:=Hq.1 h
def iC (n:Int):List L:=[.int .i64 n]
def sC (s:Ma):List L:=[.str s]
def bC (b:Bool):List L:=[.bool b]
def lC (c:α->List L) (xs:List α):List L:=[.sl (xs.map c)]
end
def tmpsOf:List Operand->List Nat
 | []=>[]
 | .tmp t::r=>t::tmpsOf r
 | _::r=>tmpsOf r
theorem ZaW:∀{l:List Operand} {t:Nat},Operand.tmp t∈l->t∈tmpsOf l
 | [],_,h=>by simp at h
 | .tmp u::r,t,h=>by
  rcases Hc.1 h with h| h
  ·cases h;simp [tmpsOf]
  ·simp [tmpsOf,ZaW h]
 | .const _::r,t,h=>by
  rcases Hc.1 h with h| h
  ·cases h
  ·simp [tmpsOf,ZaW h]
 | .global _::r,t,h=>by
  rcases Hc.1 h with h| h
  ·cases h
  ·simp [tmpsOf,ZaW h]
 | .func _::r,t,h=>by
  rcases Hc.1 h with h| h
  ·cases h
  ·simp [tmpsOf,ZaW h]
def Zqd (l:List Oper) (o:Oper):List Nat:=
 tmpsOf o.op.operands.toList++(match o.guard with | some (j,_)=>(match (l[j]?).bind (·.dst) with | some d=>[d]| none=>[])| none=>[])
def ZtF (l:List Oper) (A:List (List Nat)) (n:Nat):Bool:=
 ((l.take n).zip A).zipIdx.all (λ((o,d),i)=>!ZhT o.op&&o.dst.isSome&&(l.take n).zipIdx.all λ(q,j)=>j==i||(q.dst != o.dst&&(d.contains j||(Zqd l o).all λt=>q.dst != some t)))&&
 ((l.zip A).zipIdx.all λ((_,d),i)=>decide (i<n)||(List.range i).all d.contains)&&decide (n<=l.length)
section
variable {O O':St} {P:Program} {N:Nat->Prop} {w0:Bs}
theorem ZxT {x:Operand} (h:∀t,x= .tmp t->O'.tm.lookup t=O.tm.lookup t):opd O' x=opd O x:=by
 cases x with
 | tmp t=>exact h t rfl
 | _=>rfl
theorem ZxU {x:Operand} (h:opd O' x=opd O x):num O' x=num O x:=by unfold num;rw [h]
theorem Zjf:∀{l:List Operand},(∀x∈l,opd O' x=opd O x)->Xs O' l=Xs O l
 | [],_=>rfl
 | x::l,h=>by
  have j:=Zjf λy k=>h y (Hz _ k);simp only [Xs,h x Ha,j]
theorem Zn4:∀{l:List (Nat×Operand)},(∀p∈l,opd O' p.2=opd O p.2)->parts O' l=parts O l
 | [],_=>rfl
 | (i,x)::l,h=>by
  have k:=Zn4 λy m=>h y (Hz _ m);have j:=h (i,x) Ha;simp only [parts,j,k]
theorem Zn6 {d:Int} {x:Option Operand} (h:∀y,x=some y->opd O' y=opd O y):UA O' d x=UA O d x:=by
 cases x with
 | none=>rfl
 | some y=>simp only [UA,ZxU (h y rfl)]
theorem ZtC {op:Op} (j:∀x∈op.operands.toList,opd O' x=opd O x) (s:O'.bx=O.bx) (o:O'.ar=O.ar):QG P O' op=QG P O op:=by
 cases op
 case build t I=>
  have h:parts O' I.toList=parts O I.toList:=Zn4 λp hp=>j p.2 (by simp [Op.operands];exact ⟨p.1,by simpa using hp⟩);simp only [QG,h]
 case slice t x G E R=>
  have k:=j x (by simp [Op.operands]);have l:∀d,UA O' d G=UA O d G:=λd=>Zn6 λy C=>j y (by simp [Op.operands,C]);have r:∀d,UA O' d E=UA O d E:=λd=>Zn6 λy C=>j y (by simp [Op.operands,C]);cases R<;>simp only [QG,k,l,r,o]
 case call c=>
  obtain ⟨J,m,S⟩:=c;have k:∀x∈m.toList,opd O' x=opd O x:=λx z=>j x (by simp [Op.operands,Call.operands];exact .inr (by simpa using z));have l:=Zjf k;cases J with
  | builtin b=>
   cases b<;>simp only [QG,l]
   split
   ·rename_i x t A M;rw [k x (by rw [A];simp)]
   ·rfl
  | _=>simp only [QG]
 all_goals simp only [Op.operands,Hc,HS,or_false,forall_eq,forall_eq_or_imp,Hu] at j
 all_goals first
  | (simp only [QG];done)
  | (simp only [QG,num,j,s,o];done)
  | (obtain ⟨k,l⟩:=j;simp only [QG,num,k,l,s,o];done)
  | (obtain ⟨k,l,r⟩:=j;simp only [QG,num,k,l,r,s,o];done)
theorem ZqO (j:O'.ar=O.ar) (c:CV):ZpO O' c=ZpO O c:=by unfold ZpO;rw [j]
theorem ZqN (j:O'.ar=O.ar):∀cs:List CV,Zm6 O' cs=Zm6 O cs
 | []=>rfl
 | c::cs=>by simp only [Zm6,ZqO j,ZqN j cs]
theorem Zvu (j:O'.ar=O.ar) (v:V):Zm5 O' v=Zm5 O v:=by cases v<;>simp only [Zm5,ZqO j,ZqN j]
theorem Zn5 (j:O'.ar=O.ar):∀vs:List V,Vs O' vs=Vs O vs
 | []=>rfl
 | v::vs=>by simp only [Vs,Zvu j,Zn5 j vs]
theorem ZxS {ops:Array Oper} {j:Nat} {k:Bool} (h:∀d,(ops[j]?).bind (·.dst)=some d->O'.tm.lookup d=O.tm.lookup d):yld O' ops j k=yld O ops j k:=by
 unfold yld
 split
 ·rename_i d hd;rw [h d hd]
 ·rfl
theorem Zpu (m:O'.nt=O.nt) (l:O'.ar=O.ar) (d:Option Nat) (fr j:Bool) (k:List DV):QO O' d fr j k=QO O d fr j k:=by unfold QO;rw [m,l]
theorem ZhQ {op:Op} {d:Option Nat} (h:ZhT op=false):Wu P O d op=none:=by
 cases op
 case call c=>
  obtain ⟨k,j,p⟩:=c;cases k with
  | builtin b=>cases b<;>first | (simp [ZhT] at h;done)| rfl
  | _=>rfl
 case slice t x m l o=>cases m<;>cases l<;>cases o<;>first | (simp [ZhT] at h;done)| rfl| (rename_i y _;cases y<;>rfl)
 all_goals first | (simp [ZhT] at h;done)| rfl
theorem ZtD {o:Oper} (hm:ZhT o.op=false) (m:∀x∈o.op.operands.toList,opd O' x=opd O x) (k:O'.bx=O.bx) (j:O'.ar=O.ar) (l:O'.nt=O.nt):Zaa P O' o=Zaa P O o:=by
 unfold Zaa;rw [ZtC m k j,ZhQ hm,ZhQ hm,l]
theorem ZtE (j:O'.ar=O.ar) (c:CV):frC O' c=frC O c:=by unfold frC;rw [j]
theorem Zmt (j:O'.ar=O.ar):∀cs:List CV,frL O' cs=frL O cs
 | []=>rfl
 | c::cs=>by simp only [frL,ZtE j,Zmt j cs]
theorem ZxV (j:O'.ar=O.ar) (v:V):frV O' v=frV O v:=by cases v<;>simp only [frV,ZtE j,Zmt j]
theorem ZgN (j:O'.ar=O.ar):∀vs:List V,Zhs O' vs=Zhs O vs
 | []=>rfl
 | v::vs=>by simp only [Zhs,ZxV j,ZgN j vs]
theorem ZtB {d:Option Nat} {f:Nat} {vs:List V} {g:Eff} (C:O'.bx=O.bx) (m:O'.ar=O.ar) (G:O'.nt=O.nt) (h:Zhq P O d f vs g):Zhq P O' d f vs g:=by
 cases h with
 | ptr j d1 k M d2 l p fr I z g o r s t=>
  refine .ptr j d1 k M d2 l p fr I z g ?_ r s ?_
  ·rw [<-o];unfold Zm2;simp only [ZgN m,Zmt m,C]
  ·rw [<-t];unfold UC;rw [G,m]
 | ptrS j d1 k M d2 l p fr I z g cells o r s t E=>
  refine .ptrS j d1 k M d2 l p fr I z g cells ?_ r s ?_ (C▸E)
  ·rw [<-o];unfold Zm2;simp only [ZgN m,Zmt m,C]
  ·rw [<-t];unfold UC;rw [G,m]
 | box J l p cs d o r s t E R=>exact .box J l p cs d ((ZgN m vs).trans o) r s t (G▸E) (C▸R)
 | froz J l p I d o r s t E=>exact .froz J l p I d ((ZgN m vs).trans o) r s t (G▸E)
 | hand g o=>exact .hand g (o.le ⟨G,λk cs h=>by rw [C];exact h,λS A h=>by rw [m];exact h,λ_ _ h=>by rw [C];exact h,λ_ _ h=>by rw [m];exact h⟩)
theorem ZnZ {d:Option Nat} {k:Nat} {τs:List Nat} {fr:Bool} {o:List DV} {m:List L} {g:Eff} (j:UC O d k τs fr o m=some g):∀k∈ZR g.tm,d=some k:=by
 unfold UC at j
 split at j
 ·obtain rfl:=ZEI j;intro k l;simp [ZR] at l
 ·split at j
  ·split at j
   ·split at j
    ·obtain rfl:=ZEI j;intro k l;simp [ZR] at l;rw [l]
    ·cases j
   ·obtain rfl:=ZEI j;intro k l;simp [ZR] at l;rw [l]
  ·cases j
theorem ZuS {d:Option Nat} {f:Nat} {vs:List V} {g:Eff} (h:Zhq P O d f vs g):∀k∈ZR g.tm,d=some k:=by
 cases h with
 | ptr j d1 k G d2 o p fr C z g r s t l=>exact ZnZ l
 | ptrS j d1 k G d2 o p fr C z g cells r s t l A=>exact ZnZ (g:=g) l
 | box E o p cs d r s t l A I=>intro k m;simp [ZR] at m;rw [m];exact l
 | froz E o p C d r s t l A=>intro k m;simp [ZR] at m;rw [m];exact l
 | hand g r=>intro k m;obtain ⟨p,hp,rfl⟩:=Hd.1 m;exact r.2.1 p hp
theorem ZwA {o:Oper} {g:Eff} (hm:ZhT o.op=false) (A:∀x∈o.op.operands.toList,opd O' x=opd O x) (G:O'.bx=O.bx) (m:O'.ar=O.ar) (z:O'.nt=O.nt) (R:g.ar=[]) (Y:Ev P O o g):Ev P O' o g:=by
 cases Y with
 | step g h X=>exact .step g ((ZtD hm A G m z).trans h) X
 | call f C r J Z p fr I rs g j s t S T U W=>
  refine .call f C r J Z p fr I rs g j ?_ ((Zn5 m r).trans t) S T U ((Zpu z m _ _ _ _).trans W);rw [<-s];refine Zjf λx l=>A x ?_;unfold XJ at j
  split at j
  ·rename_i M E ts ho;obtain ⟨rfl,rfl⟩:=Prod.mk.inj (ZEI j);rw [ho];simp [Op.operands,Call.operands];exact .inr (by simpa using l)
  ·cases j
 | ZaK f C r g j s t=>
  refine .ZaK f C r g j ?_ (ZtB G m z t);rw [<-s];refine Zjf λx l=>A x ?_;unfold XJ at j
  split at j
  ·rename_i M E ts ho;obtain ⟨rfl,rfl⟩:=Prod.mk.inj (ZEI j);rw [ho];simp [Op.operands,Call.operands];exact .inr (by simpa using l)
  ·cases j
 | hand g j=>rcases j.1 with k| k;rw [hm] at k;cases k;exact absurd R k
theorem ZAa {o:Oper} {g:Eff} (hm:ZhT o.op=false) (t:Ev P O o g):∀k∈ZR g.tm,o.dst=some k:=by
 cases t with
 | step g h M=>
  unfold Zaa at h;rw [ZhQ hm] at h
  split at h
  ·split at h
   ·rename_i d hd
    split at h
    ·obtain rfl:=ZEI h;intro k j;simp [ZR] at j;rw [j];exact hd
    ·cases h
   ·obtain rfl:=ZEI h;intro k j;simp [ZR] at j
  ·cases h
 | call f A z E R p fr C S g m s r G I J l=>
  unfold QO at l
  split at l
  ·obtain rfl:=ZEI l;intro k j;simp [ZR] at j
  ·rename_i d hd
   split at l
   ·split at l
    ·split at l
     ·obtain rfl:=ZEI l;intro k j;simp [ZR] at j;rw [j];exact hd
     ·cases l
    ·obtain rfl:=ZEI l;intro k j;simp [ZR] at j;rw [j];exact hd
   ·cases l
 | ZaK f A z g m s r=>exact ZuS r
 | hand g m=>intro k j;obtain ⟨p,hp,rfl⟩:=Hd.1 j;exact m.2.1 p hp
theorem ZAb {ops:Array Oper} {o:Oper} {g:Eff} (hm:ZhT o.op=false) (r:EvG P ops O o g):∀k∈ZR g.tm,o.dst=some k:=by
 cases r with
 | plain g p h=>exact ZAa hm h
 | yes g j m p s h=>exact ZAa hm h
 | no j m p s=>
  intro k l;cases hd:o.dst with
  | none=>rw [hd] at l;simp [ZR] at l
  | some d=>rw [hd] at l;simp [ZR] at l;rw [l]
theorem ZxW {l:List Oper} {o:Oper} {g:Eff} (hm:ZhT o.op=false) (I:∀t∈Zqd l o,O'.tm.lookup t=O.tm.lookup t) (E:O'.bx=O.bx) (C:O'.ar=O.ar) (G:O'.nt=O.nt) (s:g.ar=[]) (M:EvG P l.toArray O o g):EvG P l.toArray O' o g:=by
 have z:∀x∈o.op.operands.toList,opd O' x=opd O x:=λx p=>ZxT λt J=>I t (by
  subst J;exact HW _ (ZaW p))
 have A:∀j k,o.guard=some (j,k)->yld O' l.toArray j k=yld O l.toArray j k:=λj k m=>ZxS λd hd=>I d (by
  refine GR _ ?_;rw [m];simp only [List.getElem?_toArray] at hd;simp only [hd];simp)
 cases M with
 | plain g m h=>exact .plain g m (ZwA hm z E C G s h)
 | yes g j k m r h=>exact .yes g j k m ((A j k m).trans r) (ZwA hm z E C G s h)
 | no j k m r=>exact .no j k m ((A j k m).trans r)
def Uc (O:St):List Eff->St
 | []=>O
 | g::j=>Uc (O.app g) j
theorem Zh7 {ops:Array Oper}:∀{l:List Oper} {O:St} {K:St->Prop},Z9 P ops l O K->
  ∃s:List Eff,s.length=l.length/\K (Uc O s)/\∀i o g,l[i]? =some o->s[i]? =some g->EvG P ops (Uc O (s.take i)) o g
 | [],O,K,h=>⟨[],rfl,by simpa [ZeB,Uc] using h,Ha⟩
 | ⟨d,G,S,C,M,gd⟩::m,O,K,h=>by
  have step:∀g,EvG P ops O ⟨d,G,S,C,M,gd⟩ g->Z9 P ops m (O.app g) K->
    ∃s:List Eff,s.length=m.length+1/\K (Uc O s)/\∀i o g,(⟨d,G,S,C,M,gd⟩::m)[i]? =some o->s[i]? =some g->EvG P ops (Uc O (s.take i)) o g:=by
   intro g t r;obtain ⟨s,k1,k2,k3⟩:=Zh7 r;refine ⟨g::s,by simp [k1],k2,λi o g' ho A=> ?_⟩;cases i with
   | zero=>simp at ho A;subst ho A;exact t
   | succ i=>simp at ho A;exact k3 i o g' ho A
  have I:Zp6 P ops ⟨d,G,S,C,M,gd⟩ m O K (XJ G)->∃g,Ev P O ⟨d,G,S,C,M,gd⟩ g/\Z9 P ops m (O.app g) K:=by
   intro r;unfold Zp6 at r
   split at r
   ·rename_i f Y W;unfold ZmT at r
    split at r
    ·rename_i ds pu p hd;obtain ⟨hp,⟨fr,dp,rs,h5,h6,R⟩| ⟨J,g,z,X,t⟩⟩:=r
     ·unfold ZmS at R
      split at R
      ·rename_i g t;obtain ⟨J,z,hd⟩:=Hq.1 hd;exact ⟨g,.call f Y J ds pu p fr dp rs g W z hd hp h5 h6 t,R.2⟩
      ·exact R.elim
     ·exact ⟨g,.ZaK f Y J g W z X,t⟩
    ·obtain ⟨J,g,z,X,t⟩:=r;exact ⟨g,.ZaK f Y J g W z X,t⟩
   ·unfold Zky at r
    split at r
    ·rename_i g t;exact ⟨g,.step g t r.1,r.2⟩
    ·obtain ⟨g,t,r⟩:=r;exact ⟨g,.hand g t,r⟩
  cases gd with
  | none=>
   rw [Zau] at h;obtain ⟨g,T,E⟩:=I h;exact step g (.plain g rfl T) E
  | some p=>
   obtain ⟨j,k⟩:=p;rw [Zav] at h;unfold Vu at h
   split at h
   ·rename_i b hy
    by_cases Z:b=k
    ·obtain ⟨g,T,E⟩:=I (h.1 Z);exact step g (.yes g j k rfl (by rw [hy,Z]) T) E
    ·have U:(!b)=k:=by cases b<;>cases k<;>simp_all
     have E:=h.2 U;rw [Zx3] at E;exact step _ (.no j k rfl (by rw [hy];cases b<;>cases k<;>simp_all)) E
   ·exact h.elim
theorem Zku:∀(j:List Eff) (O:St) (g:Eff),Uc O (j++[g])=(Uc O j).app g
 | [],_,_=>rfl
 | x::j,O,g=>Zku j (O.app x) g
theorem Zcs:∀(j k:List Eff) (O:St),Uc O (j++k)=Uc (Uc O j) k
 | [],_,_=>rfl
 | x::j,k,O=>Zcs j k (O.app x)
theorem ZoB:∀(j:List Eff) (O:St),(Uc O j).bx.length=(j.map (·.bx.length)).sum+O.bx.length
 | [],_=>by simp [Uc]
 | x::j,O=>by simp only [Uc,ZoB j,St.app,Hp,Hi,HV];omega
theorem ZoC:∀(j:List Eff) (O:St),(Uc O j).ar.length=(j.map (·.ar.length)).sum+O.ar.length
 | [],_=>by simp [Uc]
 | x::j,O=>by simp only [Uc,ZoC j,St.app,Hp,Hi,HV];omega
theorem Zl9:∀{l:List Nat},l.sum=0->∀x∈l,x=0
 | [],_,_,h=>by simp at h
 | y::l,j,x,h=>by
  simp only [HV] at j;rcases Hc.1 h with rfl| h
  ·omega
  ·exact Zl9 WF x h
def Zke (O0:St):List Oper->Prop
 | []=>True
 | o::r=>(match o.dst with | some d=>O0.tm.lookup d=none| none=>True)/\Zke O0 r
theorem Zof {O0:St}:∀{l:List Oper},Zke O0 l->∀o∈l,∀d,o.dst=some d->O0.tm.lookup d=none
 | [],_,_,h,_,_=>by simp at h
 | x::l,hf,o,h,d,hd=>by
  simp only [Zke] at hf;rcases Hc.1 h with rfl| h
  ·have:=hf.1;rw [hd] at this;exact this
  ·exact Zof hf.2 o h d hd
structure ZCW (l:List Oper) (A:List (List Nat)) (n:Nat):Prop where
 le:n<=l.length
 mem:∀i o,i<n->l[i]? =some o->ZhT o.op=false/\o.dst.isSome=true
 dst:∀i j o q,i<n->j<n->i≠j->l[i]? =some o->l[j]? =some q->q.dst≠o.dst
 use:∀i j o q t,i<n->j<n->i≠j->l[i]? =some o->l[j]? =some q->q.dst=some t->t∈Zqd l o->j∈A.getD i []
 all:∀i k,n<=i->i<l.length->k<i->k∈A.getD i []
theorem ZrP {l:List Oper} {A:List (List Nat)} {n:Nat} (hl:A.length=l.length) (h:ZtF l A n=true):ZCW l A n:=by
 unfold ZtF at h;simp only [ZEM,decide_eq_true_eq] at h;obtain ⟨⟨I,M⟩,R⟩:=h
 have J:∀i,i<l.length->A[i]? =some (A.getD i []):=by
  intro i m;have I:i<A.length:=WF
  rw [Gc,ZEP I];rfl
 have E:∀i o,i<n->l[i]? =some o->((o,A.getD i []),i)∈((l.take n).zip A).zipIdx:=by
  intro i o m ho;have r:=(Hh.1 ho).1;refine List.mem_zipIdx_iff_getElem?.2 ?_;simp only;rw [List.getElem?_zip_eq_some];exact ⟨by rw [Gw];simp [m,ho],J i r⟩
 have s:∀i o,i<l.length->l[i]? =some o->((o,A.getD i []),i)∈(l.zip A).zipIdx:=by
  intro i o m ho;refine List.mem_zipIdx_iff_getElem?.2 ?_;simp only;rw [List.getElem?_zip_eq_some];exact ⟨ho,J i m⟩
 have z:∀j q,j<n->l[j]? =some q->(q,j)∈(l.take n).zipIdx:=by
  intro j q hj hq;refine List.mem_zipIdx_iff_getElem?.2 ?_;simp only;rw [Gw];simp [hj,hq]
 have C:∀i o,i<n->l[i]? =some o->(ZhT o.op=false/\o.dst.isSome=true)/\∀j q,j<n->i≠j->l[j]? =some q->q.dst≠o.dst/\(j∈A.getD i []\/∀t∈Zqd l o,q.dst≠some t):=by
  intro i o m ho;have:=Hj.1 I _ (E i o m ho);simp only [ZEM,Ga] at this;refine ⟨⟨this.1.1,this.1.2⟩,λj q hj p hq=> ?_⟩;have G:=Hj.1 this.2 _ (z j q hj hq);simp only [Gv,ZEM,beq_iff_eq,bne_iff_ne,GV,Hj] at G;rcases G with G| G
  ·exact absurd G.symm p
  ·exact G
 refine ⟨R,λi o m ho=>(C i o m ho).1,λi j o q m hj p ho hq=>((C i o m ho).2 j q hj p hq).1,λi j o q t m hj p ho hq T U=> ?_,λi k m r S=> ?_⟩
 ·rcases ((C i o m ho).2 j q hj p hq).2 with h| h
  ·exact h
  ·exact absurd T (h t U)
 ·have:=Hj.1 M _ (s i l[i] r (ZEP r));simp only [Gv,decide_eq_true_eq,Hj,GV] at this;rcases this with h| h
  ·omega
  ·exact h k (HN.2 S)
theorem ZCk {l:List Oper} {A:List (List Nat)} (hd:ZcI l A=true) (t:l.length=A.length):∀{i:Nat},i<l.length->∀{k:Nat},k∈A.getD i []->k<1000000->k<i:=by
 obtain ⟨_,j⟩:=Zco hd;intro i
 induction i using Nat.strongRecOn with
 | _ i I=>
  intro s k G p;have z:i<A.length:=WF
  have r:A[i]? =some (A.getD i []):=by rw [Gc,ZEP z];rfl
  obtain ⟨e,E,C,m⟩:=(j i l[i] _ (ZEP s) r).2 k G p;have o:=((j i l[i] _ (ZEP s) r).1 e E C).2;rcases m with rfl| m
  ·exact o
  ·have:=I e.on o WF m p;omega
theorem Zwf {Q:Exit->St->Prop} {O0:St} {id:Nat} {l:List Oper} (A:List (List Nat)) (n:Nat) (hm:P.follows .mixedOrders=true) (hd:ZcI l A=true) (hl:ZtF l A n=true)
  (h:Z9 P l.toArray (l.take n) O0 (λO1=>O1.bx.length=O0.bx.length/\O1.ar.length=O0.ar.length/\Zke O0 (l.take n)/\Z9 P l.toArray (l.drop n) O1 (λO'=>Q .normal O'))) (c6:A.all (λd=>d.all λk=>decide (k<1000000))=true):AW P N w0 (.region id l.toArray true) Q O0:=by
 obtain ⟨R,_⟩:=Zco hd;have e9:=Zol hd
 have b4:∀i k,(A.getD i []).contains (1000000+k)=false:=λi k=>by
  cases hc:(A.getD i []).contains (1000000+k) with
  | false=>rfl
  | true=>
   by_cases U:i<A.length
   ·have h1:=Hj.1 c6 A[i] (Hl U);have h2:A.getD i []=A[i]:=by rw [Gc,ZEP U];rfl
    rw [h2] at hc;have:=Hj.1 h1 (1000000+k) (by simpa using hc);simp only [decide_eq_true_eq] at this;omega
   ·rw [Gc,Gj WF] at hc;simp at hc
 have b6:∀i (m:List (Nat×List CV)),m.filter (λp=>!(A.getD i []).contains (1000000+p.1))=m:=λi m=>List.filter_eq_self.2 λp _=>by rw [b4];rfl
 have Z:∀i k,(A.getD i []).contains (10000000+k)=false:=λi k=>by rw [show 10000000+k=1000000+(9000000+k) from WF];exact b4 i _
 have Y:∀i (m:List (Nat×Option Arr)),m.filter (λp=>!(A.getD i []).contains (10000000+p.1))=m:=λi m=>List.filter_eq_self.2 λp _=>by rw [Z];rfl
 have L:=ZrP R.symm hl;obtain ⟨s,a1,⟨a2,a3,a4,a5⟩,a6⟩:=Zh7 h;obtain ⟨c2,b1,b2,b3⟩:=Zh7 a5;have hn:s.length=n:=by rw [a1,Hg,Hw L.le]
 have b0:∀g∈s,g.bx=[]:=by
  intro g E;rw [ZoB] at a2;have:=Zl9 (show (s.map (·.bx.length)).sum=0 from WF) g.bx.length (Hd.2 ⟨g,E,rfl⟩);exact HI this
 have S:∀g∈s,g.ar=[]:=by
  intro g E;rw [ZoC] at a3;have:=Zl9 (show (s.map (·.ar.length)).sum=0 from WF) g.ar.length (Hd.2 ⟨g,E,rfl⟩);exact HI this
 obtain ⟨C,G⟩:∃C,C=s++c2:=⟨_,rfl⟩;have g1:C.length=l.length:=by rw [G,Hp,b1,hn,HR];have:=L.le;omega
 have c4:Q .normal (Uc O0 C):=by rw [G,Zcs];exact b2
 have b5:∀i o g,l[i]? =some o->C[i]? =some g->EvG P l.toArray (Uc O0 (C.take i)) o g:=by
  intro i o g ho E
  by_cases U:i<n
  ·rw [G,Gq WF] at E;rw [G,List.take_append_of_le_length WF];exact a6 i o g (by rw [Gw,if_pos U];exact ho) E
  ·rw [G,Ge WF] at E;have:=b3 (i-s.length) o g (by rw [GP,show n+(i-s.length)=i from WF];exact ho) E;rw [G,List.take_append,Gl (show s.length<=i from WF),Zcs];exact this
 have hq:∀i g,i<n->C[i]? =some g->g∈s:=by
  intro i g U E;rw [G,Gq WF] at E;exact Gg E
 have X:∀i o g,i<n->l[i]? =some o->C[i]? =some g->∀k∈ZR g.tm,o.dst=some k:=λi o g U ho E=>ZAb (L.mem i o U ho).1 (b5 i o g ho E);have g0:∀i,A.drop i=[]↔l.drop i=[]:=by intro i;rw [List.drop_eq_nil_iff,List.drop_eq_nil_iff,R]
 refine ZuK A hm hd ?_
 have c1:∀(m i:Nat) (es:List (Nat×Eff)),i+m=l.length->Zd9 O0 es=Uc O0 (C.take i)->(∀p∈es,p.1<i/\C[p.1]? =some p.2)->Zp2 P l.toArray O0 (λO'=>Q .normal O') A (A.drop i) (l.drop i) i es:=by
  intro m
  induction m with
  | zero=>
   intro i es U T hp;rw [Gp (show l.length<=i from WF)];refine Zre _ i es ?_ ?_
   ·
    unfold dOk;refine Hj.2 λp j=> ?_;rw [ZEM,ZEM];refine ⟨⟨Hj.2 λr _=>by rw [b4];rfl,Hj.2 λr _=>by rw [Z];rfl⟩,Hj.2 λq c9=> ?_⟩;obtain ⟨p1,p2⟩:=hp p j;obtain ⟨q1,q2⟩:=hp q c9;have pl:p.1<l.length:=WF
    have ql:q.1<l.length:=WF
    simp only [Gv,beq_iff_eq,GV,ZEM,Ga]
    by_cases b8:p.1=q.1
    ·exact .inl (.inl (.inl b8))
    by_cases c8:n<=p.1
    ·by_cases e3:q.1<p.1
     ·exact .inl (.inl (.inr (L.all p.1 q.1 c8 pl e3)))
     ·exact .inl (.inr (L.all q.1 p.1 WF ql WF))
    by_cases e0:n<=q.1
    ·exact .inl (.inr (L.all q.1 p.1 e0 ql WF))
    by_cases b9:q.1∈A.getD p.1 []
    ·exact .inl (.inl (.inr b9))
    right
    have gp:=hq p.1 p.2 WF p2;have gq:=hq q.1 q.2 WF q2;have kp:=X p.1 l[p.1] p.2 WF (ZEP pl) p2;have kq:=X q.1 l[q.1] q.2 WF (ZEP ql) q2;have c7:=L.dst p.1 q.1 _ _ WF WF b8 (ZEP pl) (ZEP ql);refine ⟨?_, ?_⟩
    ·unfold apart;rw [b0 _ gq,S _ gq];simp only [List.all_nil,Bool.and_true,Hj,Ga];intro r hr;cases hc:(ZR p.2.tm).contains r.1 with
     | false=>rfl
     | true=>
      have e1:=kp r.1 (by simpa using hc);have e2:=kq r.1 (Hd.2 ⟨r,hr,rfl⟩);exact absurd (e2.trans e1.symm) c7
    ·unfold Zl4;rw [b0 _ gq,S _ gq];simp only [List.any_nil,Bool.or_false];rw [GN];intro r hr;have e2:=kq r.1 (Hd.2 ⟨r,hr,rfl⟩);have c3:=Zof a4 l[q.1] (Gg (i:=q.1) (by rw [Gw,if_pos WF];exact ZEP ql)) r.1 e2
     have:(view O0 es (A.getD p.1 [])).tm.lookup r.1=none:=by
      show (Zd9 O0 (es.filter λz=>(A.getD p.1 []).contains z.1)).tm.lookup r.1=none;rw [Zh9,lookup_append,c3,Option.or_none];refine Jp λhk=> ?_;obtain ⟨x,hx,e4⟩:=Hd.1 hk;obtain ⟨z,hz,e5⟩:=GH.1 hx;obtain ⟨e6,e7⟩:=HU.1 hz;obtain ⟨z1,z2⟩:=hp z e6;have c0:z.1∈A.getD p.1 []:=by simpa using e7
      have g2:z.1<p.1:=ZCk hd R pl c0 WF;have kz:=X z.1 l[z.1] z.2 WF (ZEP WF) z2 r.1 (Hd.2 ⟨x,e5,e4⟩);have e8:z.1≠q.1:=λe=>b9 (e▸c0);exact absurd (e2.trans kz.symm) (L.dst z.1 q.1 _ _ WF WF e8 (ZEP WF) (ZEP ql))
     rw [this];simp
   ·rw [T,show i=C.length from WF,Gh];exact c4
  | succ m ih=>
   intro i es U T hp;have M:i<l.length:=WF
   have b7:i<A.length:=WF
   have W:i<C.length:=WF
   rw [Ho M,Ho b7];have E:=b5 i l[i] C[i] (ZEP M) (ZEP W);have J:A.getD i []=A[i]:=by rw [Gc,ZEP b7];rfl
   refine ⟨C[i], ?_,ih (i+1) ((i,C[i])::es) WF ?_ ?_⟩
   ·rw [<-T] at E
    by_cases c5:n<=i
    ·have:view O0 es A[i]=Zd9 O0 es:=by
      have hf:es.filter (λp=>A[i].contains p.1)=es:=by
       rw [List.filter_eq_self];intro p j;have:=L.all i p.1 c5 M (hp p j).1;rw [J] at this
       simpa using this
      have h2:=b6 i;have h3:=Y i;rw [J] at h2 h3;unfold view;rw [hf,h2,h3]
     rw [this];exact E
    ·have I:∀p∈es,p.2.bx=[]/\p.2.ar=[]:=λp j=>by
      have:=hq p.1 p.2 (by have:=(hp p j).1;omega) (hp p j).2;exact ⟨b0 _ this,S _ this⟩
     have fm:∀{α:Type} (f:Nat×Eff->List α) (L:List (Nat×Eff)),(∀p∈L,f p=[])->L.flatMap f=[]:=λf L hL=>List.flatMap_eq_nil_iff.2 hL;refine ZxW (L.mem i l[i] WF (ZEP M)).1 (λt ht=> ?_) ?_ ?_ ?_ (S _ (hq i C[i] WF (ZEP W))) E
     ·show (Zd9 O0 (es.filter λp=>A[i].contains p.1)).tm.lookup t=_;rw [Zh9,Zh9];refine (ZjZ (λp=>p.2.tm) O0.tm (λp=>A[i].contains p.1) t λp j hs=> ?_).symm;intro hk;obtain ⟨p1,p2⟩:=hp p j;have kp:=X p.1 l[p.1] p.2 WF (ZEP WF) p2 t hk;have:=L.use i p.1 l[i] l[p.1] t WF WF WF (ZEP M) (ZEP WF) kp ht;rw [J] at this;have h':A[i].contains p.1=true:=by simpa using this
      rw [h'] at hs;cases hs
     ·have h2:=b6 i;rw [J] at h2;unfold view;rw [h2,Zks,Zks,fm _ _ (λp j=>(I p ((HU.1 j).1)).1),fm _ es λp j=>(I p j).1]
     ·have h3:=Y i;rw [J] at h3;unfold view;rw [h3,Zkt,Zkt,fm _ _ (λp j=>(I p ((HU.1 j).1)).2),fm _ es λp j=>(I p j).2]
     ·show (Zd9 O0 (es.filter λp=>A[i].contains p.1)).nt=_;rw [Zkr,Zkr]
   ·show (Zd9 O0 es).app C[i]=_;rw [T,List.take_add_one,ZEP W,Option.toList_some,Zku]
   ·intro p j;rcases Hc.1 j with rfl| j
    ·exact ⟨Ha,ZEP W⟩
    ·obtain ⟨p1,p2⟩:=hp p j;exact ⟨WF,p2⟩
 simpa using c1 l.length 0 [] WF rfl Ha
end
def K3:Type:=List Nat×List Nat×List Nat
def kE (g:Eff):K3:=(ZR g.tm,ZR g.bx,ZR g.ar)
def kS (O:St):K3:=(ZR O.tm,ZR O.bx,ZR O.ar)
def hit (a b:List Nat):Bool:=a.any λx=>b.contains x
def Zx4 (a b:K3):Bool:=hit a.1 b.1||hit a.2.1 b.2.1||hit a.2.2 b.2.2
def ZAk (d:List Nat) (s:K3):K3:=(s.1,s.2.1.filter (λk=>!d.contains (1000000+k)),s.2.2.filter (λk=>!d.contains (10000000+k)))
def ZDm (s:K3) (A:List (List Nat)) (es:List (Nat×K3)):Bool:=
 es.all λp=>(p.2.2.1.all λk=>!(A.getD p.1 []).contains (1000000+k))&&(p.2.2.2.all λk=>!(A.getD p.1 []).contains (10000000+k))&&es.all λq=>p.1==q.1||(A.getD p.1 []).contains q.1||(A.getD q.1 []).contains p.1||(!Zx4 q.2 p.2&&!Zx4 q.2 (ZAk (A.getD p.1 []) s)&&es.all λr=>!(A.getD p.1 []).contains r.1||!Zx4 q.2 (ZAk (A.getD p.1 []) r.2))
theorem ZtZ {a b:List Nat}:hit a b=false↔∀x∈a,x∉b:=by
 unfold hit;rw [GN];simp
theorem ZgL {α:Type}:∀{l:List (Nat×α)} {k:Nat},k∉ZR l->l.lookup k=none
 | [],_,_=>rfl
 | (j,x)::l,k,h=>by
  simp only [ZR,Hi,Hc,not_or] at h;rw [lookup_cons,if_neg h.1];exact ZgL (by simpa [ZR] using h.2)
theorem Zpz {α:Type} (a b:List (Nat×α)):ZR (a++b)=ZR a++ZR b:=by simp [ZR]
theorem ZoA (O0:St):∀(es:List (Nat×Eff)),(∀k,k∈ZR (Zd9 O0 es).tm->k∈ZR O0.tm\/∃r∈es,k∈ZR r.2.tm)/\(∀k,k∈ZR (Zd9 O0 es).bx->k∈ZR O0.bx\/∃r∈es,k∈ZR r.2.bx)/\(∀k,k∈ZR (Zd9 O0 es).ar->k∈ZR O0.ar\/∃r∈es,k∈ZR r.2.ar)
 | []=>⟨λ_ h=>.inl h,λ_ h=>.inl h,λ_ h=>.inl h⟩
 | g::es=>by
  obtain ⟨l,m,o⟩:=ZoA O0 es;refine ⟨λk h=> ?_,λk h=> ?_,λk h=> ?_⟩
  all_goals
   simp only [Zd9,St.app,Zpz,He] at h;rcases h with h| h
   ·exact .inr ⟨g,GL ..,h⟩
  ·rcases l k h with h| ⟨r,j,h⟩;exact .inl h;exact .inr ⟨r,Hz _ j,h⟩
  ·rcases m k h with h| ⟨r,j,h⟩;exact .inl h;exact .inr ⟨r,Hz _ j,h⟩
  ·rcases o k h with h| ⟨r,j,h⟩;exact .inl h;exact .inr ⟨r,Hz _ j,h⟩
theorem XI {O0:St} {A:List (List Nat)} {es:List (Nat×Eff)} (h:ZDm (kS O0) A (es.map λp=>(p.1,kE p.2))=true):dOk O0 A es=true:=by
 unfold ZDm at h;unfold dOk;rw [Hj] at h ⊢;intro p hp;have h:=h _ (Hd.2 ⟨p,hp,rfl⟩);rw [ZEM,ZEM] at h ⊢;refine ⟨⟨Hj.2 λr o=>Hj.1 h.1.1 r.1 (Hd.2 ⟨r,o,rfl⟩),Hj.2 λr o=>Hj.1 h.1.2 r.1 (Hd.2 ⟨r,o,rfl⟩)⟩, ?_⟩;have h:=h.2;rw [Hj] at h ⊢;intro q hq;have h:=h _ (Hd.2 ⟨q,hq,rfl⟩);simp only [Gv,ZEM,Ga,Hj] at h ⊢;rcases h with h| ⟨⟨C,E⟩,J⟩
 ·exact .inl h
 ·refine .inr ⟨?_, ?_⟩
  ·unfold Zx4 kE at C;simp only [GF,ZtZ] at C;unfold apart;simp only [ZEM,Hj,Ga,List.contains_eq_mem,decide_eq_false_iff_not];exact ⟨⟨λx s=>C.1.1 x.1 (Hd.2 ⟨x,s,rfl⟩),λx s=>C.1.2 x.1 (Hd.2 ⟨x,s,rfl⟩)⟩,λx s=>C.2 x.1 (Hd.2 ⟨x,s,rfl⟩)⟩
  ·unfold Zx4 kE kS ZAk at E;simp only [GF,ZtZ] at E
   have M:∀r∈es,(A.getD p.1 []).contains r.1=true->Zx4 (kE q.2) (ZAk (A.getD p.1 []) (kE r.2))=false:=λr o R=>by
    have:=J _ (Hd.2 ⟨r,o,rfl⟩);rcases this with this| this
    ·rw [R] at this;cases this
    ·exact this
   obtain ⟨S,T,U⟩:=ZoA O0 (es.filter λr=>(A.getD p.1 []).contains r.1)
   have G:∀r∈es.filter (λr=>(A.getD p.1 []).contains r.1),(∀x∈ZR q.2.tm,x∉ZR r.2.tm)/\(∀x∈ZR q.2.bx,x∉(ZR r.2.bx).filter (λk=>!(A.getD p.1 []).contains (1000000+k)))/\∀x∈ZR q.2.ar,x∉(ZR r.2.ar).filter (λk=>!(A.getD p.1 []).contains (10000000+k)):=λr o=>by
    have:=M r (HU.1 o).1 (HU.1 o).2;unfold Zx4 kE ZAk at this;simp only [GF,ZtZ] at this;exact ⟨this.1.1,this.1.2,this.2⟩
   unfold Zl4 view;simp only [GF,GN];refine ⟨⟨λx s=> ?_,λx s=> ?_⟩,λx s=> ?_⟩
   ·rw [ZgL];simp;intro j;have l:x.1∈ZR q.2.tm:=Hd.2 ⟨x,s,rfl⟩;rcases S _ j with j| ⟨r,o,j⟩
    ·exact E.1.1 _ l j
    ·exact (G r o).1 _ l j
   ·rw [ZgL];simp;intro j;have l:x.1∈ZR q.2.bx:=Hd.2 ⟨x,s,rfl⟩;obtain ⟨y,I,t⟩:=Hd.1 j;obtain ⟨z,m⟩:=HU.1 I;rw [t] at m;rcases T x.1 (Hd.2 ⟨y,z,t⟩) with j| ⟨r,o,j⟩
    ·exact E.1.2 _ l (HU.2 ⟨j,m⟩)
    ·exact (G r o).2.1 _ l (HU.2 ⟨j,m⟩)
   ·rw [ZgL];simp;intro j;have l:x.1∈ZR q.2.ar:=Hd.2 ⟨x,s,rfl⟩;obtain ⟨y,I,t⟩:=Hd.1 j;obtain ⟨z,m⟩:=HU.1 I;rw [t] at m;rcases U x.1 (Hd.2 ⟨y,z,t⟩) with j| ⟨r,o,j⟩
    ·exact E.2 _ l (HU.2 ⟨j,m⟩)
    ·exact (G r o).2.2 _ l (HU.2 ⟨j,m⟩)
def ZDe (s:List Nat) (x:Nat):List Nat:=if s.contains x then s else x::s
def Zkl (l:List Oper):List (List Nat):=l.foldl (λA o=>A++[(o.after.toList.filter (Region.binds .any)).foldl (λs e=>(A.getD e.on []).foldl ZDe (ZDe s e.on)) []]) []
section
variable {P:Program} {N:Nat->Prop} {w0:Bs} {Q:Exit->St->Prop} {y:Code} {O:St}
theorem QL {id:Nat} {l:List Oper} (n:Nat) (hm:P.follows .mixedOrders=true) (hd:ZcI l (Zkl l)=true) (hl:ZtF l (Zkl l) n=true)
  (h:Z9 P l.toArray (l.take n) O (λj=>j.bx.length=O.bx.length/\j.ar.length=O.ar.length/\Zke O (l.take n)/\Z9 P l.toArray (l.drop n) j (λO'=>Q .normal O'))) (m:(Zkl l).all (λd=>d.all λk=>decide (k<1000000))=true:=by kernel_rfl):AW P N w0 (.region id l.toArray true) Q O:=Zwf (Zkl l) n hm hd hl h m
theorem Zp {id:Nat} {l:List Oper} (h:∀K:St->Prop,(∀O,AW P N w0 y Q O->K O)->Z9 P l.toArray l O K):AW P N w0 (.seq (.region id l.toArray false) y) Q O:=
 Zr λK hK=>Zx (h K hK)
end
theorem si {α:Type} {a b:α} (h:some a=some b):a=b:=ZEI h
theorem ifM {α:Type} {b:Bool} {A B r:α} (hM:(if b=true then A else B)=r):(b=true/\A=r)\/(b=false/\B=r):=by cases b<;>simp_all
section
variable {P:Program} {N:Nat->Prop} {w0:Bs} {Q:Exit->St->Prop} {x y:Code} {O O':St}
theorem Yh {k:Type} {b:Bool} {A B r:k} {o:Operand} (hM:(if b=true then A else B)=r) (j:b=true->A=r->AW P N w0 x Q O) (hf:b=false->B=r->AW P N w0 y Q O) (ho:opd O o=some (.one (.l (.bool b))):=by simp [go_sem,F]):AW P N w0 (.cond o x y) Q O:=
 Zqb ho (λh=>j h (by rw [if_pos h] at hM;exact hM)) (λh=>hf h (by rw [if_neg (by simp [h])] at hM;exact hM))
theorem Qb {f:Nat} {l j:List DV} {fr m:Bool} {o:List DV} {X:Bool->Bool->List DV->Prop} {Y:Prop} (k:Bool) (h:Ctr P f l fr o) (p:X fr k o) (hd:j=l:=by simp [go_sem,F]) (hp:fr=false->m=true:=by simp):ZbH P f j m X Y:=
 ZwQ k h hd hp p
theorem fin {ι:Type} {S:ι->St} {I:ι->Prop} {K:St->Prop} (hK:∀i O',I i->ZaI (S i) O'->K O') (i:ι) (hi:I i) (h:Ka (S i) O:=by constructor<;>simp [go_sem,F]):K O:=hK i O hi h.into
theorem ZyI (τs:List Nat) (h:AW P N w0 x Q O') (j:Zqz τs O:=by simp [go_sem,Zqz,St.ZqA]) (e:τs.foldl St.ZqA O=O':=by simp [go_sem,St.ZqA];exact rfl):AW P N w0 x Q O:=Jk (ZnN j) (by rw [e];exact h)
theorem ZCZ (τs:List Nat) (h:AW P N w0 x Q O') (j:Zcw τs O:=by simp [go_sem,Zcw,St.Zek]) (k:Ka O' (τs.foldl St.Zek O):=by constructor<;>simp [go_sem,St.Zek,F]):AW P N w0 x Q O:=
 Jk (λN w0 a w l=>k.into N w0 a w (ZaY j N w0 a w l)) h
theorem ZuJ (h:AW P N w0 x Q O') (k:Ka O' O:=by constructor<;>simp [go_sem,F]):AW P N w0 x Q O:=Jk k.into h
theorem ZC0 {ι:Type} (S:ι->St) (I:Nat->ι->Prop) (m:Nat) (k:ι) (o:I m k) (s:∀i,¬I 0 i)
  (j:∀(KL:St->Prop) (n:Nat) (i:ι),(∀l O',I n l->ZaI (S l) O'->KL O')->I (n+1) i->True->AW P N w0 x (Zax KL Q) (S i)) (r:Ka (S k) O:=by constructor<;>simp [go_sem,F]):AW P N w0 (.loop x) Q O:=
 ZkC S I m k o r.into s λKL n i h p=>j KL n i h p trivial
end
theorem ZfF {P:Program} {f:Nat} {fn:Func} {c:Code} {nt:Nat} {s:Array ResultVar} (hf:P.funcs[f]? =some fn) (m:fn.ntmps=nt) (p:fn.results=s) {j:List DV} {fr:Bool} {r:List DV}
  (h:∀N w0,Bok N w0->True->AW P N w0 c (ZAe P s fr r) ⟨nt,Zft 0 j,[],[]⟩) (o:Y9 P f=true:=by kernel_rfl) (k:fn.body=some c:=by rfl) (l:j.length<=nt:=by simp):Ctr P f j fr r:=
 Ctr.XZ o hf k m p l λN w0 k=>h N w0 k trivial
theorem ZA9 {P:Program} {f:Nat} {fn:Func} {c:Code} {nt:Nat} {s:Array ResultVar} (hf:P.funcs[f]? =some fn) (l:fn.ntmps=nt) (o:fn.results=s) {d1 d2:List DV} {cs p:List L} {fr:Bool} {r:List DV}
  (h:∀N w0,Bok N w0->True->AW P N w0 c (ZAf P s fr r nt (nt+d1.length) p) ⟨nt,Zft 0 d1++(d1.length,.one (.box (nt+d1.length) 0))::Zft (d1.length+1) d2,[(nt+d1.length,cs.map .l)],[]⟩) (m:Y9 P f=true:=by kernel_rfl) (j:fn.body=some c:=by rfl) (k:d1.length+1+d2.length<=nt:=by simp):ZeC P f d1 cs d2 fr r p:=
 ZeC.XZ m hf j l o k λN w0 j=>h N w0 j trivial
theorem ZA8 {P:Program} {f:Nat} {fn:Func} {c:Code} {nt:Nat} {r:Array ResultVar} (hf:P.funcs[f]? =some fn) (m:fn.ntmps=nt) (p:fn.results=r) {j:List DV} {cs:List L}
  (h:∀N w0,Bok N w0->True->AW P N w0 c (ZCg P r cs) ⟨nt,Zft 0 j,[],[]⟩) (o:Y9 P f=true:=by kernel_rfl) (k:fn.body=some c:=by rfl) (l:j.length<=nt:=by simp):Zwb P f j cs:=
 Zwb.XZ o hf k m p l λN w0 k=>h N w0 k trivial
theorem lT {a b:Int} (h:decide (a<b)=true):¬b<=a:=by simp at h;omega
theorem lF {a b:Int} (h:decide (a<b)=false):¬a<b:=by simpa using h
theorem eT {a b:Int} (h:decide (a<=b)=true):¬b<a:=by simp at h;omega
theorem eF {a b:Int} (h:decide (a<=b)=false):¬a<=b:=by simpa using h
theorem Zaw {α:Type} {xs:List α} {i:Int} {x:α} (h:at? xs i=some x):0<=i/\xs[i.toNat]? =some x/\∀h,xs[i.toNat]'h=x:=by obtain ⟨a,b,c,d⟩:=Zh8 h;exact ⟨a,b,d⟩
theorem ZmP {α:Type} {xs:List α} {i:Int} {x:α} (h:at? xs i=some x):i.toNat<xs.length:=(Zh8 h).2.2.1
end Go.Proofs.YtmcfegjoccgpoaaGreatDoor.Am
set_option linter.unusedSimpArgs false
set_option linter.unusedVariables false
namespace Go.Proofs.YtmcfegjoccgpoaaGreatDoor
open Go.RowKit Am
def Ev (p:Nat->Prop):Prop:=∃B,∀k,B<=k->p k
theorem Ev.of {p:Nat->Prop} (h:∀k,p k):Ev p:=⟨0,λk _=>h k⟩
theorem Ev.and {p q:Nat->Prop} (h:Ev p) (g:Ev q):Ev λk=>p k/\q k:=by
 obtain ⟨A,h⟩:=h;obtain ⟨B,g⟩:=g;exact ⟨max A B,λk j=>⟨h k WF,g k WF⟩⟩
theorem Ev.mono {p q:Nat->Prop} (h:Ev p) (f:∀k,p k->q k):Ev q:=by
 obtain ⟨A,h⟩:=h;exact ⟨A,λk j=>f k (h k j)⟩
theorem Ev.ge (n:Nat):Ev λk=>n<=k:=⟨n,λ_ h=>h⟩
theorem Ev.all {α:Type} {p:α->Nat->Prop}:∀(xs:List α),(∀x∈xs,Ev (p x))->Ev λk=>∀x∈xs,p x k
 | [],_=>Ev.of λ_ _ h=>by simp at h
 | x::xs,h=>((h x Ha).and (Ev.all xs λy j=>h y (by simp [j]))).mono λk ⟨l,m⟩ y j=>by
  rcases Hc.1 j with rfl| j
  ·exact l
  ·exact m y j
theorem Ev.pred {p q:Nat->Prop} (h:Ev p) (f:∀k,p k->q (k+1)):Ev q:=by
 obtain ⟨A,h⟩:=h;refine ⟨A+1,λk l=> ?_⟩;obtain ⟨j,rfl⟩:∃j,k=j+1:=⟨k-1,WF⟩;exact f j (h j WF)
theorem Ev.get {p:Nat->Prop} (h:Ev p):∃k,p k:=by obtain ⟨A,h⟩:=h;exact ⟨A,h A (ZEN _)⟩
theorem w64 {n:Int} (j: -9223372036854775808<=n) (k:n<=9223372036854775807):GZ n=n:=IntWalk.i64_in n ⟨j,k⟩
theorem wS (i:Nat) (h:i<9223372036854775807):GZ ((i:Int)+1)=((i+1:Nat):Int):=by rw [w64 WF WF];rfl
theorem Zkp {α:Type} (xs:List α) (i:Nat):at? xs (i:Int)=xs[i]? :=by unfold at?;rw [if_pos WF];rfl
theorem ZQ {α:Type} {xs:List α} {i:Nat} (h:i<xs.length):at? xs (i:Int)=some xs[i]:=by rw [Zkp,ZEP h]
theorem ZL {i n:Nat} (h:i<n):(decide ((i:Int)<(n:Int)))=true:=by simp [h]
theorem Qg {i n:Nat} (h:n<=i):¬(decide ((i:Int)<(n:Int)))=true:=by simp [h]
theorem Wa {α:Type} {b:Nat} {xs ys:List α} (h:xs.length+ys.length<=1099511627776) (j:b<=128):YJ b xs ys=some (xs++ys):=by
 unfold YJ;rw [if_pos ⟨WF,HA (Nat.mul_le_mul h j) WF⟩]
theorem Zty {b n:Nat} (h:n<=1099511627776) (l:b<=256):mk? b (n:Int)=some n:=by
 unfold mk?
 have j:(b:Int)*(n:Int)<=281474976710656:=by
  have:=Nat.mul_le_mul l h;have k:((b*n:Nat):Int)<=((256*1099511627776:Nat):Int):=Int.ofNat_le.2 this
  simpa using k
 rw [if_pos ⟨WF,WF,j⟩];rfl
mutual
def DOk:L->Prop
 | .int k n=>InK k n
 | .bool _=>True
 | .str s=>Fit s
 | .void=>True
 | .sl es=>es.length<=9223372036854775807/\Zwd es
def ZcJ:List L->Prop
 | []=>True
 | x::xs=>DOk x/\ZcJ xs
def Zwd:List (List L)->Prop
 | []=>True
 | e::es=>ZcJ e/\Zwd es
end
theorem Zrs {α:Type} {c:α->List L}:∀{xs:List α},Zwd (xs.map c)↔∀x∈xs,ZcJ (c x)
 | []=>by simp [Zwd]
 | x::xs=>by simp [Zwd,Zrs (xs:=xs)]
theorem UD {α:Type} {c:α->List L} {xs:List α} (h:DOk (.sl (xs.map c))):(xs.length:Int)<=9223372036854775807/\∀x∈xs,ZcJ (c x):=by
 simp only [DOk,HO] at h;exact ⟨WF,Zrs.1 h.2⟩
theorem Zid {s:Ma} (h:DOk (.str s)):(s.size:Int)<=9223372036854775807:=by simp only [DOk,Fit] at h;omega
mutual
theorem Rp.dok {w:World}:∀{x:L} {v:Value} {F:List Nat},Rp w x v F->DOk x
 | .int _ _,_,_,h=>by simp only [Rp] at h;simp only [DOk];exact h.2.2
 | .bool _,_,_,_=>by simp only [DOk]
 | .str _,_,_,h=>by simp only [Rp] at h;simp only [DOk];exact h.2.2
 | .void,_,_,_=>by simp only [DOk]
 | .sl _,_,_,h=>by
  simp only [Rp] at h;obtain ⟨A,c,j,k,E,p⟩:=h;simp only [DOk];refine ⟨WF, ?_⟩;rcases p with ⟨rfl,_⟩| ⟨b,off,xs,Fs,s,t,z,C,o⟩
  ·simp only [Zwd]
  ·exact RpE.dok o
theorem RpL.dok {w:World}:∀{xs:List L} {vs:List Value} {F:List Nat},RpL w xs vs F->ZcJ xs
 | [],_,_,_=>by simp only [ZcJ]
 | _::_,_,_,h=>by
  simp only [RpL] at h;obtain ⟨v,r,l,m,_,_,j,k⟩:=h;simp only [ZcJ];exact ⟨Rp.dok j,RpL.dok k⟩
theorem RpE.dok {w:World}:∀{es:List (List L)} {vs:List Value} {F:List Nat},RpE w es vs F->Zwd es
 | [],_,_,_=>by simp only [Zwd]
 | _::_,_,_,h=>by
  simp only [RpE] at h;obtain ⟨G,I,l,m,_,_,j,k⟩:=h;simp only [Zwd];exact ⟨RpL.dok j,RpE.dok k⟩
end
def szR (b:Nat) (left:Int):Int:=if (b:Int)<=left then left-b else-1
def ZU {α:Type} (f:α->Nat) (xs:List α):Nat:=(xs.map f).sum
def bkS {α:Type} (f:α->Nat) (xs:List α):Nat:=xs.length+ZU f xs
theorem ZjB {α:Type} (f:α->Nat):∀{xs:List α} {x:α},x∈xs->f x<=ZU f xs
 | y::xs,x,h=>by
  rcases Hc.1 h with rfl| h
  ·simp only [ZU,Hi,HV];omega
  ·have:=ZjB f h;simp only [ZU,Hi,HV] at this ⊢;omega
theorem Z1 {α:Type} {f:α->Nat} {xs:List α} {x:α} (h:x∈xs):f x<=bkS f xs:=by have:=ZjB f h;unfold bkS;omega
theorem ZE {α:Type} {f:α->Nat} {xs:List α}:xs.length<=bkS f xs:=by unfold bkS;omega
theorem ZkZ {α:Type} (xs:List α):bkS (λ_=>0) xs=xs.length:=by
 unfold bkS ZU;have:(xs.map λ_=>0).sum=0:=by induction xs<;>simp_all
 omega
theorem Zaz {left:Int} (h:0<=left):some left=some (szR 0 left):=by unfold szR;rw [if_pos (by simpa using h)];simp
theorem Zdd {b b2:Nat} {left:Int} {F:Int->Option Int} (l:0<=left) (k:∀x,0<=x->x<=left->F x=some (szR b2 x)):
  (if (decide (szR b left<0))=true then some (-1) else F (szR b left))=some (szR (b+b2) left):=by
 by_cases h:(b:Int)<=left
 ·have e:szR b left=left-b:=by unfold szR;rw [if_pos h]
  rw [e,if_neg (by simp;omega),k _ WF WF];unfold szR
  by_cases j:(b2:Int)<=left-b
  ·rw [if_pos j,if_pos WF];congr 1;omega
  ·rw [if_neg j,if_neg WF]
 ·have e:szR b left= -1:=by unfold szR;rw [if_neg h]
  rw [e,if_pos (by decide)];unfold szR;rw [if_neg WF]
theorem ZsU {b b2:Nat} {left:Int} {F:Int->Option Int} (j:0<=left) (l:left<=1048576) (m:(b:Int)<=9223372036854775807) (k:∀x,0<=x->x<=left->F x=some (szR b2 x)):
  (if (decide (GZ (left-(b:Int))<0))=true then some (-1) else F (GZ (left-(b:Int))))=some (szR (b+b2) left):=by
 rw [w64 WF WF]
 by_cases h:(b:Int)<=left
 ·have:=Zdd (b:=b) (b2:=b2) j k;unfold szR at this;rw [if_pos h] at this;exact this
 ·rw [if_pos (by simp;omega)];unfold szR;rw [if_neg WF]
theorem Znv {b:Nat} {left:Int} (j:0<=left) (k:left<=1048576) (l:(b:Int)<=9223372036854775807):
  (∃z,GZ (left-(b:Int))=z/\¬(decide (z<0))=true/\z=left-b/\0<=z/\z<=1048576)\/((decide (GZ (left-(b:Int))<0))=true/\left<b):=by
 rw [w64 WF WF]
 by_cases h:(b:Int)<=left
 ·exact .inl ⟨_,rfl,by simp;omega,rfl,WF,WF⟩
 ·exact .inr ⟨by simp;omega,WF⟩
theorem Xd {b:Nat} {left:Int} (j:left<=1048576):(∃z,szR b left=z/\¬(decide (z<0))=true/\z=left-b/\0<=z/\z<=1048576)\/(szR b left= -1/\left<b):=by
 unfold szR
 by_cases h:(b:Int)<=left
 ·rw [if_pos h];exact .inl ⟨_,rfl,by simp;omega,rfl,WF,WF⟩
 ·rw [if_neg h];exact .inr ⟨rfl,WF⟩
theorem Xw {b:Nat} {left:Int} (h:left<b):some (-1)=some (szR b left):=by unfold szR;rw [if_neg WF]
theorem Zay {b:Nat} {left z:Int} (j:0<=z) (h:z=left-b):some z=some (szR b left):=by unfold szR;rw [if_pos WF,h]
theorem Zxe {α:Type} (f:α->Nat) (a0:List α) (g:α->Int->Option Int) (u:Nat->Int->Int->Option (Int ⊕ Int))
  (A:∀x∈a0,∀l,0<=l->l<=1048576->((g x l).bind λy=>if (decide (y<0))=true then some (-1) else some y)=some (szR (f x) l))
  (z:∀n l i,u (n+1) l i=if (decide (i<(a0.length:Int)))=true then (at? a0 i).bind λx=>(g x l).bind λy=>if (decide (y<0))=true then some (.inr (-1)) else u n y (GZ (i+1)) else some (.inl l))
  (hl:a0.length<=1048576):∀(m n i:Nat) (l:Int),i+m=a0.length->m<n->0<=l->l<=1048576->u n l (i:Int)=some (if (ZU f (a0.drop i):Int)<=l then .inl (l-ZU f (a0.drop i)) else .inr (-1)):=by
 intro m
 induction m with
 | zero=>
  intro n i l C E r s;obtain ⟨n,rfl⟩:∃j,n=j+1:=⟨n-1,WF⟩;rw [z,if_neg (Qg WF),Gp WF];simp [ZU,r]
 | succ m I=>
  intro n i l C E r s;obtain ⟨n,rfl⟩:∃j,n=j+1:=⟨n-1,WF⟩;have p:i<a0.length:=WF
  rw [z,if_pos (ZL p),ZQ p,ZEH,wS i WF,Ho p];have o:=A a0[i] (Hl p) l r s;obtain ⟨y,G,o⟩:=Hq.1 o;rw [G,ZEH];have e:(ZU f (a0[i]::a0.drop (i+1)):Nat)=f a0[i]+ZU f (a0.drop (i+1)):=by unfold ZU;rw [Hi,HV]
  rw [e]
  split at o
  ·rename_i k;rw [if_pos k];have o:=ZEI o;unfold szR at o
   split at o
   ·omega
   ·rw [if_neg WF]
  ·rename_i k;rw [if_neg k];have o:=ZEI o;unfold szR at o
   split at o
   ·rw [I n (i+1) y WF WF WF WF,o]
    congr 1
    by_cases t:(ZU f (a0.drop (i+1)):Int)<=l-(f a0[i]:Int)
    ·rw [if_pos t,if_pos WF];congr 1;omega
    ·rw [if_neg t,if_neg WF]
   ·subst o;simp at k
theorem Zah {α:Type} (f:α->Nat) (a0:List α) (g:α->Int->Option Int) (u:Nat->Int->Int->Option (Int ⊕ Int)) (k:Nat)
  (o:∀x∈a0,∀l,0<=l->l<=1048576->((g x l).bind λy=>if (decide (y<0))=true then some (-1) else some y)=some (szR (f x) l))
  (r:∀n l i,u (n+1) l i=if (decide (i<(a0.length:Int)))=true then (at? a0 i).bind λx=>(g x l).bind λy=>if (decide (y<0))=true then some (.inr (-1)) else u n y (GZ (i+1)) else some (.inl l))
  (p:a0.length<k) (m:(a0.length:Int)<=9223372036854775807) (left:Int) (s:0<=left) (t:left<=1048576):
  (if (decide (GZ (left-(a0.length:Int))<0))=true then some (-1) else (u k (GZ (left-(a0.length:Int))) 0).bind fun | .inl x=>some x| .inr z=>some z)=some (szR (bkS f a0) left):=by
 rw [w64 WF WF]
 by_cases h:(a0.length:Int)<=left
 ·rw [if_neg (by simp;omega)];have:=Zxe f a0 g u o r WF a0.length k 0 (left-a0.length) WF p WF WF;rw [show ((0:Nat):Int)=0 from rfl] at this;rw [this];simp only [Gd,ZEH];unfold szR bkS
  by_cases j:(ZU f a0:Int)<=left-a0.length
  ·rw [if_pos j,if_pos WF];simp only;congr 1;omega
  ·rw [if_neg j,if_neg WF]
 ·rw [if_pos (by simp;omega)];unfold szR bkS;rw [if_neg WF]
theorem Zxa {α:Type} (a0:List α) (g:α->Option α) (u:Nat->List α->Int->Option (List α)) (p:∀x∈a0,g x=some x)
  (o:∀n out i,u (n+1) out i=if (decide (i<(a0.length:Int)))=true then (at? a0 i).bind λx=>(g x).bind λy=>(at? out i).bind λ_=>u n (out.set i.toNat y) (GZ (i+1)) else some out)
  (hl:a0.length<=1048576):∀(m n i:Nat) (out:List α),i+m=a0.length->m<n->out.length=a0.length->out.take i=a0.take i->u n out (i:Int)=some a0:=by
 intro m
 induction m with
 | zero=>
  intro n i out r s ho l;obtain ⟨n,rfl⟩:∃j,n=j+1:=⟨n-1,WF⟩;rw [o,if_neg (Qg WF)];rw [Gl WF,Gl WF] at l;rw [l]
 | succ m t=>
  intro n i out r s ho l;obtain ⟨n,rfl⟩:∃j,n=j+1:=⟨n-1,WF⟩;have k:i<a0.length:=WF
  rw [o,if_pos (ZL k),ZQ k,ZEH,p _ (Hl k),ZEH,ZQ WF,ZEH,wS i WF,Gb];refine t n (i+1) _ WF WF (by simp [ho]) ?_;rw [List.take_add_one,List.take_add_one,List.take_set_of_le WF,l];simp [ho,k]
theorem Jm {α:Type} (b:Nat) (j:b<=256) (z:α) (a0:List α) (g:α->Option α) (u:Nat->List α->Int->Option (List α)) (k:Nat) (l:∀x∈a0,g x=some x)
  (o:∀n out i,u (n+1) out i=if (decide (i<(a0.length:Int)))=true then (at? a0 i).bind λx=>(g x).bind λy=>(at? out i).bind λ_=>u n (out.set i.toNat y) (GZ (i+1)) else some out)
  (m:a0.length<k) (hl:a0.length<=1048576):((mk? b (a0.length:Int)).bind λn=>(u k (List.replicate n z) 0).bind λr=>some r)=some a0:=by
 rw [Zty WF j,ZEH];have:=Zxa a0 g u l o hl a0.length k 0 (List.replicate a0.length z) WF m Ha Ha;rw [show ((0:Nat):Int)=0 from rfl] at this;rw [this];rfl
theorem Zyc {α:Type} (a0:List α) (g:α->α->Option Bool) (u:Nat->Int->Option (Unit ⊕ Bool)) (o:∀x∈a0,g x x=some true)
  (l:∀n i,u (n+1) i=if (decide (i<(a0.length:Int)))=true then (at? a0 i).bind λx=>(at? a0 i).bind λy=>(g x y).bind λb=>if (!b)=true then some (.inr false) else u n (GZ (i+1)) else some (.inl ()))
  (hl:(a0.length:Int)<=9223372036854775807):∀(m n i:Nat),i+m=a0.length->m<n->u n (i:Int)=some (.inl ()):=by
 intro m
 induction m with
 | zero=>
  intro n i p r;obtain ⟨n,rfl⟩:∃j,n=j+1:=⟨n-1,WF⟩;rw [l,if_neg (Qg WF)]
 | succ m s=>
  intro n i p r;obtain ⟨n,rfl⟩:∃j,n=j+1:=⟨n-1,WF⟩;have k:i<a0.length:=WF
  rw [l,if_pos (ZL k),ZQ k,ZEH,ZEH,o _ (Hl k),ZEH,if_neg Ha,wS i WF];exact s n (i+1) WF WF
theorem Jt {α:Type} (a0:List α) (g:α->α->Option Bool) (u:Nat->Int->Option (Unit ⊕ Bool)) (k:Nat) (j:∀x∈a0,g x x=some true)
  (m:∀n i,u (n+1) i=if (decide (i<(a0.length:Int)))=true then (at? a0 i).bind λx=>(at? a0 i).bind λy=>(g x y).bind λb=>if (!b)=true then some (.inr false) else u n (GZ (i+1)) else some (.inl ()))
  (l:a0.length<k) (hl:(a0.length:Int)<=9223372036854775807):(if (!decide ((a0.length:Int)=(a0.length:Int)))=true then some false else (u k 0).bind fun | .inl _=>some true| .inr z=>some z)=some true:=by
 rw [if_neg Ha];have:=Zyc a0 g u j m hl a0.length k 0 WF l;rw [show ((0:Nat):Int)=0 from rfl] at this;rw [this];rfl
theorem Zv4 {α o β:Type} (xs:List α) (t:α->Bool) (T:α->Option Bool) (c:β) (e:o) (u:Nat->Int->Option (o ⊕ β)) (p:∀x∈xs,T x=some (t x))
  (l:∀n i,u (n+1) i=if (decide (i<(xs.length:Int)))=true then (at? xs i).bind λx=>(T x).bind λb=>if b=true then some (.inr c) else u n (GZ (i+1)) else some (.inl e))
  (hl:(xs.length:Int)<=9223372036854775807):∀(m n i:Nat),i+m=xs.length->m<n->u n (i:Int)=some (if (xs.drop i).any t=true then .inr c else .inl e):=by
 intro m
 induction m with
 | zero=>
  intro n i r s;obtain ⟨n,rfl⟩:∃j,n=j+1:=⟨n-1,WF⟩;rw [l,if_neg (Qg WF),Gp WF];rfl
 | succ m z=>
  intro n i r s;obtain ⟨n,rfl⟩:∃j,n=j+1:=⟨n-1,WF⟩;have k:i<xs.length:=WF
  rw [l,if_pos (ZL k),ZQ k,ZEH,p _ (Hl k),ZEH,wS i WF,Ho k,List.any_cons];cases A:t xs[i] with
  | true=>simp
  | false=>rw [if_neg Ha,z n (i+1) WF WF];simp
theorem Qi {α j β:Type} (xs:List α) (t:α->Bool) (T:α->Option Bool) (c:β) (e:j) (u:Nat->Int->Option (j ⊕ β)) (l:∀x∈xs,T x=some (t x))
  (o:∀n i,u (n+1) i=if (decide (i<(xs.length:Int)))=true then (at? xs i).bind λx=>(T x).bind λb=>if b=true then some (.inr c) else u n (GZ (i+1)) else some (.inl e))
  (hl:(xs.length:Int)<=9223372036854775807) {k:Nat} (m:xs.length<k):u k 0=some (if xs.any t=true then .inr c else .inl e):=by
 have:=Zv4 xs t T c e u l o hl xs.length k 0 WF m
 simpa using this
def anyI {α:Type} (t:Nat->α->Bool):Nat->List α->Bool
 | _,[]=>false
 | i,x::j=>t i x||anyI t (i+1) j
theorem Zuy {α p β:Type} (xs:List α) (t:Nat->α->Bool) (T:Int->α->Option Bool) (c:β) (e:p) (u:Nat->Int->Option (p ⊕ β)) (r:∀(j:Nat) (h:j<xs.length),T j xs[j]=some (t j xs[j]))
  (o:∀n i,u (n+1) i=if (decide (i<(xs.length:Int)))=true then (at? xs i).bind λx=>(T i x).bind λb=>if b=true then some (.inr c) else u n (GZ (i+1)) else some (.inl e))
  (hl:(xs.length:Int)<=9223372036854775807):∀(m n i:Nat),i+m=xs.length->m<n->u n (i:Int)=some (if anyI t i (xs.drop i)=true then .inr c else .inl e):=by
 intro m
 induction m with
 | zero=>
  intro n i s z;obtain ⟨n,rfl⟩:∃j,n=j+1:=⟨n-1,WF⟩;rw [o,if_neg (Qg WF),Gp WF];rfl
 | succ m A=>
  intro n i s z;obtain ⟨n,rfl⟩:∃j,n=j+1:=⟨n-1,WF⟩;have k:i<xs.length:=WF
  rw [o,if_pos (ZL k),ZQ k,ZEH,r i k,ZEH,wS i WF,Ho k];simp only [anyI]
  by_cases l:t i xs[i]=true
  ·simp [l]
  ·rw [if_neg l,A n (i+1) WF WF];simp [l]
theorem Ko {α l β:Type} (xs:List α) (t:Nat->α->Bool) (T:Int->α->Option Bool) (c:β) (e:l) (u:Nat->Int->Option (l ⊕ β)) (m:∀(j:Nat) (h:j<xs.length),T j xs[j]=some (t j xs[j]))
  (p:∀n i,u (n+1) i=if (decide (i<(xs.length:Int)))=true then (at? xs i).bind λx=>(T i x).bind λb=>if b=true then some (.inr c) else u n (GZ (i+1)) else some (.inl e))
  (hl:(xs.length:Int)<=9223372036854775807) {k:Nat} (o:xs.length<k):u k 0=some (if anyI t 0 xs=true then .inr c else .inl e):=by
 have:=Zuy xs t T c e u m p hl xs.length k 0 WF o
 simpa using this
theorem YI {α β:Type} [Inhabited β] {p:α->β->Prop} (xs:List α) (h:∀x∈xs,∃b,p x b):∃f:α->β,∀x∈xs,p x (f x):=by
 classical
 refine ⟨λx=>if j:x∈xs then (h x j).choose else default,λx j=> ?_⟩;simp only [j,dite_true];exact (h x j).choose_spec
def VF {α:Type} (p:α->α->Bool):List α->List α->Bool
 | [],[]=>true
 | x::j,y::k=>p x y&&VF p j k
 | _,_=>false
theorem ZnE {α:Type} {p:α->α->Bool}:∀{xs ys:List α},VF p xs ys=true->xs.length=ys.length
 | [],[],_=>rfl
 | x::xs,y::ys,h=>by simp only [VF,ZEM] at h;simp [ZnE h.2]
 | [],_::_,h=>by simp [VF] at h
 | _::_,[],h=>by simp [VF] at h
theorem Zgc {α:Type} (xs ys:List α) (p:α->α->Bool) (P:α->α->Option Bool) (u:Nat->Int->Option (Unit ⊕ Bool)) (s:∀x∈xs,∀y∈ys,P x y=some (!p x y))
  (r:∀n i,u (n+1) i=if (decide (i<(xs.length:Int)))=true then (at? xs i).bind λx=>(at? ys i).bind λy=>(P x y).bind λb=>if b=true then some (.inr false) else u n (GZ (i+1)) else some (.inl ()))
  (hl:(xs.length:Int)<=9223372036854775807) (C:xs.length=ys.length):∀(m n i:Nat),i+m=xs.length->m<n->u n (i:Int)=some (if VF p (xs.drop i) (ys.drop i)=true then .inl () else .inr false):=by
 intro m
 induction m with
 | zero=>
  intro n i t z;obtain ⟨n,rfl⟩:∃j,n=j+1:=⟨n-1,WF⟩;rw [r,if_neg (Qg WF),Gp WF,Gp WF];rfl
 | succ m A=>
  intro n i t z;obtain ⟨n,rfl⟩:∃j,n=j+1:=⟨n-1,WF⟩;have k:i<xs.length:=WF
  have l:i<ys.length:=WF
  rw [r,if_pos (ZL k),ZQ k,ZEH,ZQ l,ZEH,s _ (Hl k) _ (Hl l),ZEH,wS i WF,Ho k,Ho l];cases o:p xs[i] ys[i] with
  | true=>rw [if_neg Ha,A n (i+1) WF WF];simp [VF,o]
  | false=>simp [VF,o]
theorem Zmd {α:Type} (xs ys:List α) (p:α->α->Bool) (P:α->α->Option Bool) (u:Nat->Int->Option (Unit ⊕ Bool)) (l:∀x∈xs,∀y∈ys,P x y=some (!p x y))
  (o:∀n i,u (n+1) i=if (decide (i<(xs.length:Int)))=true then (at? xs i).bind λx=>(at? ys i).bind λy=>(P x y).bind λb=>if b=true then some (.inr false) else u n (GZ (i+1)) else some (.inl ()))
  (hl:(xs.length:Int)<=9223372036854775807) {k:Nat} (m:xs.length<k):
  (if (!decide ((xs.length:Int)=(ys.length:Int)))=true then some false else (u k 0).bind fun | .inl _=>some true| .inr z=>some z)=some (VF p xs ys):=by
 by_cases j:xs.length=ys.length
 ·rw [if_neg (by simp [j])];have:=Zgc xs ys p P u l o hl j xs.length k 0 WF m;rw [show ((0:Nat):Int)=0 from rfl] at this;rw [this];simp only [Gd,ZEH];cases VF p xs ys<;>rfl
 ·rw [if_pos (by simp;omega)];cases h:VF p xs ys with
  | false=>rfl
  | true=>exact absurd (ZnE h) j
theorem ZhR {O o:Type} (u:Nat->O->Int->Option o) (S:Nat->O) (R:Option o) (j:Nat)
  (step:∀n i,i<j->u (n+1) (S i) (i:Int)=u n (S (i+1)) ((i+1:Nat):Int)) (p:∀n,u (n+1) (S j) (j:Int)=R) {k:Nat} (s:j<k):u k (S 0) 0=R:=by
 have l:∀(m n i:Nat),i+m=j->m<n->u n (S i) (i:Int)=R:=by
  intro m
  induction m with
  | zero=>
   intro n i r t;obtain ⟨n,rfl⟩:∃q,n=q+1:=⟨n-1,WF⟩;obtain rfl:i=j:=WF
   exact p n
  | succ m z=>
   intro n i r t;obtain ⟨n,rfl⟩:∃q,n=q+1:=⟨n-1,WF⟩;rw [step n i WF];exact z n (i+1) WF WF
 exact l j k 0 WF s
def ZbE {α:Type} (p:α->Bool) (xs:List α):Int:=if xs.findIdx p<xs.length then (xs.findIdx p:Int) else-1
theorem ZqY {α:Type} {p:α->Bool} {xs:List α} {j:Nat} (h:ZbE p xs=(j:Int)):∃h:j<xs.length,p xs[j]=true:=by
 unfold ZbE at h
 split at h
 ·rename_i k;obtain rfl:xs.findIdx p=j:=by omega
  exact ⟨k,List.findIdx_getElem⟩
 ·omega
theorem ZvM {α:Type} (p:α->Bool) (xs:List α): -1<=ZbE p xs/\ZbE p xs<xs.length:=by
 unfold ZbE
 split<;>omega
theorem Zt5 {α:Type} {p:α->Bool} {xs:List α} (h:ZbE p xs<0):∀x∈xs,p x=false:=by
 unfold ZbE at h
 split at h
 ·omega
 ·rename_i k;intro x j;have l:xs.findIdx p<=xs.length:=List.findIdx_le_length;have e:xs.findIdx p=xs.length:=by omega
  simpa using List.findIdx_eq_length.1 e x j
theorem Zd3 {α o:Type} (xs:List α) (p:α->Bool) (u:Nat->Int->Option o) (yes:Nat->Option o) (no:Option o)
  (j:∀n i (h:i<xs.length),p xs[i]=false->u (n+1) (i:Int)=u n ((i+1:Nat):Int)) (l:∀n i (h:i<xs.length),p xs[i]=true->u (n+1) (i:Int)=yes i) (m:∀n,u (n+1) (xs.length:Int)=no)
  {k:Nat} (t:xs.length<k):u k 0=if xs.findIdx p<xs.length then yes (xs.findIdx p) else no:=by
 have s:xs.findIdx p<=xs.length:=List.findIdx_le_length;refine ZhR (λn (_:Unit) i=>u n i) (λ_=>()) _ (xs.findIdx p) (λn i r=> ?_) (λn=> ?_) WF
 ·exact j n i (HM r s) (by simpa using List.not_of_lt_findIdx r)
 ·by_cases h:xs.findIdx p<xs.length
  ·rw [if_pos h];exact l n _ h List.findIdx_getElem
  ·rw [if_neg h];have e:xs.findIdx p=xs.length:=by omega
   simp only [e];exact m n
inductive D where
 | int (n:Int)
 | byte (n:Int)
 | bool (b:Bool)
 | str (s:Ma)
 | agg (fs:List D)
 | sl (es:List D)
def I64 (n:Int):Prop:= -9223372036854775808<=n/\n<=9223372036854775807
mutual
def wd:D->Nat
 | .int _=>1
 | .byte _=>1
 | .bool _=>1
 | .str _=>1
 | .agg fs=>wdL fs
 | .sl _=>1
def wdL:List D->Nat
 | []=>0
 | d::j=>wd d+wdL j
end
def Zm0 (w:World) (b off:Nat) (xs:List Value):Prop:=∀j u,xs[j]? =some u->w.cell? ⟨b,off+j,none⟩=some u
mutual
def Rep (w:World):D->List Value->List Nat->Prop
 | .int n,cs,F=>cs=[.int .i64 n]/\F=[]/\I64 n
 | .byte n,cs,F=>cs=[.int .u8 n]/\F=[]/\0<=n/\n<=255
 | .bool b,cs,F=>cs=[.bool b]/\F=[]
 | .str s,cs,F=>cs=[.string s]/\F=[]/\s.size<=9223372036854775807
 | .agg fs,cs,F=>Zsr w fs cs F
 | .sl es,cs,F=>∃A c,cs=[.slice A es.length c]/\es.length<=c/\c<=9223372036854775807/\
   ((es=[]/\F=[])\/∃b off xs Fs,A=some ⟨b,off,none⟩/\b<w.heap.size/\F=b::Fs/\Zm0 w b off xs/\Zsr w es xs Fs)
def Zsr (w:World):List D->List Value->List Nat->Prop
 | [],cs,F=>cs=[]/\F=[]
 | d::m,cs,F=>∃c1 l j k,cs=c1++l/\F=j++k/\Rep w d c1 j/\Zsr w m l k
end
open Go.ChangeShapes Go.WideShapes Go.ChangeAt Go.RowKit Go.Deep
def has (P:Program):Nat->TypeId->D->Prop
 | 0,_,_=>False
 | n+1,t,d=>
  match P.underlying t with
  | some .bool=>∃b,d= .bool b
  | some (.int .i64)=>∃x,d= .int x
  | some (.int .u8)=>∃x,d= .byte x
  | some .string=>∃s,d= .str s
  | some (.slice e)=>∃es,d= .sl es/\∀x∈es,has P n e x
  | some (.struct fs)=>∃j,d= .agg j/\j.length=fs.size/\∀(i:Nat) (f:Field) (x:D),fs[i]? =some f->j[i]? =some x->has P n f.type x
  | _=>False
def Zvy (P:Program) (S:List TypeId):Nat->List Field->Bool
 | _,[]=>true
 | off,f::fs=>f.offset==off&&S.contains f.type&&Zvy P S (off+P.cellsOf f.type) fs
def Zoa (P:Program):List Field->Nat
 | []=>0
 | f::fs=>P.cellsOf f.type+Zoa P fs
def ZxA (P:Program) (S:List TypeId) (t:TypeId):Bool:=
 match P.underlying t with
 | some .bool=>P.cellsOf t==1
 | some (.int .i64)=>P.cellsOf t==1
 | some (.int .u8)=>P.cellsOf t==1
 | some .string=>P.cellsOf t==1
 | some (.slice e)=>P.cellsOf t==1&&S.contains e&&decide (0<P.cellsOf e)
 | some (.struct fs)=>Zvy P S 0 fs.toList&&P.cellsOf t==Zoa P fs.toList
 | _=>false
section
variable {H:Type} {enc:TypeId×Value->H} {P:Program} {w:World} {spare:Nat->Bool} {held:Bool}
theorem ZnQ {w:World} {W:Nat} {f:Nat->List Value} {b off:Nat}:∀(es:List D) (k:Nat),(∀i (h:i<es.length),∃F,Rep w es[i] (f (k+i)) F)->(∀i,i<es.length->(f (k+i)).length=W/\Zm0 w b (off+(k+i)*W) (f (k+i)))->
  ∃xs F,Zsr w es xs F/\Zm0 w b (off+k*W) xs
 | [],_,_,_=>⟨[],[],⟨rfl,rfl⟩,λj u l=>by simp at l⟩
 | e::es,k,p,s=>by
  obtain ⟨xs,F,r,c⟩:=ZnQ es (k+1) (λi m=>by have:=p (i+1) (by simpa using m);simpa [Gx,Nat.add_comm 1 i] using this)
   (λi m=>by have:=s (i+1) (by simpa using m);rwa [show k+(i+1)=k+1+i from WF] at this)
  obtain ⟨F0,t⟩:=p 0 Ha;obtain ⟨l0,o⟩:=s 0 Ha;simp only [Gr,List.getElem_cons_zero] at t l0 o;refine ⟨f k++xs,F0++F,⟨_,_,_,_,rfl,rfl,t,r⟩,λj u l=> ?_⟩
  by_cases hj:j<(f k).length
  ·rw [Gq hj] at l;exact o j u l
  ·rw [Ge WF] at l;have:=c (j-(f k).length) u l;rw [show off+(k+1)*W+(j-(f k).length)=off+k*W+j from by rw [HE];omega] at this;exact this
theorem ZjQ {n:Nat} (S:List TypeId) (p:∀(t:TypeId) (cs:List Value) (x:DataW H×List MemPlace),t∈S->DataW.trod enc P w 0 spare held n t cs=some x->∃d F,Rep w d cs F/\has P n t d):
  ∀(fs:List Field) (off:Nat) (cs:List Value),Zvy P S off fs=true->cs.length=off+Zoa P fs->(∀f∈fs,∃x,DataW.trod enc P w 0 spare held n f.type ((cs.drop f.offset).take (P.cellsOf f.type))=some x)->
   ∃j F,Zsr w j (cs.drop off) F/\j.length=fs.length/\∀(i:Nat) (f:Field) (x:D),fs[i]? =some f->j[i]? =some x->has P n f.type x
 | [],off,cs,_,hl,_=>⟨[],[],by simp only [Zsr];exact ⟨Gp (by simp only [Zoa] at hl;omega),trivial⟩,rfl,Ha⟩
 | f::fs,off,cs,k,hl,hf=>by
  simp only [Zvy,ZEM,beq_iff_eq] at k;obtain ⟨⟨r,s⟩,z⟩:=k;simp only [Zoa] at hl;obtain ⟨x,C⟩:=hf f Ha;obtain ⟨d,F,E,G⟩:=p _ _ _ (by simpa using s) C;obtain ⟨j,o,I,J,M⟩:=ZjQ S p fs (off+P.cellsOf f.type) cs z WF (λg A=>hf g (by simp [A]));refine ⟨d::j,F++o, ?_,by simp [J], ?_⟩
  ·simp only [Zsr];refine ⟨_,_,F,o, ?_,rfl,E,I⟩;rw [r,<-GB,Hn]
  ·intro i g y l m;cases i with
   | zero=>simp at l m;subst l m;exact G
   | succ i=>simp at l m;exact M i g y l m
theorem U2 (S:List TypeId) (hS:S.all (ZxA P S)=true):∀(G:Nat) (t:TypeId) (cs:List Value) (x:DataW H×List MemPlace),t∈S->
  DataW.trod enc P w 0 spare held G t cs=some x->∃d F,Rep w d cs F/\has P G t d
 | 0,_,_,_,_,h=>by simp [DataW.trod] at h
 | n+1,t,cs,x,ht,h=>by
  have p:=Hj.1 hS t ht;unfold ZxA at p
  split at p
  ·rename_i l;obtain ⟨b,rfl,_⟩:=DataW.trod_bool l h;exact ⟨.bool b,[],⟨rfl,rfl⟩,by simp only [has,l];exact ⟨b,rfl⟩⟩
  ·rename_i l;obtain ⟨m,rfl,_,hw⟩:=DataW.trod_int l h;refine ⟨.int m,[],⟨rfl,rfl, ?_⟩,by simp only [has,l];exact ⟨m,rfl⟩⟩
   simpa [I64,Lit.wf,IntKind.min,IntKind.max,IntKind.signed,IntKind.bits] using hw
  ·rename_i l;obtain ⟨m,rfl,_,hw⟩:=DataW.trod_int l h;refine ⟨.byte m,[],⟨rfl,rfl, ?_⟩,by simp only [has,l];exact ⟨m,rfl⟩⟩
   simpa [Lit.wf,IntKind.min,IntKind.max,IntKind.signed,IntKind.bits] using hw
  ·rename_i l;obtain ⟨s,rfl,_,hw⟩:=DataW.trod_string l h;exact ⟨.str s,[],⟨rfl,rfl,hw⟩,by simp only [has,l];exact ⟨s,rfl⟩⟩
  ·rename_i e l;simp only [ZEM,beq_iff_eq,decide_eq_true_eq] at p;obtain ⟨⟨b9,Y⟩,I⟩:=p;have J:e∈S:=by simpa using Y
   rcases DataW.trod_slice l h with ⟨rfl,_⟩| ⟨⟨b,r,C⟩,len,R,elems,b8,n',b5,rfl,_,_,hl,hm,c0,hi,_⟩
   ·exact ⟨.sl [],[],⟨none,0,rfl,Ha,WF,.inl ⟨rfl,rfl⟩⟩,by simp only [has,l];exact ⟨[],rfl,Ha⟩⟩
   ·obtain rfl:n=n':=by omega
    simp only [maxLen] at hm;rcases Nat.eq_zero_or_pos len with rfl| A
    ·exact ⟨.sl [],[],⟨some ⟨b,r,C⟩,R,rfl,Ha,WF,.inl ⟨rfl,rfl⟩⟩,by simp only [has,l];exact ⟨[],rfl,Ha⟩⟩
    have b1:∀i,i<len->∃y:List Value×D,(∃F,Rep w y.2 y.1 F)/\has P n e y.2/\y.1.length=P.cellsOf e/\∀j,j<P.cellsOf e->w.cell? ((Addr.mk b r C).add (i*P.cellsOf e) |>.add j)=y.1[j]? :=by
     intro i k;have z:=hi i k;rw [ZEP WF] at z;obtain ⟨T,b3,b6⟩:=Hq.1 z;obtain ⟨_,b2,o⟩:=World.cells?_some b3;obtain ⟨d,F,W,h3⟩:=U2 S hS n e T _ J b6;exact ⟨(T,d),⟨F,W⟩,h3,b2,o⟩
    have M:C=none:=by
     obtain ⟨y,_,_,b0,o⟩:=b1 0 A;have U:=o 0 I;rw [ZEP WF] at U
     simpa [Addr.add] using World.cell?_spot U
    subst M;have:Inhabited (List Value×D):=⟨([],.int 0)⟩;obtain ⟨f,hf⟩:=choose_lt b1
    have E:∀i,i<len->Zm0 w b (r+i*P.cellsOf e) (f i).1:=by
     intro i k j u Z;obtain ⟨_,_,b0,o⟩:=hf i k;have hj:j<P.cellsOf e:=by have:=(Hh.1 Z).1;omega
     have z:=o j hj;rw [Addr.add_lit,Addr.add_lit] at z;rw [z,Z]
    obtain ⟨xs,F,r1,r2⟩:=ZnQ (w:=w) (W:=P.cellsOf e) (f:=λi=>(f i).1) (b:=b) (off:=r) ((List.range len).map λi=>(f i).2) 0
     (λi k=>by
      simp only [HO,GO] at k
      simpa using (hf i k).1)
     (λi k=>by
      simp only [HO,GO] at k;simp only [HH];exact ⟨(hf i k).2.2.1,E i k⟩)
    have hb:b<w.heap.size:=by
     obtain ⟨_,_,b0,o⟩:=hf 0 A;have U:=o 0 I;rw [ZEP WF] at U;have:=World.block_lt_of_cell? w _ U
     simpa [Addr.add] using this
    refine ⟨.sl ((List.range len).map λi=>(f i).2),b::F, ?_, ?_⟩
    ·simp only [Rep];refine ⟨some ⟨b,r,none⟩,R,by simp [Value.cells],by simpa using hl,WF,.inr ⟨b,r,xs,F,rfl,hb,rfl,by simpa using r2,r1⟩⟩
    ·simp only [has,l];refine ⟨_,rfl,λy hy=> ?_⟩;obtain ⟨i,b4,rfl⟩:=Hd.1 hy;exact (hf i (by simpa using b4)).2.1
  ·rename_i fs l;simp only [ZEM,beq_iff_eq] at p;obtain ⟨X,b7⟩:=p;obtain ⟨xs,n',b5,_,A,c1,hg⟩:=DataW.trod_struct l h;obtain rfl:n=n':=by omega
   obtain ⟨ds,F,r1,r2,r3⟩:=ZjQ S (λt cs x z W=>U2 S hS n t cs x z W) fs.toList 0 cs X WF (λf hf=>by
    obtain ⟨i,hi,rfl⟩:=List.getElem_of_mem hf;have z:=hg i fs.toList[i] (by rw [Array.getElem?_eq_getElem (by simpa using hi)];simp);rw [ZEP (by simp at hi;omega)] at z;exact ⟨_,z⟩)
   refine ⟨.agg ds,F,by simp only [Rep];simpa using r1, ?_⟩;simp only [has,l];exact ⟨ds,rfl,by simpa using r2,λi f x z W=>r3 i f x (by simpa using z) W⟩
  ·cases p
end
mutual
def fl:D->List L
 | .int n=>[.int .i64 n]
 | .byte n=>[.int .u8 n]
 | .bool b=>[.bool b]
 | .str s=>[.str s]
 | .agg fs=>flL fs
 | .sl es=>[.sl (flE es)]
def flL:List D->List L
 | []=>[]
 | d::j=>fl d++flL j
def flE:List D->List (List L)
 | []=>[]
 | d::j=>fl d::flE j
end
theorem Zh3:∀j:List D,(flE j).length=j.length
 | []=>by simp [flE]
 | d::j=>by simp [flE,Zh3 j]
theorem Zlh {w:World}:∀{xs ys:List L} {m o:List Value} {j l:List Nat},RpL w xs m j->RpL w ys o l->RpL w (xs++ys) (m++o) (j++l)
 | [],_,_,_,_,_,h,k=>by simp only [RpL] at h;obtain ⟨rfl,rfl⟩:=h;simpa using k
 | x::xs,_,_,_,_,_,h,k=>by
  simp only [RpL] at h;obtain ⟨v,t,p,z,rfl,rfl,r,s⟩:=h;simp only [Hm,RpL];exact ⟨v,_,p,_,rfl,Ha,r,Zlh s k⟩
theorem ZnM {w:World}:∀{xs ys:List L} {vs:List Value} {F:List Nat},RpL w (xs++ys) vs F->∃k m j l,vs=k++m/\F=j++l/\RpL w xs k j/\RpL w ys m l
 | [],_,vs,F,h=>⟨[],vs,[],F,rfl,rfl,by simp [RpL],h⟩
 | x::xs,_,_,_,h=>by
  simp only [Hm,RpL] at h;obtain ⟨v,z,o,A,rfl,rfl,p,r⟩:=h;obtain ⟨k,m,j,l,rfl,rfl,s,t⟩:=ZnM r;exact ⟨v::k,m,o++j,l,rfl,Ha,by simp only [RpL];exact ⟨v,k,o,j,rfl,rfl,p,s⟩,t⟩
theorem ZjN {w:World} {x:L} {vs:List Value} {F:List Nat}:RpL w [x] vs F↔∃v,vs=[v]/\Rp w x v F:=by
 simp only [RpL];constructor
 ·rintro ⟨v,k,l,m,rfl,rfl,j,rfl,rfl⟩;exact ⟨v,rfl,by simpa using j⟩
 ·rintro ⟨v,rfl,h⟩;exact ⟨v,[],F,[],rfl,Ha,h,rfl,rfl⟩
theorem ZvA {n:Int}:InK .i64 n↔I64 n:=Am.ZaH n
mutual
theorem ZgF {w:World}:∀{d:D} {cs:List Value} {F:List Nat},Rep w d cs F↔RpL w (fl d) cs F
 | .int n,cs,F=>by simp only [Rep,fl,ZjN,Rp,ZvA];constructor;(rintro ⟨rfl,h⟩;exact ⟨_,rfl,rfl,h⟩);(rintro ⟨v,rfl,rfl,h⟩;exact ⟨rfl,h⟩)
 | .byte n,cs,F=>by simp only [Rep,fl,ZjN,Rp,ZwF];constructor;(rintro ⟨rfl,h⟩;exact ⟨_,rfl,rfl,h⟩);(rintro ⟨v,rfl,rfl,h⟩;exact ⟨rfl,h⟩)
 | .bool n,cs,F=>by simp only [Rep,fl,ZjN,Rp];constructor;(rintro ⟨rfl,h⟩;exact ⟨_,rfl,rfl,h⟩);(rintro ⟨v,rfl,rfl,h⟩;exact ⟨rfl,h⟩)
 | .str n,cs,F=>by simp only [Rep,fl,ZjN,Rp,Fit];constructor;(rintro ⟨rfl,h⟩;exact ⟨_,rfl,rfl,h⟩);(rintro ⟨v,rfl,rfl,h⟩;exact ⟨rfl,h⟩)
 | .agg fs,cs,F=>by simp only [Rep,fl];exact Zpe
 | .sl es,cs,F=>by
  simp only [Rep,fl,ZjN,Rp,Zh3];constructor
  ·rintro ⟨A,c,rfl,j,k,⟨rfl,rfl⟩| ⟨b,off,xs,Fs,r,s,t,z,C⟩⟩
   ·exact ⟨_,rfl,A,c,rfl,j,k,.inl ⟨by simp [flE],rfl⟩⟩
   ·exact ⟨_,rfl,A,c,rfl,j,k,.inr ⟨b,off,xs,Fs,r,s,t,z,Zmm.1 C⟩⟩
  ·rintro ⟨v,rfl,A,c,rfl,j,k,⟨E,rfl⟩| ⟨b,off,xs,Fs,r,s,t,z,C⟩⟩
   ·refine ⟨A,c,rfl,j,k,.inl ⟨?_,rfl⟩⟩;have:=Zh3 es;rw [E] at this
    simpa using this.symm
   ·exact ⟨A,c,rfl,j,k,.inr ⟨b,off,xs,Fs,r,s,t,z,Zmm.2 C⟩⟩
theorem Zpe {w:World}:∀{l:List D} {cs:List Value} {F:List Nat},Zsr w l cs F↔RpL w (flL l) cs F
 | [],cs,F=>by simp only [Zsr,flL,RpL]
 | d::l,cs,F=>by
  simp only [Zsr,flL];constructor
  ·rintro ⟨c1,p,m,o,rfl,rfl,j,k⟩;exact Zlh (ZgF.1 j) (Zpe.1 k)
  ·intro h;obtain ⟨c1,p,m,o,rfl,rfl,j,k⟩:=ZnM h;exact ⟨c1,p,m,o,rfl,rfl,ZgF.2 j,Zpe.2 k⟩
theorem Zmm {w:World}:∀{l:List D} {cs:List Value} {F:List Nat},Zsr w l cs F↔RpE w (flE l) cs F
 | [],cs,F=>by simp only [Zsr,flE,RpE]
 | d::l,cs,F=>by
  simp only [Zsr,flE,RpE];constructor
  ·rintro ⟨c1,p,m,o,rfl,rfl,j,k⟩;exact ⟨c1,p,m,o,rfl,rfl,ZgF.1 j,Zmm.1 k⟩
  ·rintro ⟨c1,p,m,o,rfl,rfl,j,k⟩;exact ⟨c1,p,m,o,rfl,rfl,ZgF.2 j,Zmm.2 k⟩
end
theorem Zr2 {α:Type} {c:α->List L} (es:List D) (h:∀x∈es,∃y:α,fl x=c y):∃ys:List α,flE es=ys.map c:=by
 induction es with
 | nil=>exact ⟨[],rfl⟩
 | cons e es m=>
  obtain ⟨y,l⟩:=h e Ha;obtain ⟨ys,j⟩:=m (λx k=>h x (by simp [k]));exact ⟨y::ys,by simp only [flE,Hi,l,j]⟩
theorem Zu {P:Program} {n t e:Nat} {α:Type} {c:α->List L} {d:D} (k:P.underlying t=some (.slice e)) (hi:∀m,m<n->∀x,has P m e x->∃y:α,fl x=c y) (h:has P n t d):∃ys:List α,fl d=[.sl (ys.map c)]:=by
 cases n with
 | zero=>exact h.elim
 | succ n=>
  simp only [has,k] at h;obtain ⟨es,rfl,hf⟩:=h;obtain ⟨ys,j⟩:=Zr2 (c:=c) es λx l=>hi n WF x (hf x l);exact ⟨ys,by simp only [fl,j]⟩
theorem Zh {P:Program} {n t:Nat} {d:D} (j:P.underlying t=some (.int .i64)) (h:has P n t d):∃y:Int,fl d=[.int .i64 y]:=by
 cases n with
 | zero=>exact h.elim
 | succ n=>
  simp only [has,j] at h;obtain ⟨y,rfl⟩:=h;exact ⟨y,by simp only [fl]⟩
theorem Zhb {P:Program} {n t:Nat} {d:D} (j:P.underlying t=some .bool) (h:has P n t d):∃y:Bool,fl d=[.bool y]:=by
 cases n with
 | zero=>exact h.elim
 | succ n=>
  simp only [has,j] at h;obtain ⟨y,rfl⟩:=h;exact ⟨y,by simp only [fl]⟩
theorem YK {P:Program} {n t:Nat} {d:D} (j:P.underlying t=some .string) (h:has P n t d):∃y:Ma,fl d=[.str y]:=by
 cases n with
 | zero=>exact h.elim
 | succ n=>
  simp only [has,j] at h;obtain ⟨y,rfl⟩:=h;exact ⟨y,by simp only [fl]⟩
theorem Zcm {w:World} {d:DV} {j:List DV} {v:Value} {vs:List Value} {F G:List Nat} (h:Zad w d v F) (k:Yu w j vs G):Yu w (d::j) (v::vs) (F++G):=⟨v,vs,F,G,rfl,rfl,h,k⟩
theorem Zkj {w:World}:Yu w [] [] []:=⟨rfl,rfl⟩
theorem JN {w:World} {j:List L} {cl:List Value} {F:List Nat} (h:RpL w j cl F):Zad w (.agg j) (.agg ⟨cl⟩) F:=⟨cl,rfl,h⟩
theorem ZwK {w:World} {n:Int} (h: -9223372036854775808<=n/\n<=9223372036854775807):Zad w (.one (.int .i64 n)) (.int .i64 n) []/\DOk (.int .i64 n):=by
 have:InK .i64 n:=(ZaH n).2 h;exact ⟨by simp only [Zad,Rp];exact ⟨trivial,trivial,this⟩,by simp only [DOk];exact this⟩
theorem ZgO {P:Program} {f:Nat} {k:List DV} {vs:List Value} {W:World} {j:List Nat} (hc:Ctr P f k true [.one (.bool true)]) (p:∃G,Glb W G) (hd:Yu W k vs j):
  Calls P f vs.toArray W λe w'=>e= .returned (.bool true)/\Below W.heap.size W w':=by
 refine (hc.2 W vs j p hd).mono λe w' ⟨z,o,l,m⟩=> ?_;simp only [ZdC,if_true,ZeG,Zr3,Ow] at l;obtain ⟨F,⟨v,r,s,t,rfl,rfl,⟨rfl,_⟩,rfl,_⟩,_⟩:=l;exact ⟨o,m⟩
end Go.Proofs.YtmcfegjoccgpoaaGreatDoor
