import Derived.Test.YtbkllghhcphkaaaGreatDoorPkB
import Derived.Deep.Draws
import Derived.ProofKit
import Derived.OpenShut
import Derived.ShutString
import Derived.ChangeOld
import Derived.Deep.Slices
import Derived.Deep.Fields
set_option linter.unusedSimpArgs false
set_option linter.unusedVariables false
namespace Go.Proofs.YtbkllghhcphkaaaGreatDoor.Am
open Go.RowKit
section
variable (P:Program) (ops:Array Oper) (σ0:St) (K:St->Prop) (B:List (List Nat))
def ZdK:List (List Nat)->List Oper->Nat->List (Nat×Eff)->Prop
 | A::As,o::rest,i,es=>match o.guard with
  | none=>match Xv o.op with
   | some (f,xs)=>match (Xl (view σ0 es A) xs).bind (WN (view σ0 es A)) with
    | some (ds,pu,p)=>p/\((∃fr dp rs,Ctr P f ds fr rs/\(fr=false->pu=true)/\(match QT (view σ0 es A) o.dst fr dp rs with | some g=>g.side/\ZdK As rest (i+1) ((i,g)::es)| none=>False))\/XBy P (view σ0 es A) o.dst f (Xl (view σ0 es A) xs) fun g=>ZdK As rest (i+1) ((i,g)::es))
    | none=>XBy P (view σ0 es A) o.dst f (Xl (view σ0 es A) xs) fun g=>ZdK As rest (i+1) ((i,g)::es)
   | none=>match Jo P (view σ0 es A) o with | some g=>g.side/\ZdK As rest (i+1) ((i,g)::es)| none=>False
  | some (j,want)=>match yld (view σ0 es A) ops j want with
   | some b=>if b=want then match Xv o.op with
     | some (f,xs)=>match (Xl (view σ0 es A) xs).bind (WN (view σ0 es A)) with
      | some (ds,pu,p)=>p/\((∃fr dp rs,Ctr P f ds fr rs/\(fr=false->pu=true)/\(match QT (view σ0 es A) o.dst fr dp rs with | some g=>g.side/\ZdK As rest (i+1) ((i,g)::es)| none=>False))\/XBy P (view σ0 es A) o.dst f (Xl (view σ0 es A) xs) fun g=>ZdK As rest (i+1) ((i,g)::es))
      | none=>XBy P (view σ0 es A) o.dst f (Xl (view σ0 es A) xs) fun g=>ZdK As rest (i+1) ((i,g)::es)
     | none=>match Jo P (view σ0 es A) o with | some g=>g.side/\ZdK As rest (i+1) ((i,g)::es)| none=>False
    else ZdK As rest (i+1) ((i,⟨True,match o.dst with | some d=>[(d,.dead)]| none=>[],[],[]⟩)::es)
   | none=>False
 | _,[],_,es=>dOk σ0 B es=true/\K (ZaD σ0 es)
 | _,_,_,_=>False
def ZeR (As:List (List Nat)) (rest:List Oper) (i:Nat) (es:List (Nat×Eff)):Option Eff->Prop
 | some g=>g.side/\ZdK P ops σ0 K B As rest (i+1) ((i,g)::es)
 | none=>False
def ZkZ (As:List (List Nat)) (o:Oper) (rest:List Oper) (i:Nat) (es:List (Nat×Eff)) (σ:St) (f:Nat) (vs:Option (List V)):Option (List DV×Bool×Prop)->Prop
 | some (ds,pu,p)=>p/\((∃fr dp rs,Ctr P f ds fr rs/\(fr=false->pu=true)/\ZeR P ops σ0 K B As rest i es (QT σ o.dst fr dp rs))\/XBy P σ o.dst f vs fun g=>ZdK P ops σ0 K B As rest (i+1) ((i,g)::es))
 | none=>XBy P σ o.dst f vs fun g=>ZdK P ops σ0 K B As rest (i+1) ((i,g)::es)
def Zm6 (As:List (List Nat)) (o:Oper) (rest:List Oper) (i:Nat) (es:List (Nat×Eff)) (σ:St):Option (Nat×List Operand)->Prop
 | some (f,xs)=>ZkZ P ops σ0 K B As o rest i es σ f (Xl σ xs) ((Xl σ xs).bind (WN σ))
 | none=>ZeR P ops σ0 K B As rest i es (Jo P σ o)
def ZhH (As:List (List Nat)) (o:Oper) (rest:List Oper) (i:Nat) (es:List (Nat×Eff)) (σ:St) (want:Bool):Option Bool->Prop
 | some b=>if b=want then Zm6 P ops σ0 K B As o rest i es σ (Xv o.op) else ZdK P ops σ0 K B As rest (i+1) ((i,⟨True,match o.dst with | some d=>[(d,.dead)]| none=>[],[],[]⟩)::es)
 | none=>False
end
section
variable {P:Program} {ops:Array Oper} {σ0:St} {K:St->Prop} {B:List (List Nat)}
theorem Zj8 (As:List (List Nat)) (i:Nat) (es:List (Nat×Eff)):ZdK P ops σ0 K B As [] i es=(dOk σ0 B es=true/\K (ZaD σ0 es)):=by cases As<;>rfl
theorem ZfC (A:List Nat) (As:List (List Nat)) (rest:List Oper) (i:Nat) (es:List (Nat×Eff)) (d:Option Nat) (op:Op) (ty:Nat) (pos:String) (af:Array Edge):
  ZdK P ops σ0 K B (A::As) (⟨d,op,ty,pos,af,none⟩::rest) i es=Zm6 P ops σ0 K B As ⟨d,op,ty,pos,af,none⟩ rest i es (view σ0 es A) (Xv op):=by
 rw [ZdK];simp only [Zm6,ZkZ,ZeR]
theorem ZfD (A:List Nat) (As:List (List Nat)) (rest:List Oper) (i:Nat) (es:List (Nat×Eff)) (d:Option Nat) (op:Op) (ty:Nat) (pos:String) (af:Array Edge) (j:Nat) (want:Bool):
  ZdK P ops σ0 K B (A::As) (⟨d,op,ty,pos,af,some (j,want)⟩::rest) i es=ZhH P ops σ0 K B As ⟨d,op,ty,pos,af,some (j,want)⟩ rest i es (view σ0 es A) want (yld (view σ0 es A) ops j want):=by
 rw [ZdK];simp only [ZhH,Zm6,ZkZ,ZeR]
theorem ZcE:∀{As:List (List Nat)} {l:List Oper} {i:Nat} {es:List (Nat×Eff)},ZdK P ops σ0 K B As l i es->Zk2 P ops σ0 K B As l i es
 | As,[],i,es,h=>by rw [Zj8] at h;exact Zj6 As i es h.1 h.2
 | [],o::l,i,es,h=>by unfold ZdK at h;exact h.elim
 | A::As,⟨d,op,ty,pos,af,gd⟩::l,i,es,h=>by
  have run:∀gd,Zm6 P ops σ0 K B As ⟨d,op,ty,pos,af,gd⟩ l i es (view σ0 es A) (Xv op)->ZqZ P ops σ0 K B As ⟨d,op,ty,pos,af,gd⟩ l i es (view σ0 es A) (Xv op):=by
   intro gd hr
   have nx:∀g,ZeR P ops σ0 K B As l i es g->ZkQ P ops σ0 K B As l i es g:=by
    intro g hg;cases g with
    | none=>exact hg
    | some g=>exact ⟨hg.1,ZcE hg.2⟩
   unfold Zm6 at hr;unfold ZqZ;cases hc:Xv op with
   | none=>rw [hc] at hr;exact nx _ hr
   | some p=>
    obtain ⟨f,xs⟩:=p;rw [hc] at hr;simp only at hr ⊢;cases hd:(Xl (view σ0 es A) xs).bind (WN (view σ0 es A)) with
    | none=>
     rw [hd] at hr;obtain ⟨vs,g,hvs,hx,hg⟩:=hr;exact ⟨vs,g,hvs,hx,ZcE hg⟩
    | some r=>
     obtain ⟨ds,pu,p⟩:=r;rw [hd] at hr;obtain ⟨h1,⟨fr,dp,rs,h2,h3,h4⟩| ⟨vs,g,hvs,hx,hg⟩⟩:=hr
     ·exact ⟨h1,.inl ⟨fr,dp,rs,h2,h3,nx _ h4⟩⟩
     ·exact ⟨h1,.inr ⟨vs,g,hvs,hx,ZcE hg⟩⟩
  cases gd with
  | none=>rw [ZfC] at h;exact Zk0 A As l i es d op ty pos af (run _ h)
  | some p=>
   obtain ⟨j,want⟩:=p;rw [ZfD] at h;refine Zk1 A As l i es d op ty pos af j want ?_;cases hy:yld (view σ0 es A) ops j want with
   | none=>rw [hy] at h;exact h
   | some b=>
    rw [hy] at h;simp only [ZhH] at h;simp only [Zmz]
    split
    ·rename_i hb;rw [if_pos hb] at h;exact run _ h
    ·rename_i hb;rw [if_neg hb] at h;exact ⟨trivial,ZcE h⟩
theorem ZJ {N:Nat->Prop} {w0:Bs} {Q:Exit->St->Prop} {id:Nat} {l:List Oper} (A:List (List Nat)) (hm:P.follows .mixedOrders=true) (hd:Zbf l A=true) (h:ZdK P l.toArray σ0 (fun σ'=>Q .normal σ') A A l 0 []):AW P N w0 (.region id l.toArray true) Q σ0:=
 Zm3 A hm hd (ZcE h)
end
section
variable {P:Program} {N:Nat->Prop} {w0:Bs} {Q:Exit->St->Prop} {c:Code} {σ:St}
def Ok:L->Prop
 | .int k n=>InK k n
 | .bool _=>True
 | .str s=>Fit s
 | .sl es=>es.length<=9223372036854775807
 | .void=>True
theorem Rp.ok {w:World} {x:L} {v:Value} {F:List Nat} (h:Rp w x v F):Ok x:=by
 cases x<;>simp only [Rp] at h
 ·exact h.2.2
 ·trivial
 ·exact h.2.2
 ·obtain ⟨A,c,h1,h2,h3,_⟩:=h;show _<=_;omega
 ·trivial
def OkE (es:List (List L)):Prop:=∀e∈es,∀x∈e,Ok x
theorem RpL.ok {w:World}:∀{xs:List L} {vs:List Value} {F:List Nat},RpL w xs vs F->∀x∈xs,Ok x
 | [],_,_,_=>by simp
 | x::xs,_,_,h=>by
  simp only [RpL] at h;obtain ⟨v,vs',F1,F2,rfl,rfl,h1,h2⟩:=h;intro y hy;rcases List.mem_cons.1 hy with rfl| hy
  ·exact h1.ok
  ·exact RpL.ok h2 y hy
theorem RpE.ok {w:World}:∀{xs:List (List L)} {vs:List Value} {F:List Nat},RpE w xs vs F->OkE xs
 | [],_,_,_=>by simp [OkE]
 | x::xs,_,_,h=>by
  simp only [RpE] at h;obtain ⟨v1,v2,F1,F2,rfl,rfl,h1,h2⟩:=h;intro y hy;rcases List.mem_cons.1 hy with rfl| hy
  ·exact h1.ok
  ·exact RpE.ok h2 y hy
end
structure Chg (F:List Nat) (w w':World):Prop where
 os:w'.os=w.os
 tape:w'.tape=w.tape
 output:w'.output=w.output
 size:w.heap.size<=w'.heap.size
 block:∀b,b<w.heap.size->b∉F->w'.heap[b]? =w.heap[b]?
def ZoX (w:World) (b:Nat):Prop:=∃cur t,w.heap[b]? =some (.cells cur t (0,0))
def ZqQ (P:Program) (f:Nat) (d:DV) (k:Int) (d':DV) (k':Int):Prop:=
 Wx P f=true/\∀(w:World) (v:Value) (F:List Nat),U5 w d v F->F.Nodup->(∀b∈F,ZoX w b)->
  Calls P f #[v,.int .i64 k] w fun e w'=>e= .returned (.int .i64 k')/\InK .i64 k'/\U5 w' d' v F/\Chg F w w'
def wrC (σ:St):CV->Option (L×List Nat×Prop)
 | .l x=>if x.flat then some (x,[],True) else none
 | .nil=>some (.sl [],[],True)
 | .own τ n=>match σ.ar.lookup τ with
  | some (some A)=>if A.fr=true/\1000000<=τ then some (.sl A.es,[τ],A.es.length=n) else none
  | _=>none
 | _=>none
def wrL (σ:St):List CV->Option (List L×List Nat×Prop)
 | []=>some ([],[],True)
 | c::cs=>match wrC σ c,wrL σ cs with
  | some (x,τ,p),some (xs,τs,q)=>some (x::xs,τ++τs,p/\q)
  | _,_=>none
def wrV (σ:St):V->Option (DV×List Nat×Prop)
 | .one c=>(wrC σ c).map fun r=>(.one r.1,r.2)
 | .agg cs=>(wrL σ cs).map fun r=>(.agg r.1,r.2)
 | _=>none
def Zld:List CV->List L->List (Nat×List (List L))
 | .own τ _::cs,.sl es::xs=>(τ,es)::Zld cs xs
 | _::cs,_::xs=>Zld cs xs
 | _,_=>[]
def Zky:V->DV->List (Nat×List (List L))
 | .one c,.one x=>Zld [c] [x]
 | .agg cs,.agg xs=>Zld cs xs
 | _,_=>[]
def mkC (m:List (Nat×List (List L))):CV->CV
 | .own τ n=>match m.lookup τ with
  | some es=>if es.length=n then .l (.sl es) else .own τ n
  | none=>.own τ n
 | c=>c
def mkV (m:List (Nat×List (List L))):V->V
 | .one c=>.one (mkC m c)
 | .agg cs=>.agg (cs.map (mkC m))
 | .tup ps=>.tup (ps.map fun p=>(p.1,p.2.map (mkC m)))
 | .dead=>.dead
def St.wrote (σ:St) (m:List (Nat×List (List L))):St:=
 ⟨σ.nt,σ.tm.map (fun p=>(p.1,mkV m p.2)),σ.bx.map (fun p=>(p.1,p.2.map (mkC m))),m.map (fun p=>(p.1,none))++σ.ar⟩
section
variable {e:Env} {σ:St} {w:World} {N:Nat->Prop} {w0:Bs} {a:Act} {P:Program}
theorem VG {α β:Type} (g:α->β):∀(l:List (Nat×α)) (k:Nat),(l.map fun p=>(p.1,g p.2)).lookup k=(l.lookup k).map g
 | [],_=>rfl
 | (j,x)::l,k=>by
  simp only [List.map_cons,lookup_cons,VG g l k]
  by_cases h:k=j<;>simp [h]
theorem Zer {α β:Type} (m:List (Nat×α)) (l:List (Nat×Option β)) (k:Nat):(m.map (fun p=>(p.1,(none:Option β)))++l).lookup k=if (m.lookup k).isSome then some none else l.lookup k:=by
 induction m with
 | nil=>simp
 | cons p m ih=>
  obtain ⟨j,x⟩:=p;simp only [List.map_cons,List.cons_append,lookup_cons,ih]
  by_cases h:k=j
  ·simp only [if_pos h,Option.isSome_some,if_true]
  ·simp only [if_neg h]
theorem Ve.ow (h:ZC N w0 e σ a w) {τ:Nat} {A:Arr} (hA:σ.ar.lookup τ=some (some A)) (hf:A.fr=true):Ow N w (.sl A.es) (e.ρ τ) (e.φ τ):=by
 obtain ⟨p,c,hv,hc,h3| ⟨b,t,cur,Fs,W,k1,k2,k3,k4,k5,k6,k7,k8⟩⟩:=h.ar τ A hA
 ·simp only [Ow];exact ⟨p,c,hv,hc,.inl h3⟩
 ·simp only [Ow];rcases k8 with ⟨g1,g2,g3,g4⟩| ⟨g1,_⟩
  ·exact ⟨p,c,hv,hc,.inr ⟨b,t,cur,Fs,W,k1,k2,k3,k4,k5,k6,k7,g2,g4⟩⟩
  ·rw [hf] at g1;cases g1
theorem Zh2 (h:ZC N w0 e σ a w) {c:CV} {v:Value} (hr:c.rel e σ w v) {x:L} {τs:List Nat} {p:Prop} (hc:wrC σ c=some (x,τs,p)) (hp:p):
  Ow N w x v (τs.flatMap e.φ)/\(∀τ∈τs,(∃A,σ.ar.lookup τ=some (some A)/\A.fr=true)/\1000000<=τ)/\(∀τ n,c= .own τ n->v=e.ρ τ):=by
 unfold wrC at hc
 split at hc
 ·split at hc
  ·rename_i hf;simp only [Zwh,Zwi] at hc;obtain ⟨rfl,rfl,rfl⟩:=hc;obtain ⟨F,h1,_⟩:=hr;exact ⟨(h1.flat (N:=N) hf).2,by simp,by simp⟩
  ·cases hc
 ·simp only [Zwh,Zwi] at hc;obtain ⟨rfl,rfl,rfl⟩:=hc;have hv:v= .slice none 0 0:=hr;subst hv;refine ⟨?_,by simp,by simp⟩;simp only [Ow];exact ⟨none,0,rfl,by omega,.inl (by simp)⟩
 ·rename_i τ n
  split at hc
  ·rename_i A hA
   split at hc
   ·rename_i hf;simp only [Zwh,Zwi] at hc;obtain ⟨rfl,rfl,rfl⟩:=hc;obtain ⟨A',hA',h1,_⟩:=hr;rw [hA] at hA';obtain rfl:=Zwf hA';have hv:=(h1 A rfl).2 hp;refine ⟨?_,fun κ hκ=> ?_,fun τ' n' hτ=> ?_⟩
    ·rw [hv];simpa using Ve.ow h hA hf.1
    ·obtain rfl:=List.mem_singleton.1 hκ;exact ⟨⟨A,hA,hf.1⟩,hf.2⟩
    ·injection hτ with hτ _
     rw [<-hτ];exact hv
   ·cases hc
  ·cases hc
 ·cases hc
theorem Zh1 (h:ZC N w0 e σ a w):∀{cs:List CV} {vs:List Value},Yb e σ w cs vs->∀{xs:List L} {τs:List Nat} {p:Prop},wrL σ cs=some (xs,τs,p)->p->
  OwL N w xs vs (τs.flatMap e.φ)/\(∀τ∈τs,(∃A,σ.ar.lookup τ=some (some A)/\A.fr=true)/\1000000<=τ)/\(∀(i:Nat) τ n v,cs[i]? =some (.own τ n)->vs[i]? =some v->v=e.ρ τ)
 | [],vs,hr,xs,τs,p,hc,hp=>by
  simp only [Yb] at hr;subst hr;simp only [wrL,Zwh,Zwi] at hc;obtain ⟨rfl,rfl,rfl⟩:=hc;simp [OwL]
 | c::cs,vs,hr,xs,τs,p,hc,hp=>by
  simp only [Yb] at hr;obtain ⟨v,vs',rfl,h1,h2⟩:=hr;simp only [wrL] at hc
  split at hc
  ·rename_i x τ1 p1 xs2 τ2 p2 e1 e2;simp only [Zwh,Zwi] at hc;obtain ⟨rfl,rfl,rfl⟩:=hc;obtain ⟨k1,k2,k3⟩:=Zh2 h h1 e1 hp.1;obtain ⟨g1,g2,g3⟩:=Zh1 h h2 e2 hp.2;refine ⟨?_,fun τ hτ=>by rcases List.mem_append.1 hτ with hτ| hτ;exact k2 τ hτ;exact g2 τ hτ,fun i τ n u hi hu=> ?_⟩
   ·simp only [OwL,List.flatMap_append];exact ⟨v,vs',_,_,rfl,rfl,k1,g1⟩
   ·cases i with
    | zero=>simp at hi hu;subst hu;exact k3 τ n hi
    | succ i=>exact g3 i τ n u (by simpa using hi) (by simpa using hu)
  ·cases hc
theorem Zf8:∀{cs:List CV} {xs:List L} {τ:Nat} {es:List (List L)},(τ,es)∈Zld cs xs->∃(i n:Nat),cs[i]? =some (CV.own τ n)/\xs[i]? =some (L.sl es)
 | [],xs,τ,es,h=>by cases xs<;>simp [Zld] at h
 | c::cs,[],τ,es,h=>by cases c<;>simp [Zld] at h
 | c::cs,x::xs,τ,es,h=>by
  have rest:(τ,es)∈Zld cs xs->∃(i n:Nat),(c::cs)[i]? =some (CV.own τ n)/\(x::xs)[i]? =some (L.sl es):=fun h=>by
   obtain ⟨i,n,h1,h2⟩:=Zf8 h;exact ⟨i+1,n,by simpa using h1,by simpa using h2⟩
  cases c with
  | own τ' n'=>
   cases x with
   | sl es'=>
    simp only [Zld,List.mem_cons,Zwi] at h;rcases h with ⟨rfl,rfl⟩| h
    ·exact ⟨0,n',rfl,rfl⟩
    ·exact rest h
   | _=>exact rest (by simpa [Zld] using h)
  | _=>exact rest (by simpa [Zld] using h)
theorem RpL.at:∀{xs:List L} {vs:List Value} {F:List Nat},RpL w xs vs F->∀{i:Nat} {x:L},xs[i]? =some x->∃v G,vs[i]? =some v/\Rp w x v G/\∀b∈G,b∈F
 | x::xs,vs,F,h,i,y,hi=>by
  simp only [RpL] at h;obtain ⟨v,vs',F1,F2,rfl,rfl,h1,h2⟩:=h;cases i with
  | zero=>simp at hi;subst hi;exact ⟨v,F1,rfl,h1,fun b hb=>by simp [hb]⟩
  | succ i=>
   obtain ⟨u,G,g1,g2,g3⟩:=RpL.at h2 (i:=i) (by simpa using hi);exact ⟨u,G,by simpa using g1,g2,fun b hb=>by simp [g3 b hb]⟩
theorem ZC.wrote (h:ZC N w0 e σ a w) (hbad:∀b,w0.bad b->¬N b) {w':World} {τs:List Nat} {m:List (Nat×List (List L))} (hl:∀τ∈τs,(∃A,σ.ar.lookup τ=some (some A)/\A.fr=true)/\1000000<=τ)
  (hc:Chg (τs.flatMap e.φ) w w') (hm:∀τ es,m.lookup τ=some es->∃G,Rp w' (.sl es) (e.ρ τ) G/\∀b∈G,b∈τs.flatMap e.φ) (hm1:∀τ∈τs,(m.lookup τ).isSome=true) (hm2:∀τ es,m.lookup τ=some es->τ∈τs/\∀A,σ.ar.lookup τ=some (some A)->A.es.length=es.length):
  ZC N w0 ⟨e.β,e.ρ,e.φ,fun b=>e.bad b/\b∉τs.flatMap e.φ⟩ (σ.wrote m) a w':=by
 have hbx:∀k cs,(σ.wrote m).bx.lookup k=some cs->∃cs0,σ.bx.lookup k=some cs0/\cs=cs0.map (mkC m):=fun k cs hk=>by
  have h1:(σ.bx.lookup k).map (fun cs=>cs.map (mkC m))=some cs:=by rw [<-VG];exact hk
  obtain ⟨cs0,q1,q2⟩:=Option.map_eq_some_iff.1 h1;exact ⟨cs0,q1,q2.symm⟩
 have har:∀τ A,(σ.wrote m).ar.lookup τ=some (some A)->τ∉τs/\σ.ar.lookup τ=some (some A):=fun τ A hA=>by
  have h1:(if (m.lookup τ).isSome then some none else σ.ar.lookup τ)=some (some A):=by rw [<-Zer];exact hA
  split at h1
  ·cases h1
  ·rename_i hn;exact ⟨fun ht=>hn (hm1 τ ht),h1⟩
 have hFb:∀b∈τs.flatMap e.φ,e.bad b/\N b/\b<w.heap.size/\∃τ∈τs,b∈e.φ τ:=fun b hb=>by
  obtain ⟨τ,h1,h2⟩:=List.mem_flatMap.1 hb;obtain ⟨⟨A,hA,_⟩,hd⟩:=hl τ h1;have:=h.Yk (κ:=.a τ) ⟨A,hA⟩ b h2;exact ⟨h.dk (.a τ) ⟨A,hA⟩ hd b h2,this.2,this.1,τ,h1,h2⟩
 have hmut:∀b,Mut ⟨e.β,e.ρ,e.φ,fun b=>e.bad b/\b∉τs.flatMap e.φ⟩ (σ.wrote m) b->Mut e σ b/\b∉τs.flatMap e.φ:=fun b hb=>by
  rcases hb with h0| ⟨k,cs,h1,h2⟩| ⟨τ,A,h1,h2⟩
  ·exact ⟨.inl h0.1,h0.2⟩
  ·obtain ⟨cs0,q1,_⟩:=hbx k cs h1;refine ⟨.inr (.inl ⟨k,cs0,q1,h2⟩),fun hF=> ?_⟩;obtain ⟨_,_,_,τ,g1,g2⟩:=hFb b hF;obtain ⟨⟨A,hA,_⟩,_⟩:=hl τ g1;exact h.sep (.b k) (.a τ) ⟨cs0,q1⟩ ⟨A,hA⟩ (by simp) b (by simp only [blk];exact List.mem_singleton.2 h2.symm) g2
  ·obtain ⟨q0,q1⟩:=har τ A h1;refine ⟨.inr (.inr ⟨τ,A,q1,h2⟩),fun hF=> ?_⟩;obtain ⟨_,_,_,κ,g1,g2⟩:=hFb b hF;obtain ⟨⟨B,hB,_⟩,_⟩:=hl κ g1;exact h.sep (.a τ) (.a κ) ⟨A,q1⟩ ⟨B,hB⟩ (by rintro ⟨⟩;exact q0 g1) b ((h.ar τ A q1).own h2).1 g2
 have u:Up e σ w ⟨e.β,e.ρ,e.φ,fun b=>e.bad b/\b∉τs.flatMap e.φ⟩ (σ.wrote m) w':=by
  refine ⟨hc.size,fun b hb hm=>hc.block b hb fun hF=>hm (.inl (hFb b hF).1),fun b _ hb=>(hmut b hb).1,fun k cs hk=>⟨⟨cs.map (mkC m), ?_⟩,rfl⟩,fun τ A hA=> ?_,fun τ _ ⟨B,hB⟩ ⟨B',hB'⟩=>⟨rfl,fun b hb=>hc.block b (h.Yk (κ:=.a τ) ⟨B,hB⟩ b ((h.ar τ B hB).own hb).1).1 fun hF=> ?_⟩⟩
  rotate_right
  ·obtain ⟨q0,q1⟩:=har τ B' hB';obtain ⟨_,_,_,κ,g1,g2⟩:=hFb b hF;obtain ⟨⟨C,hC,_⟩,_⟩:=hl κ g1;exact h.sep (.a τ) (.a κ) ⟨B,hB⟩ ⟨C,hC⟩ (by rintro ⟨⟩;exact q0 g1) b ((h.ar τ B hB).own hb).1 g2
  ·show (σ.bx.map (fun (p:Nat×List CV)=>(p.1,p.2.map (mkC m)))).lookup k=_;rw [VG,hk];rfl
  ·show ∃A',(m.map (fun (p:Nat×List (List L))=>(p.1,none))++σ.ar).lookup τ=some A'/\_;rw [Zer]
   split
   ·exact ⟨none,rfl,by simp⟩
   ·exact ⟨A,hA,fun B hB=>⟨B,hB,Zwk _,fun _=>rfl⟩⟩
 have hC:∀(c:CV) (v:Value),c.rel e σ w v->(mkC m c).rel ⟨e.β,e.ρ,e.φ,fun b=>e.bad b/\b∉τs.flatMap e.φ⟩ (σ.wrote m) w' v:=fun c v hr=>by
  cases c with
  | own τ n=>
   simp only [mkC]
   split
   ·rename_i es he
    split
    ·rename_i hn;obtain ⟨q1,q2⟩:=hm2 τ es he;obtain ⟨⟨A,hA,_⟩,_⟩:=hl τ q1;obtain ⟨A',hA',h1,_⟩:=hr;rw [hA] at hA';obtain rfl:=Zwf hA';have hv:=(h1 A rfl).2 (by rw [q2 A hA,hn]);obtain ⟨G,g1,g2⟩:=hm τ es he;exact ⟨G,by rw [hv];exact g1,fun b hb hmm=>(hmut b hmm).2 (g2 b hb)⟩
    ·exact hr.up u
   ·exact hr.up u
  | _=>exact hr.up u
 have hL:∀(cs:List CV) (vs:List Value),Yb e σ w cs vs->Yb ⟨e.β,e.ρ,e.φ,fun b=>e.bad b/\b∉τs.flatMap e.φ⟩ (σ.wrote m) w' (cs.map (mkC m)) vs:=fun cs=>by
  induction cs with
  | nil=>intro vs hr;exact hr
  | cons c cs ih=>
   intro vs hr;simp only [Yb] at hr;obtain ⟨v,vs',rfl,h1,h2⟩:=hr;simp only [List.map_cons,Yb];exact ⟨v,vs',rfl,hC _ _ h1,ih _ h2⟩
 have hP:∀(ps:List (Bool×List CV)) (vs:List Value),Yl e σ w ps vs->Yl ⟨e.β,e.ρ,e.φ,fun b=>e.bad b/\b∉τs.flatMap e.φ⟩ (σ.wrote m) w' (ps.map fun (p:Bool×List CV)=>(p.1,p.2.map (mkC m))) vs:=fun ps=>by
  induction ps with
  | nil=>intro vs hr;exact hr
  | cons p ps ih=>
   intro vs hr;simp only [Yl] at hr;obtain ⟨v,vs',rfl,h1,h2⟩:=hr;simp only [List.map_cons,Yl];refine ⟨v,vs',rfl, ?_,ih _ h2⟩;obtain ⟨b,cs⟩:=p;cases b
   ·obtain ⟨c,rfl,h1⟩:=h1;exact ⟨_,rfl,hC _ _ h1⟩
   ·obtain ⟨us,rfl,h1⟩:=h1;exact ⟨us,rfl,hL _ _ h1⟩
 have hV:∀(x:V) (v:Value),x.rel e σ w v->(mkV m x).rel ⟨e.β,e.ρ,e.φ,fun b=>e.bad b/\b∉τs.flatMap e.φ⟩ (σ.wrote m) w' v:=fun x v hr=>by
  cases x with
  | one c=>exact hC c v hr
  | agg cs=>obtain ⟨us,rfl,h1⟩:=hr;exact ⟨us,rfl,hL _ _ h1⟩
  | tup ps=>obtain ⟨us,rfl,h1⟩:=hr;exact ⟨us,rfl,hP _ _ h1⟩
  | dead=>exact hr
 have hlive:∀κ,live (σ.wrote m) κ->live σ κ/\∀b∈blk e κ,b∉τs.flatMap e.φ:=fun κ hk=>by
  cases κ with
  | b k=>
   obtain ⟨cs,hk⟩:=hk;obtain ⟨cs0,q1,_⟩:=hbx k cs hk;refine ⟨⟨cs0,q1⟩,fun b hb hF=> ?_⟩;obtain ⟨_,_,_,τ,g1,g2⟩:=hFb b hF;obtain ⟨⟨A,hA,_⟩,_⟩:=hl τ g1;exact h.sep (.b k) (.a τ) ⟨cs0,q1⟩ ⟨A,hA⟩ (by simp) b hb g2
  | a τ=>
   obtain ⟨A,hA⟩:=hk;obtain ⟨q0,q1⟩:=har τ A hA;refine ⟨⟨A,q1⟩,fun b hb hF=> ?_⟩;obtain ⟨_,_,_,κ,g1,g2⟩:=hFb b hF;obtain ⟨⟨B,hB,_⟩,_⟩:=hl κ g1;exact h.sep (.a τ) (.a κ) ⟨A,q1⟩ ⟨B,hB⟩ (by rintro ⟨⟩;exact q0 g1) b hb g2
 refine ⟨h.nt,h.df,fun t x ht=> ?_,fun k cs hk=> ?_,fun τ A hA=> ?_,fun κ κ' h1 h2 hne=>h.sep κ κ' (hlive κ h1).1 (hlive κ' h2).1 hne, ?_,⟨fun b hb=>⟨h.bad.1 b hb,fun hF=>hbad b hb (hFb b hF).2.1⟩,fun b hb=>⟨Nat.lt_of_lt_of_le (h.bad.2 b hb.1).1 hc.size,fun κ hk hbk=>(h.bad.2 b hb.1).2 κ (hlive κ hk).1 hbk⟩⟩,fun κ hk hd b hb=>⟨h.dk κ (hlive κ hk).1 hd b hb,(hlive κ hk).2 b hb⟩,fun k cs hk hle=>by obtain ⟨cs0,q1,_⟩:=hbx k cs hk;exact h.pn k cs0 q1 hle,h.tn,fun κ b hk hb=>h.tp κ b (hlive κ hk).1 hb⟩
 ·have h1:(σ.tm.lookup t).map (mkV m)=some x:=by rw [<-VG];exact ht
  obtain ⟨x0,q1,rfl⟩:=Option.map_eq_some_iff.1 h1;exact hV _ _ (h.tm t x0 q1)
 ·obtain ⟨cs0,q1,rfl⟩:=hbx k cs hk;obtain ⟨g1,g2⟩:=h.bx k cs0 q1;have:=(hlive (.b k) ⟨_,hk⟩).2 (e.β k) (by simp [blk]);refine ⟨g1, ?_⟩;rw [hc.block _ g2.some this];exact g2.imp (fun vs=>hL _ vs) fun es h0=>by rw [h0];rfl
 ·obtain ⟨q0,q1⟩:=har τ A hA;exact (h.ar τ A q1).up u fun b hb=>hc.block b (h.Yk (κ:=.a τ) ⟨A,q1⟩ b hb).1 ((hlive (.a τ) ⟨A,hA⟩).2 b hb)
 ·refine ⟨h.fr.gl,hc.os.trans h.fr.os,hc.tape.trans h.fr.tape,hc.output.trans h.fr.output,Nat.le_trans h.fr.size hc.size,fun b hb hN=> ?_,h.fr.new⟩;rw [<-h.fr.block b hb hN];exact hc.block b (Nat.lt_of_lt_of_le hb h.fr.size) fun hF=>hN (by obtain ⟨_,_,_,τ,g1,g2⟩:=hFb b hF;obtain ⟨⟨A,hA,_⟩,hd⟩:=hl τ g1;exact h.tp (.a τ) b ⟨A,hA⟩ (.inr ⟨hd,g2⟩))
end
def ZuN (σ:St) (τs:List Nat) (m:List (Nat×List (List L))):Prop:= (∀τ∈τs,∃A es,σ.ar.lookup τ=some (some A)/\m.lookup τ=some es/\A.es.length=es.length)/\∀p∈m,p.1∈τs
def Zh0 (σ:St) (d:Nat) (k:Int) (m:List (Nat×List (List L))):St:= ⟨(σ.wrote m).nt,(d,.one (.l (.int .i64 k)))::(σ.wrote m).tm,(σ.wrote m).bx,(σ.wrote m).ar⟩
def wOp (P:Program) (ops:Array Oper) (post:List Oper) (σ:St) (K:St->Prop) (d f:Nat) (x:V) (k:Int):Option (DV×List Nat×Prop)->Prop
 | some (dv,τs,p)=>p/\τs.Nodup/\d<σ.nt/\∃d' k',ZqQ P f dv k d' k'/\ZuN σ τs (Zky x d')/\Z5 P ops post (Zh0 σ d k' (Zky x d')) K
 | none=>False
def Znd (P:Program) (ops:Array Oper) (post:List Oper) (σ:St) (K:St->Prop) (d f:Nat):Option (List V)->Prop
 | some [x,.one (.l (.int .i64 k))]=>wOp P ops post σ K d f x k (wrV σ x)
 | _=>False
def Znc (P:Program) (ops:Array Oper) (σ:St) (K:St->Prop):List Oper->Prop
 | ⟨some d,.call { callee:=.value (.func f),args:=xs,argTypes:=_},_,_,_,none⟩::post=>Znd P ops post σ K d f (Xl σ xs.toList)
 | _=>False
section
variable {e:Env} {σ:St} {w:World} {N:Nat->Prop} {w0:Bs} {a:Act} {P:Program} {ops:Array Oper}
theorem Ky {Q:Exit->Act->World->Prop} {tail:List Oper}:∀{l:List Oper} {σ:St} {K:St->Prop},Z5 P ops l σ K->∀{a:Act} {w:World},Sim N w0 σ a w->(∀σ' a' w',K σ'->Sim N w0 σ' a' w'->wpList P ops Q tail a' w')->wpList P ops Q (l++tail) a w
 | [],σ,K,h,a,w,hs,hQ=>hQ _ _ _ (by simpa [ZaV] using h) hs
 | ⟨d,op,ty,pos,af,gd⟩::rest,σ,K,h,a,w,⟨e,hs⟩,hQ=>by
  have run:Zi7 P ops ⟨d,op,ty,pos,af,gd⟩ rest σ K (Xv op)->∀K':Act->World->Prop,(∀a w,wpList P ops Q (rest++tail) a w->K' a w)->(Oper.mk d op ty pos af gd).wp P a w K' Q:=by
   intro hr K' hK'
   have fin:∀g:Eff,Ev P σ ⟨d,op,ty,pos,af,gd⟩ g->Z5 P ops rest (σ.app g) K->(Oper.mk d op ty pos af gd).wp P a w K' Q:=
    fun g hev hrest=>hev.sound hs fun a' w' hs'=>hK' _ _ (Ky hrest hs' hQ)
   unfold Zi7 at hr
   split at hr
   ·rename_i f xs hc;unfold ZgE at hr
    split at hr
    ·rename_i ds pu p hd;obtain ⟨hp,⟨fr,dp,rs,h5,h6,h7⟩| ⟨vs,g,hvs,hx,hg⟩⟩:=hr
     ·unfold ZgD at h7
      split at h7
      ·rename_i g hg;obtain ⟨vs,hvs,hd⟩:=Option.bind_eq_some_iff.1 hd;exact fin g (.call f xs vs ds pu p fr dp rs g hc hvs hd hp h5 h6 hg) h7.2
      ·exact h7.elim
     ·exact fin g (.xcall f xs vs g hc hvs hx) hg
    ·obtain ⟨vs,g,hvs,hx,hg⟩:=hr;exact fin g (.xcall f xs vs g hc hvs hx) hg
   ·unfold Ze2 at hr
    split at hr
    ·rename_i g hg;exact fin g (.step g hg hr.1) hr.2
    ·obtain ⟨g,hg,hr⟩:=hr;exact fin g (.hand g hg) hr
  refine wpList_step fun K' hK'=> ?_;cases gd with
  | none=>
   rw [Jl] at h;simp only [Region.wanted,if_true];exact run h K' hK'
  | some g=>
   obtain ⟨j,want⟩:=g;rw [Jm] at h;unfold Vr at h
   split at h
   ·rename_i b hy;have hy':=ZbG hs hy
    by_cases hb:b=want
    ·have:Region.wanted (Oper.mk d op ty pos af (some (j,want))) (yielded ops a.tmps)=true:=by
      show (yielded ops a.tmps j==some want)=true;rw [hy'];simp [hb]
     rw [if_pos this];exact run (h.1 hb) K' hK'
    ·have:Region.wanted (Oper.mk d op ty pos af (some (j,want))) (yielded ops a.tmps)=false:=by
      show (yielded ops a.tmps j==some want)=false;rw [hy'];simp [hb]
     rw [if_neg (by simp [this])];exact hK' _ _ (Ky (h.2 (by cases b<;>cases want<;>simp_all)) ⟨e,hs.kill d⟩ hQ)
   ·exact h.elim
theorem ZkN.rp {d:DV} {v:Value} {F:List Nat} (h:ZkN N w d v F):U5 w d v F:=by
 cases d with
 | one x=>exact Ow.rp h
 | agg xs=>obtain ⟨vs,h0,h1⟩:=h;exact ⟨vs,h0,h1.rp⟩
theorem ZkN.blocks {d:DV} {v:Value} {F:List Nat} (h:ZkN N w d v F):∀b∈F,ZoX w b:=by
 cases d with
 | one x=>exact fun b hb=>(Ow.blocks h b hb).2
 | agg xs=>obtain ⟨vs,h0,h1⟩:=h;exact fun b hb=>(h1.blocks b hb).2
theorem Zek {o:Operand} {r:List Operand} {vs:List V} (h:Xl σ (o::r)=some vs):∃v vs',opd σ o=some v/\Xl σ r=some vs'/\vs=v::vs':=by
 simp only [Xl] at h
 split at h
 ·rename_i v vs' h1 h2;exact ⟨v,vs',h1,h2,(Zwf h).symm⟩
 ·cases h
theorem ZnF {l:List Operand} {x y:V} (h:Xl σ l=some [x,y]):∃o1 o2,l=[o1,o2]/\opd σ o1=some x/\opd σ o2=some y:=by
 cases l with
 | nil=>simp [Xl] at h
 | cons o1 r=>
  obtain ⟨v,vs',h1,h2,h3⟩:=Zek h;obtain ⟨rfl,rfl⟩:=List.cons.inj h3;cases r with
  | nil=>simp [Xl] at h2
  | cons o2 r=>
   obtain ⟨v,vs',h4,h5,h6⟩:=Zek h2;obtain ⟨rfl,rfl⟩:=List.cons.inj h6;cases r with
   | nil=>exact ⟨o1,o2,rfl,h1,h4⟩
   | cons o3 r=>
    obtain ⟨v,vs',_,_,h9⟩:=Zek h5;cases h9
theorem Zh3 (hbad:∀b,w0.bad b->¬N b) {Q:Exit->Act->World->Prop} {l:List Oper} {K:St->Prop} (hw:Znc P ops σ K l) (hs:Sim N w0 σ a w) (hQ:∀σ' a' w',K σ'->Sim N w0 σ' a' w'->Q .normal a' w'):wpList P ops Q l a w:=by
 obtain ⟨e,h⟩:=hs;unfold Znc at hw
 split at hw
 ·rename_i d f xs ts ty pos af post;unfold Znd at hw
  split at hw
  ·rename_i x k hops;unfold wOp at hw
   split at hw
   ·rename_i dv τs p hwr;obtain ⟨hp,hnd,hd,d',k',hM,⟨c1,c2⟩,hrest⟩:=hw;obtain ⟨o1,o2,hxs,ho1⟩:=ZnF hops;have r1:=Zw h ho1.1;have r2:=Zw h ho1.2;obtain ⟨F2,r2,_⟩:=r2;simp only [Rp] at r2;obtain ⟨hk,_,hkin⟩:=r2
    have harg:ZkN N w dv (a.eval o1) (τs.flatMap e.φ)/\(∀τ∈τs,(∃A,σ.ar.lookup τ=some (some A)/\A.fr=true)/\1000000<=τ):=by
     cases x with
     | one c=>
      simp only [wrV] at hwr;obtain ⟨⟨y,τ',p'⟩,h1,h2⟩:=Option.map_eq_some_iff.1 hwr;simp only [Zwi] at h2;obtain ⟨rfl,rfl,rfl⟩:=h2;obtain ⟨g1,g2,_⟩:=Zh2 h r1 h1 hp;exact ⟨g1,g2⟩
     | agg cs=>
      simp only [wrV] at hwr;obtain ⟨⟨y,τ',p'⟩,h1,h2⟩:=Option.map_eq_some_iff.1 hwr;simp only [Zwi] at h2;obtain ⟨rfl,rfl,rfl⟩:=h2;obtain ⟨vs,hv,r1⟩:=r1;obtain ⟨g1,g2,_⟩:=Zh1 h r1 h1 hp;exact ⟨⟨vs,hv,g1⟩,g2⟩
     | tup ps=>simp [wrV] at hwr
     | dead=>simp [wrV] at hwr
    obtain ⟨hok,hcall⟩:=hM
    have hrun:(execOp a.eval ⟨some d,.call { callee:=.value (.func f),args:=xs,argTypes:=ts},ty,pos,af,none⟩).run P w= .ok (.enter f #[a.eval o1,a.eval o2]) w:=by
     unfold Wx at hok
     split at hok
     ·rename_i fn hfn;simp only [Zwj,bne_iff_ne,ne_eq] at hok;obtain ⟨c,hb⟩:∃c,fn.body=some c:=Option.isSome_iff_exists.1 hok.2;have hargs:xs.map a.eval= #[a.eval o1,a.eval o2]:=by rw [<-Array.toList_inj];simp [hxs]
      rw [<-hargs];simp [execOp,resolve,Act.eval,Deferred.ofValue,invoke,callFunc,hfn,hok.1,hb]
     ·cases hok
    refine wpList_step fun K' hK'=> ?_;simp only [Region.wanted,if_true];unfold Oper.wp;rw [hrun,Oper.upon_enter];rw [hk];refine (hcall w _ _ harg.1.rp (VP h (fun τ hτ=>(harg.2 τ hτ).1) hnd) harg.1.blocks).mono fun en w' hR=> ?_;obtain ⟨rfl,hk',hrel,hch⟩:=hR;simp only
    have hcell:∀(τ:Nat) (es:List (List L)),(τ,es)∈Zky x d'->∃G,Rp w' (.sl es) (e.ρ τ) G/\∀b∈G,b∈τs.flatMap e.φ:=by
     intro τ es hm;cases x with
     | one c=>
      cases d' with
      | one y=>
       simp only [Zky] at hm;obtain ⟨i,n,h1,h2⟩:=Zf8 hm;cases i with
       | zero=>
        simp at h1 h2;subst h1 h2;simp only [wrV] at hwr;obtain ⟨⟨y,τ',p'⟩,h1,h2⟩:=Option.map_eq_some_iff.1 hwr;simp only [Zwi] at h2;obtain ⟨rfl,rfl,rfl⟩:=h2;have r1':CV.rel e σ w (.own τ n) (a.eval o1):=r1;obtain ⟨_,_,g3⟩:=Zh2 h r1' h1 hp;rw [<-g3 τ n rfl];exact ⟨_,hrel,fun b hb=>hb⟩
       | succ i=>simp at h1
      | agg ys=>simp [Zky] at hm
     | agg cs=>
      cases d' with
      | one y=>simp [Zky] at hm
      | agg ys=>
       simp only [Zky] at hm;obtain ⟨i,n,h1,h2⟩:=Zf8 hm;simp only [wrV] at hwr;obtain ⟨⟨y,τ',p'⟩,q1,q2⟩:=Option.map_eq_some_iff.1 hwr;simp only [Zwi] at q2;obtain ⟨rfl,rfl,rfl⟩:=q2;obtain ⟨vs,hv,r1⟩:=r1;obtain ⟨_,_,g3⟩:=Zh1 h r1 q1 hp;obtain ⟨vs',hv',hrel⟩:=hrel;rw [hv] at hv';injection hv' with hv'
       have hvv:vs=vs':=by simpa using congrArg Array.toList hv'
       subst hvv;obtain ⟨v,G,j1,j2,j3⟩:=hrel.at h2;rw [<-g3 i τ n v h1 j1];exact ⟨G,j2,j3⟩
     | tup ps=>cases d'<;>simp [Zky] at hm
     | dead=>cases d'<;>simp [Zky] at hm
    have h':=h.wrote hbad (m:=Zky x d') harg.2 hch (fun τ es he=>hcell τ es (ZcZ he)) (fun τ hτ=>by obtain ⟨A,es,_,g2,_⟩:=c1 τ hτ;rw [g2];rfl) (fun τ es he=>by
     have hτ:=c2 _ (ZcZ he);refine ⟨hτ,fun A hA=> ?_⟩;obtain ⟨B,es',g1,g2,g3⟩:=c1 τ hτ;rw [hA] at g1;obtain rfl:=Zwf (Zwf g1);rw [he] at g2;obtain rfl:=Zwf g2;exact g3)
    have h2:=h'.put (d:=d) (x:=.one (.l (.int .i64 k'))) (v:=.int .i64 k') hd ⟨[],by simp [Rp,hk'],by simp⟩;exact hK' _ _ (V7 hrest ⟨_,h2⟩ hQ)
   ·exact hw.elim
  ·exact hw.elim
 ·exact hw.elim
theorem Zkj {Q:Exit->St->Prop} (hbad:Bok N w0) {id:Nat} {l:List Oper} (n:Nat) (h:Z5 P l.toArray (l.take n) σ (fun σ1=>Znc P l.toArray σ1 (fun σ'=>Q .normal σ') (l.drop n))):AW P N w0 (.region id l.toArray false) Q σ:=fun a w hs=>by
 refine wp_region_lit ?_;have:=Ky (Q:=fun e a w=>∃σ',Q e σ'/\Sim N w0 σ' a w) (tail:=l.drop n) h hs fun σ' a' w' h1 h2=>Zh3 hbad.1 h1 h2 fun σ' a' w' h1 h2=>⟨σ',h1,h2⟩
 rwa [List.take_append_drop] at this
end
def ZtG (ls:List L):Option (List L×Bool×Prop)->Prop
 | some (xs,pu,p)=>p/\pu=true/\xs=ls
 | none=>False
def ZrF (σ:St) (k:Nat) (ls:List L):Prop:=ZtG ls ((σ.bx.lookup k).bind (ZgO σ))
def ZsU (P:Program) (rv:Array ResultVar) (fr:Bool) (rs:List DV) (nt k:Nat) (ls:List L) (σ:St):Prop:=σ.nt=nt/\Zis P rv fr rs σ/\ZrF σ k ls
def ZsY (P:Program) (rv:Array ResultVar) (fr:Bool) (rs:List DV) (nt k:Nat) (ls:List L):Exit->St->Prop
 | .normal,σ=>ZsU P rv fr rs nt k ls σ
 | .ret,σ=>ZsU P rv fr rs nt k ls σ
 | _,_=>False
def ZvL (P:Program) (rv:Array ResultVar) (cs:List L) (σ:St):Prop:=
 match Zb8 P σ rv.toList with
 | some [.one (.box k 0)]=>ZrF σ k cs
 | _=>False
section
variable {e:Env} {σ:St} {w:World} {N:Nat->Prop} {w0:Bs} {a:Act} {P:Program}
theorem Zkg {c:CV} {v:Value} (h:c.rel e σ w v) {x:L} {f:Bool} {τs:List Nat} {p:Prop} (ha:Zlh σ c=some (x,f,τs,p)) (hp:p) (hf:f=true) {b:Nat} (hb:v.ownBlock=some b):Mut e σ b:=by
 unfold Zlh at ha
 split at ha
 ·simp only [Zwh,Zwi] at ha;obtain ⟨rfl,rfl,rfl,rfl⟩:=ha;obtain ⟨F,h1,h2⟩:=h;rename_i x;cases x with
  | sl es=>simp [L.flat] at hf
  | void=>simp [L.flat] at hf
  | _=>simp only [Rp] at h1;rw [h1.1] at hb;simp [Value.ownBlock] at hb
 ·have hv:v= .slice none 0 0:=h;rw [hv] at hb;simp [Value.ownBlock] at hb
 ·rename_i τ n
  split at ha
  ·rename_i A hA
   split at ha
   ·simp only [Zwh,Zwi] at ha;obtain ⟨rfl,rfl,rfl,rfl⟩:=ha;obtain ⟨A',hA',h1,_⟩:=h;rw [hA] at hA';obtain rfl:=Zwf hA';have hv:=(h1 A rfl).2 hp;subst hv;exact .inr (.inr ⟨τ,A,hA,hb⟩)
   ·cases ha
  ·cases ha
 ·cases ha
theorem Zke:∀{cs:List CV} {vs:List Value},Yb e σ w cs vs->∀{xs:List L} {f:Bool} {τs:List Nat} {p:Prop},Zfb σ cs=some (xs,f,τs,p)->p->f=true->∀v∈vs,∀b,v.ownBlock=some b->Mut e σ b
 | [],vs,hr,xs,f,τs,p,ha,hp,hf=>by simp only [Yb] at hr;simp [hr]
 | c::cs,vs,hr,xs,f,τs,p,ha,hp,hf=>by
  simp only [Yb] at hr;obtain ⟨v,vs',rfl,h1,h2⟩:=hr;simp only [Zfb] at ha
  split at ha
  ·rename_i e1 e2;simp only [Zwh,Zwi] at ha;obtain ⟨_,rfl,_,rfl⟩:=ha;simp only [Zwj] at hf;intro u hu b hb;rcases List.mem_cons.1 hu with rfl| hu
   ·exact Zkg h1 e1 hp.1 hf.1 hb
   ·exact Zke h2 e2 hp.2 hf.2 u hu b hb
  ·cases ha
theorem Zoj {x:V} {v:Value} (hr:x.rel e σ w v) {d:DV} {f:Bool} {τs:List Nat} {p:Prop} (ha:Zlg σ x=some (d,f,τs,p)) (hp:p) (hf:f=true):∀u∈VR v,∀b,u.ownBlock=some b->Mut e σ b:=by
 cases x with
 | one c=>
  simp only [Zlg] at ha;obtain ⟨⟨y,f',τ',p'⟩,h1,h2⟩:=Option.map_eq_some_iff.1 ha;simp only [Zwi] at h2;obtain ⟨_,rfl,_,rfl⟩:=h2;intro u hu b hb
  have hc:VR v=[v]:=by
   have hr':c.rel e σ w v:=hr;cases v<;>first | rfl| (have:=hr'.cells.2;simp [Value.oneCell'] at this)
  rw [hc] at hu;obtain rfl:=List.mem_singleton.1 hu;exact Zkg hr h1 hp hf hb
 | agg cs=>
  simp only [Zlg] at ha;obtain ⟨⟨y,f',τ',p'⟩,h1,h2⟩:=Option.map_eq_some_iff.1 ha;simp only [Zwi] at h2;obtain ⟨_,rfl,_,rfl⟩:=h2;obtain ⟨vs,rfl,hr⟩:=hr;intro u hu b hb;exact Zke hr h1 hp hf u (by simpa [VR] using hu) b hb
 | tup ps=>simp [Zlg] at ha
 | dead=>simp [Zlg] at ha
theorem ZhU:∀{vs:List V} {us:List Value},UQ e σ w vs us->∀{ds:List DV} {f:Bool} {τs:List Nat} {p:Prop},Zfa σ vs=some (ds,f,τs,p)->p->f=true->∀u∈us,∀v∈VR u,∀b,v.ownBlock=some b->Mut e σ b
 | [],us,hr,ds,f,τs,p,ha,hp,hf=>by simp only [UQ] at hr;simp [hr]
 | x::vs,us,hr,ds,f,τs,p,ha,hp,hf=>by
  simp only [UQ] at hr;obtain ⟨u,us',rfl,h1,h2⟩:=hr;simp only [Zfa] at ha
  split at ha
  ·rename_i e1 e2;simp only [Zwh,Zwi] at ha;obtain ⟨_,rfl,_,rfl⟩:=ha;simp only [Zwj] at hf;intro y hy v hv b hb;rcases List.mem_cons.1 hy with rfl| hy
   ·exact Zoj h1 e1 hp.1 hf.1 v hv b hb
   ·exact ZhU h2 e2 hp.2 hf.2 y hy v hv b hb
  ·cases ha
theorem Zqp:∀{cs:List CV} {x:List L×Bool×Prop},ZgO σ cs=some x->VF cs=true
 | [],_,_=>rfl
 | [c],_,h=>by cases c<;>first | rfl| (simp [ZgO,ZiS] at h)
 | _::_::_,_,_=>rfl
theorem ZnD (h:ZC N w0 e σ a w) {k:Nat} {ls:List L} (ho:ZrF σ k ls):∃cells cur ty FS,σ.bx.lookup k=some cells/\N (e.β k)/\w.heap[e.β k]? =some (.cells cur ty (0,0))/\RpL w ls cur.toList FS/\∀x∈FS,¬Mut e σ x:=by
 unfold ZrF ZtG at ho
 split at ho
 ·rename_i xs pu p hq;obtain ⟨hp,hpu,rfl⟩:=ho;obtain ⟨cells,hk,hd⟩:=Option.bind_eq_some_iff.1 hq;obtain ⟨h1,cur,ty,h2,h3⟩:=h.bxC hk (Zqp hd);obtain ⟨FS,g1,g2⟩:=Zgy h h3 hd hp;exact ⟨cells,cur,ty,FS,hk,h1,h2,g1,g2 hpu⟩
 ·exact ho.elim
def Zvt (N:Nat->Prop) (v:Value):Prop:=∀(w:World) (es:List (List L)) (F:List Nat),Vs es=true->Rp w (.sl es) v F->∃F',Rp w (.sl es) v F'/\∀b∈F',¬N b/\b∈F
theorem ZqT {c:Code} {Q Q':Exit->St->Prop} (hQ:∀e σ,Q e σ->Q' e σ) (h:AW P N w0 c Q σ):AW P N w0 c Q' σ:=fun a w hs=>Code.wp_mono (fun _ _ _ ⟨σ',h1,h2⟩=>⟨σ',hQ _ _ h1,h2⟩) (h a w hs)
theorem ZpA {N:Nat->Prop} {w:World} {cs:List L} {vs:List Value} {F:List Nat} (h:RpL w cs vs F) {i:Nat} {es0:List (List L)} (hi:cs[i]? =some (.sl es0)) (hN:∀b∈F,¬N b):Zvt N (vs.getD i undef):=by
 obtain ⟨v,G,h1,h2,h3⟩:=h.at hi;have hv:vs.getD i undef=v:=by simp [List.getD,h1]
 rw [hv];intro w2 es F2 hfl hR;simp only [Rp] at h2 hR;obtain ⟨A,c,rfl,g1,g2,g3⟩:=h2;obtain ⟨A',c',hv',k1,k2,k3⟩:=hR;obtain ⟨rfl,hlen,rfl⟩:A=A'/\es0.length=es.length/\c=c':=by simpa using hv'
 rw [hlen];rcases k3 with ⟨rfl,rfl⟩| ⟨b,off,xs,Fs,rfl,q1,rfl,q2,q3⟩
 ·exact ⟨[],by simp only [Rp];exact ⟨_,_,rfl,k1,k2,.inl ⟨trivial,trivial⟩⟩,by simp⟩
 ·by_cases he:es=[]
  ·subst he;exact ⟨[],by simp only [Rp];exact ⟨_,_,rfl,k1,k2,.inl ⟨trivial,trivial⟩⟩,by simp⟩
  ·have hF:Fs=[]:=(q3.flat (N:=N) hfl).1;subst hF;refine ⟨[b],by simp only [Rp];exact ⟨_,_,rfl,k1,k2,.inr ⟨b,off,xs,[],rfl,q1,rfl,q2,q3⟩⟩,fun x hx=>⟨?_,hx⟩⟩;simp only [List.mem_singleton] at hx;subst hx;rcases g3 with ⟨rfl,_⟩| ⟨b0,off0,xs0,Fs0,hb,_,rfl,_⟩
   ·exact absurd (List.eq_nil_of_length_eq_zero hlen.symm) he
   ·have:x=b0:=by simpa using congrArg (fun o=>o.map (·.block)) hb
    exact hN x (h3 x (by simp [this]))
theorem ZgH.UR {f:Nat} {fn:Func} {c:Code} {nt:Nat} {rv:Array ResultVar} (hok:Wx P f=true) (hf:P.funcs[f]? =some fn) (hb:fn.body=some c) (hnt:fn.ntmps=nt) (hrv:fn.results=rv) {d1 d2:List DV} {cs ls:List L} {fr:Bool} {rs:List DV} (hds:d1.length+1+d2.length<=nt)
  (X:List Value->List Value->Prop) (c0:(Nat->Value)->List CV) (E:(Nat->Value)->St->Prop)
  (h0:∀(f0:Nat->Value) (e:Env) (σ:St) (w:World) (vs:List Value) (F:List Nat),RpL w cs vs F->(∀b∈F,¬Mut e σ b)->(∀i,f0 i=vs.getD i undef)->Yb e σ w (c0 f0) vs)
  (hX:∀(f0:Nat->Value) (e:Env) (σ:St) (w:World) (cells:List CV) (vs us:List Value),E f0 σ->σ.bx.lookup (nt+d1.length)=some cells->Yb e σ w cells us->vs.length=cs.length->us.length=ls.length->(∀i,f0 i=vs.getD i undef)->X vs us)
  (h:∀(N:Nat->Prop) (w0:Bs) (f0:Nat->Value),Bok N w0->(∀i es,cs[i]? =some (.sl es)->Zvt N (f0 i))->AW P N w0 c (fun ex σ=>ZsY P rv fr rs nt (nt+d1.length) ls ex σ/\E f0 σ) ⟨nt,Zew 0 d1++(d1.length,.one (.box (nt+d1.length) 0))::Zew (d1.length+1) d2,[(nt+d1.length,c0 f0)],[]⟩):ZgH P f d1 cs d2 fr rs ls X:=by
 subst hnt hrv;refine ⟨hok,fun w vs1 vs2 F1 F2 FS b cur ty ⟨G,hG,hGb⟩ hF1 hF2 hcell hFS hbF=> ?_⟩;refine calls_of_wp hf hb ?_;have l1:=hF1.len;have l2:=hF2.len;obtain ⟨k,hk⟩:∃k,k=fn.ntmps+d1.length:=⟨_,rfl⟩;rw [<-hk] at h hX
 let f0:Nat->Value:=fun i=>cur.toList.getD i undef
 let σ0:St:=⟨fn.ntmps,Zew 0 d1++(d1.length,.one (.box k 0))::Zew (d1.length+1) d2,[(k,c0 f0)],[]⟩
 let e0:Env:=⟨fun _=>b,fun _=>undef,fun _=>[],fun x=>x<w.heap.size/\x∉F1++(F2++FS)/\x≠b⟩
 have hblt:=W5 hcell
 have hm:∀x∈F1++(F2++FS),¬Mut e0 σ0 x:=by
  intro x hx hm;rcases hm with h0| ⟨_,_,_,h1⟩| ⟨_,_,h1,_⟩
  ·exact h0.2.1 hx
  ·have h1':b=x:=h1;exact hbF (h1'▸hx)
  ·simp [σ0] at h1
 have hlk:∀t x,(Zew 0 d1++(d1.length,.one (.box k 0))::Zew (d1.length+1) d2).lookup t=some x->∃v,(vs1++.pointer (some ⟨b,0,none⟩)::vs2)[t]? =some v/\x.rel e0 σ0 w v:=by
  intro t x ht;rw [lookup_append] at ht;cases hq:(Zew 0 d1).lookup t with
  | some y=>
   rw [hq] at ht;simp only [Option.some_or,Zwh] at ht;subst ht;obtain ⟨j,v,rfl,g2,g3⟩:=Kj (e:=e0) (σ:=σ0) hF1 (fun x hx=>hm x (by simp [hx])) hq;have hj:=(List.getElem?_eq_some_iff.1 g2).1;exact ⟨v,by rw [Nat.zero_add,List.getElem?_append_left hj];exact g2,g3⟩
  | none=>
   rw [hq] at ht;simp only [Option.none_or,lookup_cons] at ht
   split at ht
   ·rename_i hj;obtain rfl:=Zwf ht;subst hj;refine ⟨_,by rw [<-l1,List.getElem?_append_right (Zwk _),Nat.sub_self];rfl,⟨c0 f0,by simp [σ0]⟩,rfl⟩
   ·obtain ⟨j,v,rfl,g2,g3⟩:=Kj (e:=e0) (σ:=σ0) hF2 (fun x hx=>hm x (by simp [hx])) ht;refine ⟨v, ?_,g3⟩;rw [List.getElem?_append_right (by omega),show d1.length+1+j-vs1.length=j+1 by omega]
    simpa using g2
 have hsim:ZC (fun x=>w.heap.size<=x\/x=b) ⟨w,e0.bad,fun _=>b,fun x=>w.heap.size<=x\/x=b⟩ e0 σ0 { tmps:=(vs1++.pointer (some ⟨b,0,none⟩)::vs2).toArray++Array.replicate (fn.ntmps-(vs1++.pointer (some ⟨b,0,none⟩)::vs2).toArray.size) undef,defers:=[]} w:=by
  refine ⟨by simp [σ0];omega,rfl,fun t x ht=> ?_,fun j cells hj=> ?_,fun τ A hA=>by simp [σ0] at hA,fun κ κ' hl hl' hne=> ?_,⟨⟨G,hG,fun x g=>by rintro (q| rfl);exact absurd (hG.1 x g) (by omega);exact hGb g⟩,rfl,rfl,rfl,Zwk _,fun _ _ _=>rfl,fun b hb=>.inl hb⟩,⟨fun _ h=>h,fun x hx=>⟨hx.1,fun κ hl hxk=> ?_⟩⟩,fun κ _ hd=> ?_,fun j cells hj _=>rfl,fun _ h=>h,fun κ x hl hx=> ?_⟩
  ·obtain ⟨v,g2,g3⟩:=hlk t x ht;have hj:=(List.getElem?_eq_some_iff.1 g2).1
   have:((vs1++.pointer (some ⟨b,0,none⟩)::vs2).toArray++Array.replicate (fn.ntmps-(vs1++.pointer (some ⟨b,0,none⟩)::vs2).toArray.size) undef).getD t undef=v:=by
    rw [Array.getD_eq_getD_getElem?,Array.getElem?_append_left (by simpa using hj)];simp only [List.getElem?_toArray,g2,Option.getD_some]
   rw [this];exact g3
  ·have hj':j=k/\cells=c0 f0:=by
    simp only [σ0,lookup_cons] at hj
    split at hj
    ·exact ⟨by assumption,(Zwf hj).symm⟩
    ·simp at hj
   obtain ⟨rfl,rfl⟩:=hj';exact ⟨.inr rfl,.inl ⟨cur,ty,hcell,h0 f0 _ _ _ _ _ hFS (fun x hx=>hm x (by simp [hx])) fun _=>rfl⟩⟩
  ·have key:∀κ,live σ0 κ->κ= .b k:=by
    intro κ hl;cases κ with
    | b j=>
     obtain ⟨cells,hj⟩:=hl;simp only [σ0,lookup_cons] at hj
     split at hj
     ·rename_i h;rw [h]
     ·simp at hj
    | a τ=>obtain ⟨A,hA⟩:=hl;simp [σ0] at hA
   exact absurd ((key κ hl).trans (key κ' hl').symm) hne
  ·cases κ with
   | b j=>
    have h1:x=b:=by simpa [blk] using hxk
    exact absurd h1 hx.2.2
   | a τ=>obtain ⟨A,hA⟩:=hl;simp [σ0] at hA
  ·cases κ with
   | b k=>exact hd.elim
   | a τ=>intro b hb;cases hb
  ·cases κ with
   | b k=>exact .inr hx
   | a τ=>obtain ⟨A,hA⟩:=hl;simp [σ0] at hA
 refine Code.wp_mono (fun ex a' w' hq=> ?_) (h (fun x=>w.heap.size<=x\/x=b) ⟨w,e0.bad,fun _=>b,fun x=>w.heap.size<=x\/x=b⟩ f0 ⟨fun x hx hn=>by
  rcases hn with hn| hn
  ·have:=hx.1;omega
  ·exact hx.2.2 hn,fun _ h=>h⟩ (fun i es hi=>ZpA hFS hi fun x hx hn=>by
  have h1:=hFS.lt x hx;rcases hn with hn| hn
  ·omega
  ·exact hbF (by simp [<-hn,hx])) _ _ ⟨e0,hsim⟩)
 obtain ⟨σ',h1,e',h2⟩:=hq
 have fin:ZsU P fn.results fr rs fn.ntmps k ls σ'->E f0 σ'->a'.defers=[]/\∃v,(results fn a'.tmps).run P w'= .ok v w'/\∃us cur' ty' FS',Ending.returned v= .returned (ZhW us)/\w'.heap[b]? =some (.cells cur' ty' (0,0))/\RpL w' ls cur'.toList FS'/\
   (∀x∈FS',x≠b/\(x∈F1++(F2++FS)\/w.heap.size<=x))/\Zpo fr w w' b (F1++(F2++FS)) FS' rs us/\But b w w'/\X cur.toList cur'.toList:=by
  intro ⟨hn,ho,hc⟩ hE;obtain ⟨cells,cur',ty',FS',c1,c5,c2,c3,c4⟩:=ZnD h2 hc;have c7:=(h2.bx k cells c1).2.rel c2;have hXX:=hX f0 _ _ _ cells cur.toList cur'.toList hE c1 c7 hFS.len c3.len fun _=>rfl;have hβ:e'.β k=b:=h2.pn k cells c1 (by rw [hn,hk];omega);rw [hβ] at c2;have hbm:Mut e' σ' b:=.inr (.inl ⟨k,cells,c1,hβ⟩);have hbut:But b w w':=⟨h2.fr.os,h2.fr.tape,h2.fr.output,h2.fr.size,fun x hx hxb=>h2.fr.block x hx (by intro g;rcases g with g| g;omega;exact hxb g)⟩
  have hnm:∀x,¬Mut e' σ' x->x≠b/\(x∈F1++(F2++FS)\/w.heap.size<=x):=by
   intro x hx;refine ⟨fun g=>hx (g▸hbm), ?_⟩
   by_cases g1:w.heap.size<=x
   ·exact .inr g1
   ·by_cases g2:x∈F1++(F2++FS)
    ·exact .inl g2
    ·exact absurd (.inl (h2.bad.1 x ⟨by omega,g2,fun g=>hx (g▸hbm)⟩)) hx
  have hFS':=fun x hx=>hnm x (c4 x hx);unfold Zis at ho;cases fr
  ·simp only [Zwl,if_false] at ho;cases hq:(Zb8 P σ' fn.results.toList).bind (WN σ') with
   | none=>rw [hq] at ho;exact ho.elim
   | some r=>
    obtain ⟨ds',pu,p⟩:=r;rw [hq] at ho;obtain ⟨hp,hpu,rfl⟩:=ho;obtain ⟨vs',hvs,hd⟩:=Option.bind_eq_some_iff.1 hq;obtain ⟨us,k1,k2⟩:=UP (P:=P) h2 hvs;obtain ⟨F,g1,g2⟩:=Zbw h2 k2 hd hp;refine ⟨h2.df,_,k1,us,cur',ty',FS',rfl,c2,c3,hFS', ?_,hbut,hXX⟩;simp only [Zpo,Zwl,if_false];exact ⟨F,g1,fun x hx=>hnm x (g2 hpu x hx)⟩
  ·simp only [if_true] at ho;cases hq:(Zb8 P σ' fn.results.toList).bind (Zfa σ') with
   | none=>rw [hq] at ho;exact ho.elim
   | some r=>
    obtain ⟨ds',f',τs,p⟩:=r;rw [hq] at ho;obtain ⟨hp,hf',hnd,rfl⟩:=ho;obtain ⟨vs',hvs,hd⟩:=Option.bind_eq_some_iff.1 hq;obtain ⟨us,k1,k2⟩:=UP (P:=P) h2 hvs;obtain ⟨g1,g2⟩:=Ze1 h2 k2 hd hp hf';refine ⟨h2.df,_,k1,us,cur',ty',FS',rfl,c2,c3,hFS', ?_,hbut,hXX⟩;simp only [Zpo,if_true];refine ⟨_,g1,VP h2 g2 hnd,fun hbm'=> ?_,fun u hu v hv x hx hxF=>c4 x hxF (ZhU k2 hd hp hf' u hu v hv x hx)⟩;obtain ⟨τ,hτ,hbτ⟩:=List.mem_flatMap.1 hbm';obtain ⟨A,hA,_⟩:=g2 τ hτ;exact h2.sep (.b k) (.a τ) ⟨cells,c1⟩ ⟨A,hA⟩ (by simp) b (by simp [blk,hβ]) hbτ
 cases ex with
 | normal=>exact fin h1.1 h1.2
 | ret=>exact fin h1.1 h1.2
 | _=>exact h1.1.elim
theorem Zbj.UR {f:Nat} {fn:Func} {c:Code} {nt:Nat} {rv:Array ResultVar} (hok:Wx P f=true) (hf:P.funcs[f]? =some fn) (hb:fn.body=some c) (hnt:fn.ntmps=nt) (hrv:fn.results=rv) {d1 d2:List DV} {cs ls:List L} {fr:Bool} {rs:List DV} (hds:d1.length+1+d2.length<=nt)
  (h:∀N w0,Bok N w0->AW P N w0 c (ZsY P rv fr rs nt (nt+d1.length) ls) ⟨nt,Zew 0 d1++(d1.length,.one (.box (nt+d1.length) 0))::Zew (d1.length+1) d2,[(nt+d1.length,cs.map .l)],[]⟩):Zbj P f d1 cs d2 fr rs ls:=
 ZgH.Zvv (ZgH.UR hok hf hb hnt hrv hds (fun _ _=>True) (fun _=>cs.map .l) (fun _ _=>True) (fun _ _ _ _ _ _ hR hm _=>Wn hR hm) (fun _ _ _ _ _ _ _ _ _ _ _ _ _=>trivial) fun N w0 _ hb _=>ZqT (fun _ _ g=>⟨g,trivial⟩) (h N w0 hb))
def ZnS (f0:Nat->Value):Nat->List L->List CV->Prop
 | _,[],_=>True
 | i,.sl _::ls,.kept v _::cs=>v=f0 i/\ZnS f0 (i+1) ls cs
 | _,.sl _::_,_=>False
 | i,_::ls,cs=>ZnS f0 (i+1) ls (cs.drop 1)
def Zub (f0:Nat->Value) (k:Nat) (ls:List L) (σ:St):Prop:=match σ.bx.lookup k with | some cs=>ZnS f0 0 ls cs| none=>False
end
def Zdz (σ' σ:St):Prop:=∀(N:Nat->Prop) (w0:Bs) (a:Act) (w:World),Sim N w0 σ a w->Sim N w0 σ' a w
def cle (σ' σ:St):CV->CV->Prop
 | .l (.sl es),.own τ n=>match σ.ar.lookup τ with
  | some (some A)=>A.es=es/\A.es.length=n/\τ<1000000/\σ'.ar.lookup τ=none
  | _=>False
 | .l x,.nil=>x= .sl []
 | .l x,.l y=>x=y
 | .nil,.nil=>True
 | .np,.np=>True
 | .any,.any=>True
 | .kept v' x',.kept v x=>v'=v/\x'=x
 | .l x',.kept _ x=>x'=x
 | .own τ n,.nil=>n=0/\σ.ar.lookup τ=none/\∃f,σ'.ar.lookup τ=some (some ⟨f,[]⟩)
 | .own τ n,.own τ' n'=>τ=τ'/\n=n'/\(σ'.ar.lookup τ).isSome=true
 | .box k o,.box k' o'=>k=k'/\o=o'/\(σ'.bx.lookup k).isSome=true
 | .adr x,.adr y=>x=y
 | .elt τ n i W off,.elt τ' n' i' W' off'=>τ=τ'/\n=n'/\i=i'/\W=W'/\off=off'/\(σ'.ar.lookup τ).isSome=true
 | .nst τ j W off m,.nst τ' j' W' off' m'=>τ=τ'/\j=j'/\W=W'/\off=off'/\m=m'/\(σ'.ar.lookup τ).isSome=true
 | .nel τ j W off m,.nel τ' j' W' off' m'=>τ=τ'/\j=j'/\W=W'/\off=off'/\m=m'/\(σ'.ar.lookup τ).isSome=true
 | .clo f ks,.clo g js=>f=g/\ks=js/\∀k∈ks,(σ'.bx.lookup k).isSome=true
 | .nf,.nf=>True
 | .mp k,.mp j=>k=j/\(σ'.bx.lookup k).isSome=true
 | .mc x,.mc y=>x=y
 | .vw τ n lo hi W,.vw τ' n' lo' hi' W'=>τ=τ'/\n=n'/\lo=lo'/\hi=hi'/\W=W'/\(σ'.ar.lookup τ).isSome=true
 | _,_=>False
def KP (σ' σ:St):List CV->List CV->Prop
 | [],[]=>True
 | c::cs,d::ds=>cle σ' σ c d/\KP σ' σ cs ds
 | _,_=>False
def Zps (σ' σ:St):List (Bool×List CV)->List (Bool×List CV)->Prop
 | [],[]=>True
 | p::ps,q::qs=>p.1=q.1/\KP σ' σ p.2 q.2/\Zps σ' σ ps qs
 | _,_=>False
def vle (σ' σ:St):V->V->Prop
 | .dead,.dead=>True
 | .one c,.one d=>cle σ' σ c d
 | .agg cs,.agg ds=>KP σ' σ cs ds
 | .tup ps,.tup qs=>Zps σ' σ ps qs
 | _,_=>False
def ZqW (σ' σ:St):List (Nat×V)->Prop
 | []=>True
 | (t,v)::r=>(match σ.tm.lookup t with | some u=>vle σ' σ v u| none=>False)/\ZqW σ' σ r
def Zq0 (σ' σ:St):List (Nat×List CV)->Prop
 | []=>True
 | (t,v)::r=>(match σ.bx.lookup t with | some u=>KP σ' σ v u| none=>False)/\Zq0 σ' σ r
def Zq3 (σ:St):List (Nat×Option Arr)->Prop
 | []=>True
 | (t,A)::r=>(match σ.ar.lookup t with | some B=>A=B| none=>∃f,A=some ⟨f,[]⟩)/\Zq3 σ r
structure Zbk (σ' σ:St):Prop where
 nt:σ'.nt=σ.nt
 tm:ZqW σ' σ σ'.tm
 bx:Zq0 σ' σ σ'.bx
 ar:Zq3 σ σ'.ar
section
variable {e e':Env} {σ σ':St} {w w':World} {N:Nat->Prop} {w0:Bs} {a:Act} {P:Program}
theorem ZgX:∀{l:List (Nat×V)},ZqW σ' σ l->∀{t:Nat} {v:V},l.lookup t=some v->∃u,σ.tm.lookup t=some u/\vle σ' σ v u
 | [],_,_,_,h=>by simp at h
 | (j,x)::l,hl,t,v,h=>by
  simp only [ZqW] at hl;rw [lookup_cons] at h
  split at h
  ·rename_i hj;subst hj;obtain rfl:=Zwf h;have h1:=hl.1
   split at h1
   ·rename_i u hu;exact ⟨u,hu,h1⟩
   ·exact h1.elim
  ·exact ZgX hl.2 h
theorem U2:∀{l:List (Nat×List CV)},Zq0 σ' σ l->∀{t:Nat} {v:List CV},l.lookup t=some v->∃u,σ.bx.lookup t=some u/\KP σ' σ v u
 | [],_,_,_,h=>by simp at h
 | (j,x)::l,hl,t,v,h=>by
  simp only [Zq0] at hl;rw [lookup_cons] at h
  split at h
  ·rename_i hj;subst hj;obtain rfl:=Zwf h;have h1:=hl.1
   split at h1
   ·rename_i u hu;exact ⟨u,hu,h1⟩
   ·exact h1.elim
  ·exact U2 hl.2 h
theorem Wy:∀{l:List (Nat×Option Arr)},Zq3 σ l->∀{t:Nat} {A:Option Arr},l.lookup t=some A->σ.ar.lookup t=some A\/(σ.ar.lookup t=none/\∃f,A=some ⟨f,[]⟩)
 | [],_,_,_,h=>by simp at h
 | (j,x)::l,hl,t,v,h=>by
  simp only [Zq3] at hl;rw [lookup_cons] at h
  split at h
  ·rename_i hj;subst hj;obtain rfl:=Zwf h;have h1:=hl.1
   split at h1
   ·rename_i u hu;subst h1;exact .inl hu
   ·rename_i hu;exact .inr ⟨hu,h1⟩
  ·exact Wy hl.2 h
def ZbC (e:Env) (σ:St):Env:=
 ⟨e.β,fun τ=>match σ.ar.lookup τ with | none=>.slice none 0 0| some _=>e.ρ τ,fun τ=>match σ.ar.lookup τ with | none=>[]| some _=>e.φ τ,e.bad⟩
theorem XT {τ:Nat} {A:Option Arr} (h:σ.ar.lookup τ=some A):(ZbC e σ).ρ τ=e.ρ τ/\(ZbC e σ).φ τ=e.φ τ:=by simp [ZbC,h]
theorem V8 {τ:Nat} (h:σ.ar.lookup τ=none):(ZbC e σ).ρ τ= .slice none 0 0/\(ZbC e σ).φ τ=[]:=by simp [ZbC,h]
theorem Zbk.mut (k:Zbk σ' σ) {b:Nat} (h:Mut (ZbC e σ) σ' b):Mut e σ b:=by
 rcases h with h| ⟨j,cs,h1,h2⟩| ⟨τ,A,h1,h2⟩
 ·exact .inl h
 ·obtain ⟨u,hu,_⟩:=U2 k.bx h1;exact .inr (.inl ⟨j,u,hu,h2⟩)
 ·rcases Wy k.ar h1 with h3| ⟨h3,h4⟩
  ·rw [(XT h3).1] at h2;exact .inr (.inr ⟨τ,A,h3,h2⟩)
  ·rw [(V8 h3).1] at h2;simp [Value.ownBlock] at h2
theorem Zbk.freeze (k:Zbk σ' σ) (h:ZC N w0 e σ a w) {τ n:Nat} {A:Arr} (hA:σ.ar.lookup τ=some (some A)) (hd:τ<1000000) (hn:σ'.ar.lookup τ=none) (hl:A.es.length=n) {v:Value} (hr:(CV.own τ n).rel e σ w v):
  (CV.l (.sl A.es)).rel (ZbC e σ) σ' w v:=by
 obtain ⟨A',hA',h1,_⟩:=hr;rw [hA] at hA';obtain rfl:=Zwf hA';have hv:v=e.ρ τ:=(h1 A rfl).2 hl;subst hv;obtain ⟨p,c,hv,hc1,hc2,h4| ⟨b,vs,Fs,W,rfl,h5,h6,h7,h8,h9⟩⟩:=h.elems hA hd
 ·refine ⟨[], ?_,by simp⟩;rw [hv];simp only [Rp];exact ⟨p,c,rfl,hc1,hc2,.inl ⟨h4,trivial⟩⟩
 ·have hlt:=(h.Yk (κ:=.a τ) ⟨A,hA⟩ b h8).1;refine ⟨b::Fs, ?_, ?_⟩
  ·rw [hv];simp only [Rp];exact ⟨_,c,rfl,hc1,hc2,.inr ⟨b,0,vs,Fs,rfl,hlt,rfl,h5,h7⟩⟩
  ·intro x hx hm;rcases List.mem_cons.1 hx with rfl| hx
   ·rcases hm with hb| ⟨j,cs,g1,g2⟩| ⟨τ',A',g1,g2⟩
    ·have:1000000<=τ:=(h.bad.2 x hb).2 (.a τ) ⟨A,hA⟩ h8;omega
    ·obtain ⟨u,hu,_⟩:=U2 k.bx g1;exact h.sep (.b j) (.a τ) ⟨u,hu⟩ ⟨A,hA⟩ (by simp) x (by simp only [blk,List.mem_singleton];exact g2.symm) h8
    ·have hne:τ'≠τ:=fun he=>by rw [he,hn] at g1;cases g1
     rcases Wy k.ar g1 with g3| ⟨g3,g4⟩
     ·rw [(XT g3).1] at g2;exact h.sep (.a τ') (.a τ) ⟨A',g3⟩ ⟨A,hA⟩ (by simpa using hne) x ((h.ar τ' A' g3).own g2).1 h8
     ·rw [(V8 g3).1] at g2;simp [Value.ownBlock] at g2
   ·exact h9 x hx (k.mut hm)
theorem Zn7 {es:MD} {cs:List CV} (h:KP σ' σ cs [.mc es]):cs=[.mc es]:=by
 cases cs with
 | nil=>simp [KP] at h
 | cons c t=>
  simp only [KP] at h;cases t with
  | cons _ _=>simp [KP] at h
  | nil=>cases c<;>simp [cle,KP] at h;rw [h]
theorem Zbk.rel (k:Zbk σ' σ) (h:ZC N w0 e σ a w) {c' c:CV} {v:Value} (hr:c.rel e σ w v) (hc:cle σ' σ c' c):c'.rel (ZbC e σ) σ' w v:=by
 unfold cle at hc
 split at hc
 ·rename_i es τ n
  split at hc
  ·rename_i A hA;obtain ⟨rfl,h2,h3,h4⟩:=hc;exact k.freeze h hA h3 h4 h2 hr
  ·exact hc.elim
 ·subst hc;have hv:v= .slice none 0 0:=hr;subst hv;refine ⟨[], ?_,by simp⟩;simp only [Rp];exact ⟨none,0,rfl,Zwk _,by omega,.inl (by simp)⟩
 ·subst hc;obtain ⟨F,h1,h2⟩:=hr;exact ⟨F,h1,fun b hb hm=>h2 b hb (k.mut hm)⟩
 ·exact hr
 ·exact hr
 ·exact hr
 ·obtain ⟨rfl,rfl⟩:=hc;obtain ⟨h0,F,h1,h2⟩:=hr;exact ⟨h0,F,h1,fun b hb hm=>h2 b hb (k.mut hm)⟩
 ·subst hc;obtain ⟨_,F,h1,h2⟩:=hr;exact ⟨F,h1,fun b hb hm=>h2 b hb (k.mut hm)⟩
 ·obtain ⟨rfl,h2,f,h3⟩:=hc;have hv:v= .slice none 0 0:=hr;subst hv;refine ⟨_,h3,fun B hB=> ?_,none,0,rfl,by omega⟩;obtain rfl:=Zwf hB;exact ⟨Zwk _,fun _=>(V8 h2).1.symm⟩
 ·obtain ⟨rfl,rfl,h3⟩:=hc;obtain ⟨A,h1,h2,h5⟩:=hr;obtain ⟨A',hA'⟩:=Option.isSome_iff_exists.1 h3;rcases Wy k.ar hA' with g| ⟨g,_⟩
  ·rw [h1] at g;obtain rfl:=Zwf g;refine ⟨A,hA',fun B hB=> ?_,h5⟩;obtain ⟨q1,q2⟩:=h2 B hB;exact ⟨q1,fun hl=>(q2 hl).trans (XT h1).1.symm⟩
  ·rw [h1] at g;cases g
 ·obtain ⟨rfl,rfl,h3⟩:=hc;obtain ⟨cs,hcs⟩:=Option.isSome_iff_exists.1 h3;exact ⟨⟨cs,hcs⟩,hr.2⟩
 ·subst hc;obtain ⟨b,off,vs,F,h1,h2,h3,h4,h5,h6⟩:=hr;exact ⟨b,off,vs,F,h1,h2,h3,h4,fun hm=>h5 (k.mut hm),fun x hx hm=>h6 x hx (k.mut hm)⟩
 ·obtain ⟨rfl,rfl,rfl,rfl,rfl,h3⟩:=hc;obtain ⟨A,h1,h2,h5⟩:=hr;obtain ⟨A',hA'⟩:=Option.isSome_iff_exists.1 h3;rcases Wy k.ar hA' with g| ⟨g,_⟩
  ·rw [h1] at g;obtain rfl:=Zwf g;refine ⟨A,hA',fun B hB=> ?_,h5⟩;obtain ⟨q1,q2⟩:=h2 B hB;exact ⟨q1,fun hl=>by rw [(XT h1).1];exact q2 hl⟩
  ·rw [h1] at g;cases g
 ·obtain ⟨rfl,rfl,rfl,rfl,rfl,h3⟩:=hc;obtain ⟨A,h1,h2,h5⟩:=hr;obtain ⟨A',hA'⟩:=Option.isSome_iff_exists.1 h3;rcases Wy k.ar hA' with g| ⟨g,_⟩
  ·rw [h1] at g;obtain rfl:=Zwf g;refine ⟨A,hA',fun B hB=> ?_,h5⟩;obtain ⟨q1,b,cur,t,r2,r3⟩:=h2 B hB;exact ⟨q1,b,cur,t,by rw [(XT h1).1];exact r2,r3⟩
  ·rw [h1] at g;cases g
 ·obtain ⟨rfl,rfl,rfl,rfl,rfl,h3⟩:=hc;obtain ⟨A,h1,h2,h5⟩:=hr;obtain ⟨A',hA'⟩:=Option.isSome_iff_exists.1 h3;rcases Wy k.ar hA' with g| ⟨g,_⟩
  ·rw [h1] at g;obtain rfl:=Zwf g;refine ⟨A,hA',fun B hB=> ?_,h5⟩;obtain ⟨q1,b,cur,t,b',m,c,r2,r3⟩:=h2 B hB;exact ⟨q1,b,cur,t,b',m,c,by rw [(XT h1).1];exact r2,r3⟩
  ·rw [h1] at g;cases g
 ·obtain ⟨rfl,rfl,h3⟩:=hc;exact ⟨fun k hk=>Option.isSome_iff_exists.1 (h3 k hk),hr.2⟩
 ·exact hr
 ·obtain ⟨rfl,h3⟩:=hc;exact ⟨Option.isSome_iff_exists.1 h3,hr.2⟩
 ·subst hc;exact hr.elim
 ·obtain ⟨rfl,rfl,rfl,rfl,rfl,h3⟩:=hc;obtain ⟨A,h1,h2,h5⟩:=hr;obtain ⟨A',hA'⟩:=Option.isSome_iff_exists.1 h3;rcases Wy k.ar hA' with g| ⟨g,_⟩
  ·rw [h1] at g;obtain rfl:=Zwf g;refine ⟨A,hA',fun B hB=> ?_,h5⟩;rw [(XT h1).1];exact h2 B hB
  ·rw [h1] at g;cases g
 ·exact hc.elim
theorem Zbk.Yb (k:Zbk σ' σ) (h:ZC N w0 e σ a w):∀{cs' cs:List CV} {vs:List Value},Yb e σ w cs vs->KP σ' σ cs' cs->Yb (ZbC e σ) σ' w cs' vs
 | [],[],_,hr,_=>hr
 | [],_::_,_,_,hc=>by simp [KP] at hc
 | _::_,[],_,_,hc=>by simp [KP] at hc
 | c'::cs',c::cs,_,hr,hc=>by
  simp only [Am.Yb] at hr ⊢;obtain ⟨v,vs',h0,h1,h2⟩:=hr;simp only [KP] at hc;exact ⟨v,vs',h0,k.rel h h1 hc.1,k.Yb h h2 hc.2⟩
theorem Zbk.pts (k:Zbk σ' σ) (h:ZC N w0 e σ a w):∀{ps' ps:List (Bool×List CV)} {vs:List Value},Yl e σ w ps vs->Zps σ' σ ps' ps->Yl (ZbC e σ) σ' w ps' vs
 | [],[],_,hr,_=>hr
 | [],_::_,_,_,hc=>by simp [Zps] at hc
 | _::_,[],_,_,hc=>by simp [Zps] at hc
 | (b',cs')::ps',(b,cs)::ps,_,hr,hc=>by
  simp only [Yl] at hr ⊢;obtain ⟨v,vs',h0,h1,h2⟩:=hr;simp only [Zps] at hc;obtain ⟨hb,hc1,hc2⟩:=hc;subst hb;refine ⟨v,vs',h0, ?_,k.pts h h2 hc2⟩;cases b'
  ·obtain ⟨c,rfl,h1⟩:=h1
   match cs',hc1 with
   | [c'],hc1=>simp only [KP] at hc1;exact ⟨c',rfl,k.rel h h1 hc1.1⟩
   | [],hc1=>simp [KP] at hc1
   | _::_::_,hc1=>simp [KP] at hc1
  ·obtain ⟨us,rfl,h1⟩:=h1;exact ⟨us,rfl,k.Yb h h1 hc1⟩
theorem Zbk.ZtD (k:Zbk σ' σ) (h:ZC N w0 e σ a w) {x' x:V} {v:Value} (hr:x.rel e σ w v) (hc:vle σ' σ x' x):x'.rel (ZbC e σ) σ' w v:=by
 unfold vle at hc
 split at hc
 ·exact hr
 ·exact k.rel h hr hc
 ·obtain ⟨vs,h0,h1⟩:=hr;exact ⟨vs,h0,k.Yb h h1 hc⟩
 ·obtain ⟨vs,h0,h1⟩:=hr;exact ⟨vs,h0,k.pts h h1 hc⟩
 ·exact hc.elim
theorem Zbk.into (k:Zbk σ' σ):Zdz σ' σ:=by
 intro N w0 a w ⟨e,h⟩
 have hlive:∀κ,live σ' κ->(live σ κ/\blk (ZbC e σ) κ=blk e κ)\/blk (ZbC e σ) κ=[]:=by
  intro κ hl;cases κ with
  | b j=>obtain ⟨cs,h1⟩:=hl;obtain ⟨u,hu,_⟩:=U2 k.bx h1;exact .inl ⟨⟨u,hu⟩,rfl⟩
  | a τ=>
   obtain ⟨A,h1⟩:=hl;rcases Wy k.ar h1 with g| ⟨g,_⟩
   ·exact .inl ⟨⟨A,g⟩,(XT g).2⟩
   ·exact .inr (V8 g).2
 refine ⟨ZbC e σ,⟨by rw [h.nt,k.nt],h.df,fun t v ht=> ?_,fun j cs hj=> ?_,fun τ A hA=> ?_,fun κ κ' hl hl' hne=> ?_,h.fr,⟨h.bad.1,fun b hb=>⟨(h.bad.2 b hb).1,fun κ hl hm=> ?_⟩⟩,fun κ hl hd b hm=> ?_,fun j cs hj hle=>by obtain ⟨u,hu,_⟩:=U2 k.bx hj;exact h.pn j u hu (k.nt▸hle),h.tn,fun κ b hl hb=> ?_⟩⟩
 ·obtain ⟨u,hu,hv⟩:=ZgX k.tm ht;exact k.ZtD h (h.tm t u hu) hv
 ·obtain ⟨u,hu,hv⟩:=U2 k.bx hj;obtain ⟨h1,h2⟩:=h.bx j u hu;exact ⟨h1,h2.imp (fun vs h3=>k.Yb h h3 hv) fun es h0=>Zn7 (h0▸hv)⟩
 ·rcases Wy k.ar hA with g| ⟨g,f,hA'⟩
  ·rw [(XT g).1,(XT g).2];obtain ⟨p,c,hv,hc,h4| ⟨b,t,cur,Fs,W,q1,q2,q3,q4,q5,q6,q7,q8⟩⟩:=h.ar τ A g
   ·exact ⟨p,c,hv,hc,.inl h4⟩
   ·refine ⟨p,c,hv,hc,.inr ⟨b,t,cur,Fs,W,q1,q2,q3,q4,q5,q6,q7, ?_⟩⟩;rcases q8 with q8| ⟨g1,g2,g3,g4⟩
    ·exact .inl q8
    ·exact .inr ⟨g1,g2,g3,fun x hx hm=>g4 x hx (k.mut hm)⟩
  ·obtain rfl:=Zwf hA';rw [(V8 g).1,(V8 g).2];exact ⟨none,0,rfl,by omega,.inl ⟨rfl,rfl,rfl,rfl⟩⟩
 ·rcases hlive κ hl with ⟨g1,g2⟩| g2
  ·rcases hlive κ' hl' with ⟨g3,g4⟩| g4
   ·rw [g2,g4];exact h.sep κ κ' g1 g3 hne
   ·rw [g4];simp
  ·rw [g2];simp
 ·rcases hlive κ hl with ⟨g1,g2⟩| g2
  ·rw [g2] at hm;exact (h.bad.2 b hb).2 κ g1 hm
  ·rw [g2] at hm;simp at hm
 ·rcases hlive κ hl with ⟨g1,g2⟩| g2
  ·rw [g2] at hm;exact h.dk κ g1 hd b hm
  ·rw [g2] at hm;simp at hm
 ·cases κ with
  | b j=>obtain ⟨cs,h1⟩:=hl;obtain ⟨u,hu,_⟩:=U2 k.bx h1;exact h.tp (.b j) b ⟨u,hu⟩ hb
  | a τ=>
   obtain ⟨A,h1⟩:=hl;rcases Wy k.ar h1 with g| ⟨g,_⟩
   ·simp only [tpB,(XT g).1,(XT g).2] at hb;exact h.tp (.a τ) b ⟨A,g⟩ hb
   ·simp [tpB,(V8 g).1,(V8 g).2,Value.ownBlock] at hb
def Zjz (τ τ2:Nat):CV->CV
 | .own κ n=>if κ=τ then .own τ2 n else .own κ n
 | .vw κ n lo hi W=>if κ=τ then .vw τ2 n lo hi W else .vw κ n lo hi W
 | c=>c
def ZsS (τ τ2:Nat):V->V
 | .one c=>.one (Zjz τ τ2 c)
 | .agg cs=>.agg (cs.map (Zjz τ τ2))
 | .tup ps=>.tup (ps.map fun p=>(p.1,p.2.map (Zjz τ τ2)))
 | .dead=>.dead
def St.ren (σ:St) (τ τ2:Nat):St:=⟨σ.nt,σ.tm.map (fun p=>(p.1,ZsS τ τ2 p.2)),σ.bx.map (fun p=>(p.1,p.2.map (Zjz τ τ2))),(τ2,(σ.ar.lookup τ).getD none)::(τ,none)::σ.ar⟩
theorem ZC.ren (h:ZC N w0 e σ a w) {τ τ2:Nat} {A:Arr} (hA:σ.ar.lookup τ=some (some A)) (h2:σ.ar.lookup τ2=none) (hd:τ<1000000) (hd2:τ2<1000000):
  ZC N w0 ⟨e.β,fun κ=>if κ=τ2 then e.ρ τ else e.ρ κ,fun κ=>if κ=τ2 then e.φ τ else e.φ κ,e.bad⟩ (σ.ren τ τ2) a w:=by
 have hne:τ≠τ2:=fun e'=>by rw [<-e',hA] at h2;cases h2
 have look2:(σ.ren τ τ2).ar.lookup τ2=some (some A):=by simp [St.ren,hA]
 have lookτ:(σ.ren τ τ2).ar.lookup τ=some none:=by simp only [St.ren,lookup_cons,if_neg hne,if_true]
 have look:∀κ,κ≠τ2->κ≠τ->(σ.ren τ τ2).ar.lookup κ=σ.ar.lookup κ:=fun κ k1 k2=>by simp only [St.ren,lookup_cons,if_neg k1,if_neg k2]
 have bxl:∀k cs,(σ.ren τ τ2).bx.lookup k=some cs->∃ds,σ.bx.lookup k=some ds/\cs=ds.map (Zjz τ τ2):=fun k cs hk=>by
  have h1:(σ.bx.lookup k).map (fun ds=>ds.map (Zjz τ τ2))=some cs:=by rw [<-VG];exact hk
  obtain ⟨ds,q1,q2⟩:=Option.map_eq_some_iff.1 h1;exact ⟨ds,q1,q2.symm⟩
 have bxr:∀k ds,σ.bx.lookup k=some ds->(σ.ren τ τ2).bx.lookup k=some (ds.map (Zjz τ τ2)):=fun k ds hk=>by
  show (σ.bx.map fun p=>(p.1,p.2.map (Zjz τ τ2))).lookup k=_;rw [VG,hk];rfl
 obtain ⟨e',he'⟩:∃e':Env,e'=⟨e.β,fun κ=>if κ=τ2 then e.ρ τ else e.ρ κ,fun κ=>if κ=τ2 then e.φ τ else e.φ κ,e.bad⟩:=⟨_,rfl⟩;rw [<-he'];have r2:e'.ρ τ2=e.ρ τ/\e'.φ τ2=e.φ τ:=by rw [he'];simp
 have rk:∀κ,κ≠τ2->e'.ρ κ=e.ρ κ/\e'.φ κ=e.φ κ:=fun κ hk=>by rw [he'];simp [hk]
 have rβ:e'.β=e.β:=by rw [he']
 have rb:e'.bad=e.bad:=by rw [he']
 have hmu:∀b,Mut e' (σ.ren τ τ2) b->Mut e σ b:=fun b hm=>by
  rcases hm with h0| ⟨k,cs,h1,h3⟩| ⟨κ,B,h1,h3⟩
  ·exact .inl (rb▸h0)
  ·obtain ⟨ds,q1,_⟩:=bxl k cs h1;exact .inr (.inl ⟨k,ds,q1,rβ▸h3⟩)
  ·by_cases k1:κ=τ2
   ·subst k1;rw [r2.1] at h3;exact .inr (.inr ⟨τ,A,hA,h3⟩)
   ·by_cases k2:κ=τ
    ·rw [k2,lookτ] at h1;cases h1
    ·rw [look κ k1 k2] at h1;rw [(rk κ k1).1] at h3;exact .inr (.inr ⟨κ,B,h1,h3⟩)
 have hC:∀(c:CV) (v:Value),c.rel e σ w v->(Zjz τ τ2 c).rel e' (σ.ren τ τ2) w v:=fun c v hr=>by
  cases c with
  | l x=>obtain ⟨F,q1,q2⟩:=hr;exact ⟨F,q1,fun b hb hm=>q2 b hb (hmu b hm)⟩
  | nil=>exact hr
  | vw κ n lo m W=>
   obtain ⟨B,q1,q2,q3⟩:=hr;simp only [Zjz]
   by_cases k2:κ=τ
   ·subst k2;rw [if_pos rfl];rw [hA] at q1;obtain rfl:=Zwf q1;refine ⟨_,look2,fun C hC=> ?_,q3⟩;rw [r2.1];exact q2 C hC
   ·rw [if_neg k2];have k1:κ≠τ2:=fun e1=>by rw [e1,h2] at q1;cases q1
    refine ⟨B,by rw [look κ k1 k2];exact q1,fun C hC=> ?_,q3⟩;rw [(rk κ k1).1];exact q2 C hC
  | any=>exact hr
  | kept v0 x=>obtain ⟨q0,F,q1,q2⟩:=hr;exact ⟨q0,F,q1,fun b hb hm=>q2 b hb (hmu b hm)⟩
  | np=>exact hr
  | clo f ks=>exact ⟨fun j hj=>⟨_,bxr j _ (hr.1 j hj).choose_spec⟩,by rw [rβ];exact hr.2⟩
  | nf=>exact hr
  | mp j=>exact ⟨⟨_,bxr j _ hr.1.choose_spec⟩,by rw [rβ];exact hr.2⟩
  | mc es=>exact hr
  | own κ n=>
   obtain ⟨B,q1,q2,q3⟩:=hr;simp only [Zjz]
   by_cases k2:κ=τ
   ·subst k2;rw [if_pos rfl];rw [hA] at q1;obtain rfl:=Zwf q1;refine ⟨_,look2,fun C hC=> ?_,q3⟩;rw [r2.1];exact q2 C hC
   ·rw [if_neg k2];have k1:κ≠τ2:=fun e1=>by rw [e1,h2] at q1;cases q1
    refine ⟨B,by rw [look κ k1 k2];exact q1,fun C hC=> ?_,q3⟩;rw [(rk κ k1).1];exact q2 C hC
  | box k off=>
   obtain ⟨⟨cs,q1⟩,q2⟩:=hr;exact ⟨⟨_,bxr k cs q1⟩,by rw [rβ];exact q2⟩
  | adr ls=>
   obtain ⟨b,off,vs,F,q1,q2,q3,q4,q5,q6⟩:=hr;exact ⟨b,off,vs,F,q1,q2,q3,q4,fun hm=>q5 (hmu b hm),fun x hx hm=>q6 x hx (hmu x hm)⟩
  | elt κ n i W off=>
   obtain ⟨B,q1,q2,q3⟩:=hr
   by_cases k2:κ=τ
   ·subst k2;exact ⟨none,lookτ,fun C hC=>(nomatch hC),q3⟩
   ·have k1:κ≠τ2:=fun e1=>by rw [e1,h2] at q1;cases q1
    refine ⟨B,by rw [look κ k1 k2];exact q1,fun C hC=> ?_,q3⟩;rw [(rk κ k1).1];exact q2 C hC
  | nst κ j W off m=>
   obtain ⟨B,q1,q2,q3⟩:=hr
   by_cases k2:κ=τ
   ·subst k2;exact ⟨none,lookτ,fun C hC=>(nomatch hC),q3⟩
   ·have k1:κ≠τ2:=fun e1=>by rw [e1,h2] at q1;cases q1
    refine ⟨B,by rw [look κ k1 k2];exact q1,fun C hC=> ?_,q3⟩;rw [(rk κ k1).1];exact q2 C hC
  | nel κ j W off i=>
   obtain ⟨B,q1,q2,q3⟩:=hr
   by_cases k2:κ=τ
   ·subst k2;exact ⟨none,lookτ,fun C hC=>(nomatch hC),q3⟩
   ·have k1:κ≠τ2:=fun e1=>by rw [e1,h2] at q1;cases q1
    refine ⟨B,by rw [look κ k1 k2];exact q1,fun C hC=> ?_,q3⟩;rw [(rk κ k1).1];exact q2 C hC
 have hL:∀(cs:List CV) (vs:List Value),Yb e σ w cs vs->Yb e' (σ.ren τ τ2) w (cs.map (Zjz τ τ2)) vs:=fun cs=>by
  induction cs with
  | nil=>intro vs hr;exact hr
  | cons c cs ih=>
   intro vs hr;simp only [Am.Yb] at hr;obtain ⟨v,vs',rfl,q1,q2⟩:=hr;simp only [List.map_cons,Am.Yb];exact ⟨v,vs',rfl,hC _ _ q1,ih _ q2⟩
 have hP:∀(ps:List (Bool×List CV)) (vs:List Value),Yl e σ w ps vs->Yl e' (σ.ren τ τ2) w (ps.map fun (p:Bool×List CV)=>(p.1,p.2.map (Zjz τ τ2))) vs:=fun ps=>by
  induction ps with
  | nil=>intro vs hr;exact hr
  | cons p ps ih=>
   intro vs hr;simp only [Yl] at hr;obtain ⟨v,vs',rfl,q1,q2⟩:=hr;simp only [List.map_cons,Yl];refine ⟨v,vs',rfl, ?_,ih _ q2⟩;obtain ⟨b,cs⟩:=p;cases b
   ·obtain ⟨c,rfl,q1⟩:=q1;exact ⟨_,rfl,hC _ _ q1⟩
   ·obtain ⟨us,rfl,q1⟩:=q1;exact ⟨us,rfl,hL _ _ q1⟩
 have hV:∀(x:V) (v:Value),x.rel e σ w v->(ZsS τ τ2 x).rel e' (σ.ren τ τ2) w v:=fun x v hr=>by
  cases x with
  | one c=>exact hC c v hr
  | agg cs=>obtain ⟨us,rfl,q1⟩:=hr;exact ⟨us,rfl,hL _ _ q1⟩
  | tup ps=>obtain ⟨us,rfl,q1⟩:=hr;exact ⟨us,rfl,hP _ _ q1⟩
  | dead=>exact hr
 have hlive:∀κ,live (σ.ren τ τ2) κ->∃κ0,live σ κ0/\blk e' κ=blk e κ0/\(Ze9 κ↔Ze9 κ0)/\(κ0=κ\/(κ0= .a τ/\κ= .a τ2)):=fun κ hl=>by
  cases κ with
  | b k=>
   obtain ⟨cs,q1⟩:=hl;obtain ⟨ds,q2,_⟩:=bxl k cs q1;exact ⟨.b k,⟨ds,q2⟩,by simp [blk,rβ],Iff.rfl,.inl rfl⟩
  | a κ=>
   obtain ⟨B,q1⟩:=hl
   by_cases k1:κ=τ2
   ·subst k1;exact ⟨.a τ,⟨A,hA⟩,by simp only [blk];exact r2.2,by simp only [Ze9];omega,.inr ⟨rfl,rfl⟩⟩
   ·by_cases k2:κ=τ
    ·rw [k2,lookτ] at q1;cases q1
    ·rw [look κ k1 k2] at q1;exact ⟨.a κ,⟨B,q1⟩,by simp only [blk];exact (rk κ k1).2,Iff.rfl,.inl rfl⟩
 have noτ:¬live (σ.ren τ τ2) (.a τ):=fun ⟨B,q1⟩=>by rw [lookτ] at q1;cases q1
 refine ⟨h.nt,h.df,fun t x ht=> ?_,fun k cs hk=> ?_,fun κ B hB=> ?_,fun κ κ' hl hl' hn=> ?_,h.fr,⟨fun b hb=>rb▸h.bad.1 b hb,fun b hb=>⟨(h.bad.2 b (rb▸hb)).1,fun κ hl hbk=> ?_⟩⟩,fun κ hl hdp b hb=> ?_,fun k cs hk hle=> ?_,h.tn,fun κ b hl hb=> ?_⟩
 ·have h1:(σ.tm.lookup t).map (ZsS τ τ2)=some x:=by rw [<-VG];exact ht
  obtain ⟨x0,q1,rfl⟩:=Option.map_eq_some_iff.1 h1;exact hV _ _ (h.tm t x0 q1)
 ·obtain ⟨ds,q1,rfl⟩:=bxl k cs hk;obtain ⟨g1,g2⟩:=h.bx k ds q1;rw [rβ];exact ⟨g1,g2.imp (fun vs g3=>hL _ _ g3) fun es h0=>by rw [h0];rfl⟩
 ·have key:∀κ0,σ.ar.lookup κ0=some (some B)->Ve N (Mut e' (σ.ren τ τ2)) w B (e.ρ κ0) (e.φ κ0):=fun κ0 q0=>by
   obtain ⟨p,c,hv,hc,h4| ⟨b,t,cur,Fs,W,q1,q2,q3,q4,q5,q6,q7,q8⟩⟩:=h.ar κ0 B q0
   ·exact ⟨p,c,hv,hc,.inl h4⟩
   ·refine ⟨p,c,hv,hc,.inr ⟨b,t,cur,Fs,W,q1,q2,q3,q4,q5,q6,q7, ?_⟩⟩;rcases q8 with q8| ⟨g1,g2,g3,g4⟩
    ·exact .inl q8
    ·exact .inr ⟨g1,g2,g3,fun x hx hm=>g4 x hx (hmu x hm)⟩
  by_cases k1:κ=τ2
  ·subst k1;rw [look2] at hB;obtain rfl:=Zwf (Zwf hB);rw [r2.1,r2.2];exact key τ hA
  ·by_cases k2:κ=τ
   ·rw [k2,lookτ] at hB;cases hB
   ·rw [look κ k1 k2] at hB;rw [(rk κ k1).1,(rk κ k1).2];exact key κ hB
 ·obtain ⟨κ0,g1,g2,_,g3⟩:=hlive κ hl;obtain ⟨κ0',g1',g2',_,g3'⟩:=hlive κ' hl';rw [g2,g2'];refine h.sep κ0 κ0' g1 g1' fun heq=> ?_;rcases g3 with g3| ⟨g3,g4⟩<;>rcases g3' with g3'| ⟨g3',g4'⟩
  ·exact hn (by rw [<-g3,<-g3',heq])
  ·exact noτ (by rw [<-g3',<-heq,g3];exact hl)
  ·exact noτ (by rw [<-g3,heq,g3'];exact hl')
  ·exact hn (by rw [g4,g4'])
 ·obtain ⟨κ0,g1,g2,g3,_⟩:=hlive κ hl;rw [g2] at hbk;exact g3.2 ((h.bad.2 b (rb▸hb)).2 κ0 g1 hbk)
 ·obtain ⟨κ0,g1,g2,g3,_⟩:=hlive κ hl;rw [g2] at hb;rw [rb];exact h.dk κ0 g1 (g3.1 hdp) b hb
 ·obtain ⟨ds,q1,_⟩:=bxl k cs hk;rw [rβ];exact h.pn k ds q1 hle
 ·cases κ with
  | b k=>
   obtain ⟨cs,hk⟩:=hl;obtain ⟨ds,q1,_⟩:=bxl k cs hk;exact h.tp (.b k) b ⟨ds,q1⟩ (by simp only [tpB,rβ] at hb ⊢;exact hb)
  | a κ=>
   obtain ⟨B,hB⟩:=hl
   by_cases k1:κ=τ2
   ·subst k1;rcases hb with hb| ⟨hb,_⟩
    ·exact h.tp (.a τ) b ⟨A,hA⟩ (.inl (by rw [<-r2.1];exact hb))
    ·omega
   ·by_cases k2:κ=τ
    ·rw [k2,lookτ] at hB;cases hB
    ·rw [look κ k1 k2] at hB;exact h.tp (.a κ) b ⟨B,hB⟩ (by simp only [tpB,(rk κ k1).1,(rk κ k1).2] at hb ⊢;exact hb)
theorem Znw {τ τ2:Nat} (hA:(match σ.ar.lookup τ with | some (some _)=>True| _=>False)) (h2:σ.ar.lookup τ2=none) (hd:τ<1000000) (hd2:τ2<1000000):Zdz (σ.ren τ τ2) σ:=fun N w0 a w ⟨e,h⟩=>by
 split at hA
 ·rename_i A hA';exact ⟨_,h.ren hA' h2 hd hd2⟩
 ·exact hA.elim
def St.ZdD (σ:St) (τ:Nat):St:=⟨σ.nt,σ.tm,σ.bx,(τ,match σ.ar.lookup τ with | some (some A)=>some ⟨false,A.es⟩| _=>none)::σ.ar⟩
theorem ZC.ZdD (h:ZC N w0 e σ a w) {τ:Nat} {A:Arr} (hA:σ.ar.lookup τ=some (some A)) (hd:τ<1000000):∃e',ZC N w0 e' (σ.ZdD τ) a w:=by
 have lookτ:(σ.ZdD τ).ar.lookup τ=some (some ⟨false,A.es⟩):=by simp [St.ZdD,hA]
 have look:∀κ,κ≠τ->(σ.ZdD τ).ar.lookup κ=σ.ar.lookup κ:=fun κ k1=>by simp only [St.ZdD,lookup_cons,if_neg k1]
 obtain ⟨e',he'⟩:∃e':Env,e'=⟨e.β,e.ρ,fun κ=>if κ=τ then (match (e.ρ τ).ownBlock with | some b=>[b]| none=>[]) else e.φ κ,e.bad⟩:=⟨_,rfl⟩;have rβ:e'.β=e.β:=by rw [he']
 have rρ:e'.ρ=e.ρ:=by rw [he']
 have rb:e'.bad=e.bad:=by rw [he']
 have hφ:e'.φ τ=(match (e.ρ τ).ownBlock with | some b=>[b]| none=>[]):=by rw [he'];simp
 have hφ':∀κ,κ≠τ->e'.φ κ=e.φ κ:=fun κ hk=>by rw [he'];simp [hk]
 have hmu:∀b,Mut e' (σ.ZdD τ) b->Mut e σ b:=fun b hm=>by
  rcases hm with h0| ⟨k,cs,h1,h3⟩| ⟨κ,B,h1,h3⟩
  ·exact .inl (rb▸h0)
  ·exact .inr (.inl ⟨k,cs,h1,rβ▸h3⟩)
  ·rw [rρ] at h3
   by_cases k1:κ=τ
   ·subst k1;exact .inr (.inr ⟨κ,A,hA,h3⟩)
   ·rw [look κ k1] at h1;exact .inr (.inr ⟨κ,B,h1,h3⟩)
 have u:Up e σ w e' (σ.ZdD τ) w:=⟨Zwk _,fun _ _ _=>rfl,fun b _ hm=>hmu b hm,fun k cs hk=>⟨⟨cs,hk⟩,by rw [rβ]⟩,fun κ B hB=>by
  by_cases k1:κ=τ
  ·subst k1;rw [hA] at hB;obtain rfl:=Zwf hB;exact ⟨_,lookτ,fun B' hB'=>by obtain rfl:=Zwf hB';exact ⟨A,rfl,Zwk _,fun _=>by rw [rρ]⟩⟩
  ·exact ⟨B,by rw [look κ k1];exact hB,fun B' hB'=>⟨B',hB',Zwk _,fun _=>by rw [rρ]⟩⟩,fun _ _ _ _=>⟨by rw [rρ],fun _ _=>rfl⟩⟩
 have hsub:∀b∈e'.φ τ,b∈e.φ τ:=fun b hb=>by
  rw [hφ] at hb;cases ho:(e.ρ τ).ownBlock with
  | none=>rw [ho] at hb;simp at hb
  | some c=>rw [ho] at hb;simp at hb;subst hb;exact ((h.ar τ A hA).own ho).1
 refine ⟨e',h.Zkn u (fun κ=>κ= .a τ) h.nt h.df (fun t v ht=>.inl ⟨ht,rfl⟩) (fun k cs hk _=>⟨hk,rfl⟩) (fun κ B hB hK=> ?_) (fun k cs _ hK=>by cases hK) (fun κ B hB hK=> ?_) (fun κ hl hK b hb=> ?_) (fun κ κ' _ _ hne h1 h2=>absurd (h1.trans h2.symm) hne) h.fr (fun _ h=>rb▸h) (fun _ h=>.inl (rb▸h)) (fun κ _ hK hdp=> ?_) (fun k cs _ hK=>by cases hK) (fun κ b _ hK hb=>by
  subst hK;rcases hb with hb| ⟨hb,_⟩
  ·rw [rρ] at hb;exact h.tp (.a τ) b ⟨A,hA⟩ (.inl hb)
  ·omega)⟩
 ·have k1:κ≠τ:=fun e1=>hK (by rw [e1]);rw [look κ k1] at hB;exact ⟨hB,by rw [rρ],hφ' κ k1,fun _ _=>rfl⟩
 ·injection hK with hK
  subst hK;rw [lookτ] at hB;obtain rfl:=Zwf (Zwf hB);rw [rρ];obtain ⟨p,c,hv,hc,h4| ⟨b,t,cur,Fs,W,q1,q2,q3,q4,q5,q6,q7,q8⟩⟩:=h.ar κ A hA
  ·refine ⟨p,c,hv,hc,.inl ⟨h4.1,h4.2.1,h4.2.2.1, ?_⟩⟩;rw [hφ,hv,h4.2.1];rfl
  ·have ho:(e.ρ κ).ownBlock=some b:=by rw [hv,q1];rfl
   refine ⟨p,c,hv,hc,.inr ⟨b,t,cur,Fs,W,q1,q2,q3,q4,q5,q6,q7,.inr ⟨rfl,by rw [hφ,ho], ?_⟩⟩⟩;rcases q8 with ⟨g1,g2,g3,g4⟩| ⟨g1,g2,g3,g4⟩
   ·refine ⟨g4.rp,fun x hx hm=>h.inner hA hd (by simp [g2,hx]) ?_ (hmu x hm)⟩;rw [ho];intro e1;obtain rfl:=Zwf e1;rw [g2] at g3;exact (List.nodup_cons.1 g3).1 hx
   ·exact ⟨g3,fun x hx hm=>g4 x hx (hmu x hm)⟩
 ·subst hK;exact .inl ⟨⟨A,hA⟩,hsub b hb⟩
 ·subst hK;have:1000000<=τ:=hdp;omega
def Zde:List Nat->St->Prop
 | [],_=>True
 | τ::τs,σ=>(match σ.ar.lookup τ with | some (some _)=>True| _=>False)/\τ<1000000/\Zde τs (σ.ZdD τ)
theorem ZbP:∀{τs:List Nat} {σ:St},Zde τs σ->Zdz (τs.foldl St.ZdD σ) σ
 | [],_,_=>fun _ _ _ _ h=>h
 | τ::τs,σ,⟨h1,h2,h3⟩=>fun N w0 a w ⟨e,h⟩=>by
  split at h1
  ·rename_i A hA;exact ZbP h3 N w0 a w (h.ZdD hA h2)
  ·exact h1.elim
variable {Q:Exit->St->Prop} {x y c:Code}
theorem ZaF (k:Zdz σ' σ) (h:AW P N w0 c Q σ'):AW P N w0 c Q σ:=fun a w hs=>h a w (k _ _ _ _ hs)
theorem Zm1 {ι:Type} (S:ι->St) (I:ι->Prop) (hx:∀K:St->Prop,(∀i σ',I i->Zdz (S i) σ'->K σ')->AW P N w0 x (ZfP K Q) σ) (hy:∀i,I i->AW P N w0 y Q (S i)):AW P N w0 (.seq x y) Q σ:=
 Zg fun K hK=>hx K fun i σ' hi hk=>hK σ' (ZaF hk (hy i hi))
theorem Zu4 {ι:Type} (S:ι->St) (I:Nat->ι->Prop) (n0:Nat) (i0:ι) (h0:I n0 i0) (hk:Zdz (S i0) σ) (hz:∀i,¬I 0 i)
  (body:∀(KL:St->Prop) (n:Nat) (i:ι),(∀i' σ',I n i'->Zdz (S i') σ'->KL σ')->I (n+1) i->AW P N w0 c (ZfP KL Q) (S i)):AW P N w0 (.loop c) Q σ:=by
 have key:∀n i a w,I n i->Sim N w0 (S i) a w->Code.rounds P c (fun e a w=>∃σ',Q e σ'/\Sim N w0 σ' a w) n a w:=by
  intro n
  induction n with
  | zero=>intro i a w hI;exact (hz i hI).elim
  | succ n ih=>
   intro i a w hI hsim;rw [rounds_succ];refine Code.wp_mono (fun e a' w' hq=> ?_) (body (fun σ'=>∃i',I n i'/\Zdz (S i') σ') n i (fun i' σ' h1 h2=>⟨i',h1,h2⟩) hI a w hsim);obtain ⟨σ',h1,h2⟩:=hq;cases e with
   | normal=>
    obtain ⟨i',hI',hk'⟩:=h1;exact ih i' a' w' hI' (hk' _ _ _ _ h2)
   | _=>exact ⟨σ',h1,h2⟩
 intro a w hs;exact wp_loop_rounds n0 (key _ i0 a w h0 (hk _ _ _ _ hs))
def Ze3 (P:Program) (f:Nat) (ds:List DV) (pu:Bool) (X:Bool->Bool->List DV->Prop) (Y:Prop):Prop:=(∃fr dp rs,Ctr P f ds fr rs/\(fr=false->pu=true)/\X fr dp rs)\/Y
theorem ZoT {f:Nat} {ds ds':List DV} {fr pu:Bool} {rs:List DV} {X:Bool->Bool->List DV->Prop} {Y:Prop} (dp:Bool) (h:Ctr P f ds fr rs) (hd:ds'=ds) (hp:fr=false->pu=true) (hx:X fr dp rs):Ze3 P f ds' pu X Y:=
 .inl ⟨fr,dp,rs,hd▸h,hp,hx⟩
theorem Zla {ops:Array Oper} {o:Oper} {rest:List Oper} {K:St->Prop} {f:Nat} {vs:Option (List V)} {ds:List DV} {pu:Bool} {p:Prop}:ZgE P ops o rest σ K f vs (some (ds,pu,p))=(p/\Ze3 P f ds pu (fun fr dp rs=>ZgD P ops rest σ K (QT σ o.dst fr dp rs)) (XBy P σ o.dst f vs fun g=>Z5 P ops rest (σ.app g) K)):=rfl
def ZsT (σ:St) (dst:Option Nat) (j:Nat) (d1:List DV) (ls:List L) (d2:List DV) (fr:Bool) (rs:List DV) (ls':List L) (Z:Eff->Prop):Option (List DV×Nat×List L×List DV×List Nat×Prop)->Prop
 | some (e1,k,l,e2,τs,p)=>p/\e1=d1/\l=ls/\e2=d2/\(match Vt σ dst k τs fr rs ls' with | some g=>Z g| none=>False)
 | none=>False
theorem ZA {f:Nat} {dst:Option Nat} {vs:List V} {d1 d2:List DV} {ls ls':List L} {fr:Bool} {rs:List DV} {Z:Eff->Prop} (j:Nat) (h:Zbj P f d1 ls d2 fr rs ls') (hx:ZsT σ dst j d1 ls d2 fr rs ls' Z (ZgK σ j vs)):XBy P σ dst f (some vs) Z:=by
 unfold ZsT at hx
 split at hx
 ·rename_i e1 k l e2 τs p hA;obtain ⟨hp,rfl,rfl,rfl,hz⟩:=hx
  split at hz
  ·rename_i g hg;exact ⟨vs,g,rfl,.ptr j _ k _ _ τs p fr rs ls' g hA hp h hg,hz⟩
  ·exact hz.elim
 ·exact hx.elim
theorem Zi8 {ops:Array Oper} {o:Oper} {rest:List Oper} {K:St->Prop} {want:Bool}:Vr P ops o rest σ K want none=False:=rfl
theorem Zlb {ops:Array Oper} {o:Oper} {rest:List Oper} {K:St->Prop} {f:Nat} {vs:Option (List V)}:ZgE P ops o rest σ K f vs none=XBy P σ o.dst f vs fun g=>Z5 P ops rest (σ.app g) K:=rfl
theorem ZkX {ops:Array Oper} {σ0:St} {K:St->Prop} {B As:List (List Nat)} {o:Oper} {rest:List Oper} {i:Nat} {es:List (Nat×Eff)} {f:Nat} {vs:Option (List V)} {ds:List DV} {pu:Bool} {p:Prop}:
  ZkZ P ops σ0 K B As o rest i es σ f vs (some (ds,pu,p))=(p/\Ze3 P f ds pu (fun fr dp rs=>ZeR P ops σ0 K B As rest i es (QT σ o.dst fr dp rs)) (XBy P σ o.dst f vs fun g=>ZdK P ops σ0 K B As rest (i+1) ((i,g)::es))):=rfl
theorem ZkY {ops:Array Oper} {σ0:St} {K:St->Prop} {B As:List (List Nat)} {o:Oper} {rest:List Oper} {i:Nat} {es:List (Nat×Eff)} {f:Nat} {vs:Option (List V)}:ZkZ P ops σ0 K B As o rest i es σ f vs none=XBy P σ o.dst f vs fun g=>ZdK P ops σ0 K B As rest (i+1) ((i,g)::es):=rfl
end
section
variable {α β γ:Type}
def at? (xs:List α) (i:Int):Option α:=if 0<=i then xs[i.toNat]? else none
theorem Zda {xs:List α} {i:Int} {x:α} (h:at? xs i=some x):0<=i/\xs[i.toNat]? =some x/\i.toNat<xs.length/\∀h,xs[i.toNat]'h=x:=by
 unfold at? at h
 split at h
 ·exact ⟨by assumption,h,(List.getElem?_eq_some_iff.1 h).1,fun _=>(List.getElem?_eq_some_iff.1 h).2⟩
 ·cases h
def Qb (b:Nat) (xs ys:List α):Option (List α):=if xs.length+ys.length<=140737488355328/\(xs.length+ys.length)*b<=140737488355328 then some (xs++ys) else none
theorem Z0 {b:Nat} {xs ys zs:List α} (h:Qb b xs ys=some zs):zs=xs++ys/\xs.length+ys.length<=140737488355328/\(xs.length+ys.length)*b<=140737488355328:=by
 unfold Qb at h
 split at h
 ·exact ⟨(Zwf h).symm,by assumption⟩
 ·cases h
def Zwd (xs ys:List α):Option (List α):=if xs.length<=9223372036854775807/\ys.length<=9223372036854775807 then some (over xs ys) else none
def mk? (b:Nat) (n:Int):Option Nat:=if 0<=n/\n<=9223372036854775807/\(b:Int)*n<=281474976710656 then some n.toNat else none
theorem Zgd {b:Nat} {n:Int} {m:Nat} (h:mk? b n=some m):m=n.toNat/\0<=n/\n<=9223372036854775807/\(b:Int)*n<=281474976710656:=by
 unfold mk? at h
 split at h
 ·exact ⟨(Zwf h).symm,by assumption⟩
 ·cases h
def Zwc (xs:List α) (m:Int):Option (List α):=if 1<=m/\m<=xs.length then some (xs.take m.toNat) else none
def nz? (b:Int):Option Unit:=if b≠0 then some () else none
def Ze4 (xs:List α) (l h:Int):Option (List α):=if 0<=l/\l<=h/\h<=xs.length then some ((xs.take h.toNat).drop l.toNat) else none
theorem ZbQ {xs ys:List α} {l r:Int} (h:Ze4 xs l r=some ys):ys=(xs.take r.toNat).drop l.toNat/\0<=l/\l<=r/\r<=xs.length:=by
 unfold Ze4 at h
 split at h
 ·exact ⟨(Zwf h).symm,by assumption⟩
 ·cases h
theorem ZfL {xs ys:List α} {l r:Int} (h:Ze4 xs l r=some ys):ys=(xs.take r.toNat).drop l.toNat/\0<=l/\l<=r/\r<=xs.length/\min r.toNat xs.length=r.toNat/\r.toNat<=xs.length:=by
 obtain ⟨h1,h2,h3,h4⟩:=ZbQ h;exact ⟨h1,h2,h3,h4,Nat.min_eq_left (by omega),by omega⟩
def Uj (s:ByteArray) (l h:Int):Option ByteArray:=if 0<=l/\l<=h/\h<=s.size then some (s.extract l.toNat h.toNat) else none
theorem KW {s t:ByteArray} {l r:Int} (h:Uj s l r=some t):t=s.extract l.toNat r.toNat/\0<=l/\l<=r/\r<=s.size:=by
 unfold Uj at h
 split at h
 ·exact ⟨(Zwf h).symm,by assumption⟩
 ·cases h
def Zqw (s t:ByteArray):Option ByteArray:=if s.size+t.size<=9223372036854775807 then some (s++t) else none
theorem Zoa {s t u:ByteArray} (h:Zqw s t=some u):u=s++t/\s.size+t.size<=9223372036854775807:=by
 unfold Zqw at h
 split at h
 ·exact ⟨(Zwf h).symm,by assumption⟩
 ·cases h
theorem bind_some {o:Option α} {f:α->Option β} {r:β} (h:o.bind f=some r):∃x,o=some x/\f x=some r:=Option.bind_eq_some_iff.1 h
def iC (n:Int):List L:=[.int .i64 n]
def sC (s:ByteArray):List L:=[.str s]
def bC (b:Bool):List L:=[.bool b]
def lC (c:α->List L) (xs:List α):List L:=[.sl (xs.map c)]
end
def tmpsOf:List Operand->List Nat
 | []=>[]
 | .tmp t::r=>t::tmpsOf r
 | _::r=>tmpsOf r
theorem JB:∀{l:List Operand} {t:Nat},Operand.tmp t∈l->t∈tmpsOf l
 | [],_,h=>by simp at h
 | .tmp u::r,t,h=>by
  rcases List.mem_cons.1 h with h| h
  ·cases h;simp [tmpsOf]
  ·simp [tmpsOf,JB h]
 | .const _::r,t,h=>by
  rcases List.mem_cons.1 h with h| h
  ·cases h
  ·simp [tmpsOf,JB h]
 | .global _::r,t,h=>by
  rcases List.mem_cons.1 h with h| h
  ·cases h
  ·simp [tmpsOf,JB h]
 | .func _::r,t,h=>by
  rcases List.mem_cons.1 h with h| h
  ·cases h
  ·simp [tmpsOf,JB h]
def Zjd (l:List Oper) (o:Oper):List Nat:=
 tmpsOf o.op.operands.toList++(match o.guard with | some (j,_)=>(match (l[j]?).bind (·.dst) with | some d=>[d]| none=>[])| none=>[])
def ZnM (l:List Oper) (A:List (List Nat)) (n:Nat):Bool:=
 ((l.take n).zip A).zipIdx.all (fun ((o,d),i)=>!Zc0 o.op&&o.dst.isSome&&(l.take n).zipIdx.all fun (q,j)=>j==i||(q.dst != o.dst&&(d.contains j||(Zjd l o).all fun t=>q.dst != some t)))&&
 ((l.zip A).zipIdx.all fun ((_,d),i)=>decide (i<n)||(List.range i).all d.contains)&&decide (n<=l.length)
section
variable {σ σ':St} {P:Program} {N:Nat->Prop} {w0:Bs}
theorem ZpV {x:Operand} (h:∀t,x= .tmp t->σ'.tm.lookup t=σ.tm.lookup t):opd σ' x=opd σ x:=by
 cases x with
 | tmp t=>exact h t rfl
 | _=>rfl
theorem ZpW {x:Operand} (h:opd σ' x=opd σ x):num σ' x=num σ x:=by unfold num;rw [h]
theorem ZdS:∀{l:List Operand},(∀x∈l,opd σ' x=opd σ x)->Xl σ' l=Xl σ l
 | [],_=>rfl
 | x::l,h=>by
  have h2:=ZdS (l:=l) fun y hy=>h y (List.mem_cons_of_mem _ hy);simp only [Xl,h x (by simp),h2]
theorem Zhk:∀{l:List (Nat×Operand)},(∀p∈l,opd σ' p.2=opd σ p.2)->parts σ' l=parts σ l
 | [],_=>rfl
 | (i,x)::l,h=>by
  have h2:=Zhk (l:=l) fun y hy=>h y (List.mem_cons_of_mem _ hy);have h1:opd σ' x=opd σ x:=h (i,x) (by simp);simp only [parts,h1,h2]
theorem Zhm {d:Int} {x:Option Operand} (h:∀y,x=some y->opd σ' y=opd σ y):Vq σ' d x=Vq σ d x:=by
 cases x with
 | none=>rfl
 | some y=>simp only [Vq,ZpW (h y rfl)]
theorem Zl3 {op:Op} (hx:∀x∈op.operands.toList,opd σ' x=opd σ x) (hb:σ'.bx=σ.bx) (ha:σ'.ar=σ.ar):QK P σ' op=QK P σ op:=by
 cases op
 case build t ps=>
  have h:parts σ' ps.toList=parts σ ps.toList:=Zhk fun p hp=>hx p.2 (by simp [Op.operands];exact ⟨p.1,by simpa using hp⟩);simp only [QK,h]
 case slice t x lo hi mx=>
  have h1:=hx x (by simp [Op.operands]);have h2:∀d,Vq σ' d lo=Vq σ d lo:=fun d=>Zhm fun y hy=>hx y (by simp [Op.operands,hy]);have h3:∀d,Vq σ' d hi=Vq σ d hi:=fun d=>Zhm fun y hy=>hx y (by simp [Op.operands,hy]);cases mx<;>simp only [QK,h1,h2,h3,ha]
 case call c=>
  obtain ⟨ce,args,ts⟩:=c;have h1:∀x∈args.toList,opd σ' x=opd σ x:=fun x hx'=>hx x (by simp [Op.operands,Call.operands];exact .inr (by simpa using hx'));have h2:Xl σ' args.toList=Xl σ args.toList:=ZdS h1;cases ce with
  | builtin b=>
   cases b<;>simp only [QK,h2]
   split
   ·rename_i x t hxs hts;rw [h1 x (by rw [hxs];simp)]
   ·rfl
  | _=>simp only [QK]
 all_goals simp only [Op.operands,List.mem_cons,List.not_mem_nil,or_false,forall_eq,forall_eq_or_imp,List.mem_singleton] at hx
 all_goals first
  | (simp only [QK];done)
  | (simp only [QK,num,hx,hb,ha];done)
  | (obtain ⟨h1,h2⟩:=hx;simp only [QK,num,h1,h2,hb,ha];done)
  | (obtain ⟨h1,h2,h3⟩:=hx;simp only [QK,num,h1,h2,h3,hb,ha];done)
theorem ZjI (ha:σ'.ar=σ.ar) (c:CV):ZiS σ' c=ZiS σ c:=by unfold ZiS;rw [ha]
theorem ZjH (ha:σ'.ar=σ.ar):∀cs:List CV,ZgO σ' cs=ZgO σ cs
 | []=>rfl
 | c::cs=>by simp only [ZgO,ZjI ha,ZjH ha cs]
theorem ZnL (ha:σ'.ar=σ.ar) (v:V):ZgN σ' v=ZgN σ v:=by cases v<;>simp only [ZgN,ZjI ha,ZjH ha]
theorem Zhl (ha:σ'.ar=σ.ar):∀vs:List V,WN σ' vs=WN σ vs
 | []=>rfl
 | v::vs=>by simp only [WN,ZnL ha,Zhl ha vs]
theorem ZpU {ops:Array Oper} {j:Nat} {want:Bool} (h:∀d,(ops[j]?).bind (·.dst)=some d->σ'.tm.lookup d=σ.tm.lookup d):yld σ' ops j want=yld σ ops j want:=by
 unfold yld
 split
 ·rename_i d hd;rw [h d hd]
 ·rfl
theorem ZiE (hn:σ'.nt=σ.nt) (ha:σ'.ar=σ.ar) (d:Option Nat) (fr dp:Bool) (rs:List DV):QT σ' d fr dp rs=QT σ d fr dp rs:=by unfold QT;rw [hn,ha]
theorem ZcY {op:Op} {d:Option Nat} (h:Zc0 op=false):XZ P σ d op=none:=by
 cases op
 case call c=>
  obtain ⟨ce,args,ts⟩:=c;cases ce with
  | builtin b=>cases b<;>first | (simp [Zc0] at h;done)| rfl
  | _=>rfl
 case slice t x lo hi mx=>cases lo<;>cases hi<;>cases mx<;>first | (simp [Zc0] at h;done)| rfl| (rename_i y _;cases y<;>rfl)
 all_goals first | (simp [Zc0] at h;done)| rfl
theorem Zl4 {o:Oper} (hm:Zc0 o.op=false) (hx:∀x∈o.op.operands.toList,opd σ' x=opd σ x) (hb:σ'.bx=σ.bx) (ha:σ'.ar=σ.ar) (hn:σ'.nt=σ.nt):Jo P σ' o=Jo P σ o:=by
 unfold Jo;rw [Zl3 hx hb ha,ZcY hm,ZcY hm,hn]
theorem Zl5 (ha:σ'.ar=σ.ar) (c:CV):frC σ' c=frC σ c:=by unfold frC;rw [ha]
theorem Zgh (ha:σ'.ar=σ.ar):∀cs:List CV,frL σ' cs=frL σ cs
 | []=>rfl
 | c::cs=>by simp only [frL,Zl5 ha,Zgh ha cs]
theorem ZpX (ha:σ'.ar=σ.ar) (v:V):frV σ' v=frV σ v:=by cases v<;>simp only [frV,Zl5 ha,Zgh ha]
theorem Zci (ha:σ'.ar=σ.ar):∀vs:List V,ZdX σ' vs=ZdX σ vs
 | []=>rfl
 | v::vs=>by simp only [ZdX,ZpX ha,Zci ha vs]
theorem Zl2 {d:Option Nat} {f:Nat} {vs:List V} {g:Eff} (hb:σ'.bx=σ.bx) (ha:σ'.ar=σ.ar) (hn:σ'.nt=σ.nt) (h:ZcH P σ d f vs g):ZcH P σ' d f vs g:=by
 cases h with
 | ptr j d1 k ls d2 τs p fr rs ls' g h1 h2 h3 h4=>
  refine .ptr j d1 k ls d2 τs p fr rs ls' g ?_ h2 h3 ?_
  ·rw [<-h1];unfold ZgK;simp only [Zci ha,Zgh ha,hb]
  ·rw [<-h4];unfold Vt;rw [hn,ha]
 | ptrS j d1 k ls d2 τs p fr rs ls' g cells h1 h2 h3 h4 h5=>
  refine .ptrS j d1 k ls d2 τs p fr rs ls' g cells ?_ h2 h3 ?_ (hb▸h5)
  ·rw [<-h1];unfold ZgK;simp only [Zci ha,Zgh ha,hb]
  ·rw [<-h4];unfold Vt;rw [hn,ha]
 | box ds τs p cs d h1 h2 h3 h4 h5 h6=>exact .box ds τs p cs d ((Zci ha vs).trans h1) h2 h3 h4 (hn▸h5) (hb▸h6)
 | froz ds τs p rs d h1 h2 h3 h4 h5=>exact .froz ds τs p rs d ((Zci ha vs).trans h1) h2 h3 h4 (hn▸h5)
 | hand g h1=>exact .hand g (h1.le ⟨hn,fun k cs h=>by rw [hb];exact h,fun τ A h=>by rw [ha];exact h,fun _ _ h=>by rw [hb];exact h,fun _ _ h=>by rw [ha];exact h⟩)
theorem Zhg {d:Option Nat} {k:Nat} {τs:List Nat} {fr:Bool} {rs:List DV} {ls:List L} {g:Eff} (h4:Vt σ d k τs fr rs ls=some g):∀k∈ZG g.tm,d=some k:=by
 unfold Vt at h4
 split at h4
 ·obtain rfl:=Zwf h4;intro k hk;simp [ZG] at hk
 ·split at h4
  ·split at h4
   ·split at h4
    ·obtain rfl:=Zwf h4;intro k hk;simp [ZG] at hk;rw [hk]
    ·cases h4
   ·obtain rfl:=Zwf h4;intro k hk;simp [ZG] at hk;rw [hk]
  ·cases h4
theorem Zna {d:Option Nat} {f:Nat} {vs:List V} {g:Eff} (h:ZcH P σ d f vs g):∀k∈ZG g.tm,d=some k:=by
 cases h with
 | ptr j d1 k ls d2 τs p fr rs ls' g h1 h2 h3 h4=>exact Zhg h4
 | ptrS j d1 k ls d2 τs p fr rs ls' g cells h1 h2 h3 h4 h5=>exact Zhg (g:=g) h4
 | box ds τs p cs d h1 h2 h3 h4 h5 h6=>intro k hk;simp [ZG] at hk;rw [hk];exact h4
 | froz ds τs p rs d h1 h2 h3 h4 h5=>intro k hk;simp [ZG] at hk;rw [hk];exact h4
 | hand g h1=>intro k hk;obtain ⟨p,hp,rfl⟩:=List.mem_map.1 hk;exact h1.2.1 p hp
theorem ZoG {o:Oper} {g:Eff} (hm:Zc0 o.op=false) (hx:∀x∈o.op.operands.toList,opd σ' x=opd σ x) (hb:σ'.bx=σ.bx) (ha:σ'.ar=σ.ar) (hn:σ'.nt=σ.nt) (h0:g.ar=[]) (hv:Ev P σ o g):Ev P σ' o g:=by
 cases hv with
 | step g h hs=>exact .step g ((Zl4 hm hx hb ha hn).trans h) hs
 | call f xs vs ds pu p fr dp rs g h1 h2 h3 h4 h5 h6 h7=>
  refine .call f xs vs ds pu p fr dp rs g h1 ?_ ((Zhl ha vs).trans h3) h4 h5 h6 ((ZiE hn ha _ _ _ _).trans h7);rw [<-h2];refine ZdS fun x hx'=>hx x ?_;unfold Xv at h1
  split at h1
  ·rename_i f' xs' ts ho;obtain ⟨rfl,rfl⟩:=Prod.mk.inj (Zwf h1);rw [ho];simp [Op.operands,Call.operands];exact .inr (by simpa using hx')
  ·cases h1
 | xcall f xs vs g h1 h2 h3=>
  refine .xcall f xs vs g h1 ?_ (Zl2 hb ha hn h3);rw [<-h2];refine ZdS fun x hx'=>hx x ?_;unfold Xv at h1
  split at h1
  ·rename_i f' xs' ts ho;obtain ⟨rfl,rfl⟩:=Prod.mk.inj (Zwf h1);rw [ho];simp [Op.operands,Call.operands];exact .inr (by simpa using hx')
  ·cases h1
 | hand g h1=>rcases h1.1 with k| k;rw [hm] at k;cases k;exact absurd h0 k
theorem Zsa {o:Oper} {g:Eff} (hm:Zc0 o.op=false) (hv:Ev P σ o g):∀k∈ZG g.tm,o.dst=some k:=by
 cases hv with
 | step g h hs=>
  unfold Jo at h;rw [ZcY hm] at h
  split at h
  ·split at h
   ·rename_i d hd
    split at h
    ·obtain rfl:=Zwf h;intro k hk;simp [ZG] at hk;rw [hk];exact hd
    ·cases h
   ·obtain rfl:=Zwf h;intro k hk;simp [ZG] at hk
  ·cases h
 | call f xs vs ds pu p fr dp rs g h1 h2 h3 h4 h5 h6 h7=>
  unfold QT at h7
  split at h7
  ·obtain rfl:=Zwf h7;intro k hk;simp [ZG] at hk
  ·rename_i d hd
   split at h7
   ·split at h7
    ·split at h7
     ·obtain rfl:=Zwf h7;intro k hk;simp [ZG] at hk;rw [hk];exact hd
     ·cases h7
    ·obtain rfl:=Zwf h7;intro k hk;simp [ZG] at hk;rw [hk];exact hd
   ·cases h7
 | xcall f xs vs g h1 h2 h3=>exact Zna h3
 | hand g h1=>intro k hk;obtain ⟨p,hp,rfl⟩:=List.mem_map.1 hk;exact h1.2.1 p hp
theorem Zsb {ops:Array Oper} {o:Oper} {g:Eff} (hm:Zc0 o.op=false) (hv:EvG P ops σ o g):∀k∈ZG g.tm,o.dst=some k:=by
 cases hv with
 | plain g hg h=>exact Zsa hm h
 | yes g j want hg hy h=>exact Zsa hm h
 | no j want hg hy=>
  intro k hk;cases hd:o.dst with
  | none=>rw [hd] at hk;simp [ZG] at hk
  | some d=>rw [hd] at hk;simp [ZG] at hk;rw [hk]
theorem ZpY {l:List Oper} {o:Oper} {g:Eff} (hm:Zc0 o.op=false) (hx:∀t∈Zjd l o,σ'.tm.lookup t=σ.tm.lookup t) (hb:σ'.bx=σ.bx) (ha:σ'.ar=σ.ar) (hn:σ'.nt=σ.nt) (h0:g.ar=[]) (hv:EvG P l.toArray σ o g):EvG P l.toArray σ' o g:=by
 have h1:∀x∈o.op.operands.toList,opd σ' x=opd σ x:=fun x hx'=>ZpV fun t ht=>hx t (by
  subst ht;exact List.mem_append_left _ (JB hx'))
 have h2:∀j want,o.guard=some (j,want)->yld σ' l.toArray j want=yld σ l.toArray j want:=fun j want hg=>ZpU fun d hd=>hx d (by
  refine List.mem_append_right _ ?_;rw [hg];simp only [List.getElem?_toArray] at hd;simp only [hd];simp)
 cases hv with
 | plain g hg h=>exact .plain g hg (ZoG hm h1 hb ha hn h0 h)
 | yes g j want hg hy h=>exact .yes g j want hg ((h2 j want hg).trans hy) (ZoG hm h1 hb ha hn h0 h)
 | no j want hg hy=>exact .no j want hg ((h2 j want hg).trans hy)
def Vb (σ:St):List Eff->St
 | []=>σ
 | g::gs=>Vb (σ.app g) gs
theorem Zc9 {ops:Array Oper}:∀{l:List Oper} {σ:St} {K:St->Prop},Z5 P ops l σ K->
  ∃gs:List Eff,gs.length=l.length/\K (Vb σ gs)/\∀i o g,l[i]? =some o->gs[i]? =some g->EvG P ops (Vb σ (gs.take i)) o g
 | [],σ,K,h=>⟨[],rfl,by simpa [ZaV,Vb] using h,by simp⟩
 | ⟨d,op,ty,pos,af,gd⟩::rest,σ,K,h=>by
  have step:∀g,EvG P ops σ ⟨d,op,ty,pos,af,gd⟩ g->Z5 P ops rest (σ.app g) K->
    ∃gs:List Eff,gs.length=rest.length+1/\K (Vb σ gs)/\∀i o g,(⟨d,op,ty,pos,af,gd⟩::rest)[i]? =some o->gs[i]? =some g->EvG P ops (Vb σ (gs.take i)) o g:=by
   intro g hg hr;obtain ⟨gs,k1,k2,k3⟩:=Zc9 hr;refine ⟨g::gs,by simp [k1],k2,fun i o g' ho hg'=> ?_⟩;cases i with
   | zero=>simp at ho hg';subst ho hg';exact hg
   | succ i=>simp at ho hg';exact k3 i o g' ho hg'
  have run:Zi7 P ops ⟨d,op,ty,pos,af,gd⟩ rest σ K (Xv op)->∃g,Ev P σ ⟨d,op,ty,pos,af,gd⟩ g/\Z5 P ops rest (σ.app g) K:=by
   intro hr;unfold Zi7 at hr
   split at hr
   ·rename_i f xs hc;unfold ZgE at hr
    split at hr
    ·rename_i ds pu p hd;obtain ⟨hp,⟨fr,dp,rs,h5,h6,h7⟩| ⟨vs,g,hvs,hx,hg⟩⟩:=hr
     ·unfold ZgD at h7
      split at h7
      ·rename_i g hg;obtain ⟨vs,hvs,hd⟩:=Option.bind_eq_some_iff.1 hd;exact ⟨g,.call f xs vs ds pu p fr dp rs g hc hvs hd hp h5 h6 hg,h7.2⟩
      ·exact h7.elim
     ·exact ⟨g,.xcall f xs vs g hc hvs hx,hg⟩
    ·obtain ⟨vs,g,hvs,hx,hg⟩:=hr;exact ⟨g,.xcall f xs vs g hc hvs hx,hg⟩
   ·unfold Ze2 at hr
    split at hr
    ·rename_i g hg;exact ⟨g,.step g hg hr.1,hr.2⟩
    ·obtain ⟨g,hg,hr⟩:=hr;exact ⟨g,.hand g hg,hr⟩
  cases gd with
  | none=>
   rw [Jl] at h;obtain ⟨g,h1,h2⟩:=run h;exact step g (.plain g rfl h1) h2
  | some p=>
   obtain ⟨j,want⟩:=p;rw [Jm] at h;unfold Vr at h
   split at h
   ·rename_i b hy
    by_cases hb:b=want
    ·obtain ⟨g,h1,h2⟩:=run (h.1 hb);exact step g (.yes g j want rfl (by rw [hy,hb]) h1) h2
    ·have hb':(!b)=want:=by cases b<;>cases want<;>simp_all
     have h2:=h.2 hb';rw [Zp5] at h2;exact step _ (.no j want rfl (by rw [hy];cases b<;>cases want<;>simp_all)) h2
   ·exact h.elim
theorem ZeY:∀(gs:List Eff) (σ:St) (g:Eff),Vb σ (gs++[g])=(Vb σ gs).app g
 | [],_,_=>rfl
 | x::gs,σ,g=>ZeY gs (σ.app x) g
theorem Kz:∀(gs hs:List Eff) (σ:St),Vb σ (gs++hs)=Vb (Vb σ gs) hs
 | [],_,_=>rfl
 | x::gs,hs,σ=>Kz gs hs (σ.app x)
theorem ZhP:∀(gs:List Eff) (σ:St),(Vb σ gs).bx.length=(gs.map (·.bx.length)).sum+σ.bx.length
 | [],_=>by simp [Vb]
 | x::gs,σ=>by simp only [Vb,ZhP gs,St.app,List.length_append,List.map_cons,List.sum_cons];omega
theorem ZhQ:∀(gs:List Eff) (σ:St),(Vb σ gs).ar.length=(gs.map (·.ar.length)).sum+σ.ar.length
 | [],_=>by simp [Vb]
 | x::gs,σ=>by simp only [Vb,ZhQ gs,St.app,List.length_append,List.map_cons,List.sum_cons];omega
theorem ZfS:∀{l:List Nat},l.sum=0->∀x∈l,x=0
 | [],_,_,h=>by simp at h
 | y::l,hs,x,h=>by
  simp only [List.sum_cons] at hs;rcases List.mem_cons.1 h with rfl| h
  ·omega
  ·exact ZfS (by omega) x h
def Zfv (σ0:St):List Oper->Prop
 | []=>True
 | o::r=>(match o.dst with | some d=>σ0.tm.lookup d=none| none=>True)/\Zfv σ0 r
theorem Zhu {σ0:St}:∀{l:List Oper},Zfv σ0 l->∀o∈l,∀d,o.dst=some d->σ0.tm.lookup d=none
 | [],_,_,h,_,_=>by simp at h
 | x::l,hf,o,h,d,hd=>by
  simp only [Zfv] at hf;rcases List.mem_cons.1 h with rfl| h
  ·have:=hf.1;rw [hd] at this;exact this
  ·exact Zhu hf.2 o h d hd
structure Zu1 (l:List Oper) (A:List (List Nat)) (n:Nat):Prop where
 le:n<=l.length
 mem:∀i o,i<n->l[i]? =some o->Zc0 o.op=false/\o.dst.isSome=true
 dst:∀i j o q,i<n->j<n->i≠j->l[i]? =some o->l[j]? =some q->q.dst≠o.dst
 use:∀i j o q t,i<n->j<n->i≠j->l[i]? =some o->l[j]? =some q->q.dst=some t->t∈Zjd l o->j∈A.getD i []
 all:∀i k,n<=i->i<l.length->k<i->k∈A.getD i []
theorem ZkA {l:List Oper} {A:List (List Nat)} {n:Nat} (hl:A.length=l.length) (h:ZnM l A n=true):Zu1 l A n:=by
 unfold ZnM at h;simp only [Zwj,decide_eq_true_eq] at h;obtain ⟨⟨h1,h2⟩,h3⟩:=h
 have hA:∀i,i<l.length->A[i]? =some (A.getD i []):=by
  intro i hi;have h1:i<A.length:=by omega
  rw [List.getD_eq_getElem?_getD,Zwm h1];rfl
 have zipAt:∀i o,i<n->l[i]? =some o->((o,A.getD i []),i)∈((l.take n).zip A).zipIdx:=by
  intro i o hi ho;have hil:=(List.getElem?_eq_some_iff.1 ho).1;refine List.mem_zipIdx_iff_getElem?.2 ?_;simp only;rw [List.getElem?_zip_eq_some];exact ⟨by rw [List.getElem?_take];simp [hi,ho],hA i hil⟩
 have zipAt':∀i o,i<l.length->l[i]? =some o->((o,A.getD i []),i)∈(l.zip A).zipIdx:=by
  intro i o hi ho;refine List.mem_zipIdx_iff_getElem?.2 ?_;simp only;rw [List.getElem?_zip_eq_some];exact ⟨ho,hA i hi⟩
 have idxAt:∀j q,j<n->l[j]? =some q->(q,j)∈(l.take n).zipIdx:=by
  intro j q hj hq;refine List.mem_zipIdx_iff_getElem?.2 ?_;simp only;rw [List.getElem?_take];simp [hj,hq]
 have key:∀i o,i<n->l[i]? =some o->(Zc0 o.op=false/\o.dst.isSome=true)/\∀j q,j<n->i≠j->l[j]? =some q->q.dst≠o.dst/\(j∈A.getD i []\/∀t∈Zjd l o,q.dst≠some t):=by
  intro i o hi ho;have:=List.all_eq_true.1 h1 _ (zipAt i o hi ho);simp only [Zwj,Bool.not_eq_true'] at this;refine ⟨⟨this.1.1,this.1.2⟩,fun j q hj hne hq=> ?_⟩;have h4:=List.all_eq_true.1 this.2 _ (idxAt j q hj hq);simp only [Bool.or_eq_true,Zwj,beq_iff_eq,bne_iff_ne,List.contains_iff_mem,List.all_eq_true] at h4;rcases h4 with h4| h4
  ·exact absurd h4.symm hne
  ·exact h4
 refine ⟨h3,fun i o hi ho=>(key i o hi ho).1,fun i j o q hi hj hne ho hq=>((key i o hi ho).2 j q hj hne hq).1,fun i j o q t hi hj hne ho hq ht hu=> ?_,fun i k hi hil hk=> ?_⟩
 ·rcases ((key i o hi ho).2 j q hj hne hq).2 with h| h
  ·exact h
  ·exact absurd ht (h t hu)
 ·have:=List.all_eq_true.1 h2 _ (zipAt' i l[i] hil (Zwm hil));simp only [Bool.or_eq_true,decide_eq_true_eq,List.all_eq_true,List.contains_iff_mem] at this;rcases this with h| h
  ·omega
  ·exact h k (List.mem_range.2 hk)
theorem Zup {l:List Oper} {A:List (List Nat)} (hd:Zbf l A=true) (hlen:l.length=A.length):∀{i:Nat},i<l.length->∀{k:Nat},k∈A.getD i []->k<1000000->k<i:=by
 obtain ⟨_,hdep⟩:=Kv hd;intro i
 induction i using Nat.strongRecOn with
 | _ i ih=>
  intro hi k hk hkl;have h1:i<A.length:=by omega
  have h2:A[i]? =some (A.getD i []):=by rw [List.getD_eq_getElem?_getD,Zwm h1];rfl
  obtain ⟨e,he,hb,hor⟩:=(hdep i l[i] _ (Zwm hi) h2).2 k hk hkl;have he2:=((hdep i l[i] _ (Zwm hi) h2).1 e he hb).2;rcases hor with rfl| hor
  ·exact he2
  ·have:=ih e.on he2 (by omega) hor hkl;omega
theorem Zon {Q:Exit->St->Prop} {σ0:St} {id:Nat} {l:List Oper} (A:List (List Nat)) (n:Nat) (hm:P.follows .mixedOrders=true) (hd:Zbf l A=true) (hl:ZnM l A n=true)
  (h:Z5 P l.toArray (l.take n) σ0 (fun σ1=>σ1.bx.length=σ0.bx.length/\σ1.ar.length=σ0.ar.length/\Zfv σ0 (l.take n)/\Z5 P l.toArray (l.drop n) σ1 (fun σ'=>Q .normal σ'))) (hnd:A.all (fun d=>d.all fun k=>decide (k<1000000))=true):AW P N w0 (.region id l.toArray true) Q σ0:=by
 obtain ⟨hlen,_⟩:=Kv hd;have hmax:=Zhz hd
 have hnk:∀i k,(A.getD i []).contains (1000000+k)=false:=fun i k=>by
  cases hc:(A.getD i []).contains (1000000+k) with
  | false=>rfl
  | true=>
   by_cases hi:i<A.length
   ·have h1:=List.all_eq_true.1 hnd A[i] (List.getElem_mem hi);have h2:A.getD i []=A[i]:=by rw [List.getD_eq_getElem?_getD,Zwm hi];rfl
    rw [h2] at hc;have:=List.all_eq_true.1 h1 (1000000+k) (by simpa using hc);simp only [decide_eq_true_eq] at this;omega
   ·rw [List.getD_eq_getElem?_getD,List.getElem?_eq_none (by omega)] at hc;simp at hc
 have hfl:∀i (m:List (Nat×List CV)),m.filter (fun p=>!(A.getD i []).contains (1000000+p.1))=m:=fun i m=>List.filter_eq_self.2 fun p _=>by rw [hnk];rfl
 have hnk2:∀i k,(A.getD i []).contains (10000000+k)=false:=fun i k=>by rw [show 10000000+k=1000000+(9000000+k) by omega];exact hnk i _
 have hfl2:∀i (m:List (Nat×Option Arr)),m.filter (fun p=>!(A.getD i []).contains (10000000+p.1))=m:=fun i m=>List.filter_eq_self.2 fun p _=>by rw [hnk2];rfl
 have L:=ZkA hlen.symm hl;obtain ⟨gs1,a1,⟨a2,a3,a4,a5⟩,a6⟩:=Zc9 h;obtain ⟨gs2,b1,b2,b3⟩:=Zc9 a5;have hn:gs1.length=n:=by rw [a1,List.length_take,Nat.min_eq_left L.le]
 have hb0:∀g∈gs1,g.bx=[]:=by
  intro g hg;rw [ZhP] at a2;have:=ZfS (show (gs1.map (·.bx.length)).sum=0 by omega) g.bx.length (List.mem_map.2 ⟨g,hg,rfl⟩);exact List.eq_nil_of_length_eq_zero this
 have ha0:∀g∈gs1,g.ar=[]:=by
  intro g hg;rw [ZhQ] at a3;have:=ZfS (show (gs1.map (·.ar.length)).sum=0 by omega) g.ar.length (List.mem_map.2 ⟨g,hg,rfl⟩);exact List.eq_nil_of_length_eq_zero this
 obtain ⟨gs,hgs⟩:∃gs,gs=gs1++gs2:=⟨_,rfl⟩;have hgl:gs.length=l.length:=by rw [hgs,List.length_append,b1,hn,List.length_drop];have:=L.le;omega
 have hgK:Q .normal (Vb σ0 gs):=by rw [hgs,Kz];exact b2
 have hev:∀i o g,l[i]? =some o->gs[i]? =some g->EvG P l.toArray (Vb σ0 (gs.take i)) o g:=by
  intro i o g ho hg
  by_cases hi:i<n
  ·rw [hgs,List.getElem?_append_left (by omega)] at hg;rw [hgs,List.take_append_of_le_length (by omega)];exact a6 i o g (by rw [List.getElem?_take,if_pos hi];exact ho) hg
  ·rw [hgs,List.getElem?_append_right (by omega)] at hg;have:=b3 (i-gs1.length) o g (by rw [List.getElem?_drop,show n+(i-gs1.length)=i by omega];exact ho) hg;rw [hgs,List.take_append,List.take_of_length_le (show gs1.length<=i by omega),Kz];exact this
 have hq:∀i g,i<n->gs[i]? =some g->g∈gs1:=by
  intro i g hi hg;rw [hgs,List.getElem?_append_left (by omega)] at hg;exact List.mem_of_getElem? hg
 have htm:∀i o g,i<n->l[i]? =some o->gs[i]? =some g->∀k∈ZG g.tm,o.dst=some k:=fun i o g hi ho hg=>Zsb (L.mem i o hi ho).1 (hev i o g ho hg);have hAl:∀i,A.drop i=[]↔l.drop i=[]:=by intro i;rw [List.drop_eq_nil_iff,List.drop_eq_nil_iff,hlen]
 refine Zm3 A hm hd ?_
 have main:∀(m i:Nat) (es:List (Nat×Eff)),i+m=l.length->ZaD σ0 es=Vb σ0 (gs.take i)->(∀p∈es,p.1<i/\gs[p.1]? =some p.2)->Zk2 P l.toArray σ0 (fun σ'=>Q .normal σ') A (A.drop i) (l.drop i) i es:=by
  intro m
  induction m with
  | zero=>
   intro i es hi hes hp;rw [List.drop_of_length_le (show l.length<=i by omega)];refine Zj6 _ i es ?_ ?_
   ·
    unfold dOk;refine List.all_eq_true.2 fun p hp1=> ?_;rw [Zwj,Zwj];refine ⟨⟨List.all_eq_true.2 fun r _=>by rw [hnk];rfl,List.all_eq_true.2 fun r _=>by rw [hnk2];rfl⟩,List.all_eq_true.2 fun q hq1=> ?_⟩;obtain ⟨p1,p2⟩:=hp p hp1;obtain ⟨q1,q2⟩:=hp q hq1;have pl:p.1<l.length:=by omega
    have ql:q.1<l.length:=by omega
    simp only [Bool.or_eq_true,beq_iff_eq,List.contains_iff_mem,Zwj,Bool.not_eq_true']
    by_cases hpq:p.1=q.1
    ·exact .inl (.inl (.inl hpq))
    by_cases hpn:n<=p.1
    ·by_cases hqp:q.1<p.1
     ·exact .inl (.inl (.inr (L.all p.1 q.1 hpn pl hqp)))
     ·exact .inl (.inr (L.all q.1 p.1 (by omega) ql (by omega)))
    by_cases hqn:n<=q.1
    ·exact .inl (.inr (L.all q.1 p.1 hqn ql (by omega)))
    by_cases hqA:q.1∈A.getD p.1 []
    ·exact .inl (.inl (.inr hqA))
    right
    have gp:=hq p.1 p.2 (by omega) p2;have gq:=hq q.1 q.2 (by omega) q2;have kp:=htm p.1 l[p.1] p.2 (by omega) (Zwm pl) p2;have kq:=htm q.1 l[q.1] q.2 (by omega) (Zwm ql) q2;have hne:=L.dst p.1 q.1 _ _ (by omega) (by omega) hpq (Zwm pl) (Zwm ql);refine ⟨?_, ?_⟩
    ·unfold apart;rw [hb0 _ gq,ha0 _ gq];simp only [List.all_nil,Bool.and_true,List.all_eq_true,Bool.not_eq_true'];intro r hr;cases hc:(ZG p.2.tm).contains r.1 with
     | false=>rfl
     | true=>
      have e1:=kp r.1 (by simpa using hc);have e2:=kq r.1 (List.mem_map.2 ⟨r,hr,rfl⟩);exact absurd (e2.trans e1.symm) hne
    ·unfold ZfO;rw [hb0 _ gq,ha0 _ gq];simp only [List.any_nil,Bool.or_false];rw [List.any_eq_false];intro r hr;have e2:=kq r.1 (List.mem_map.2 ⟨r,hr,rfl⟩);have hfr:=Zhu a4 l[q.1] (List.mem_of_getElem? (i:=q.1) (by rw [List.getElem?_take,if_pos (by omega)];exact Zwm ql)) r.1 e2
     have:(view σ0 es (A.getD p.1 [])).tm.lookup r.1=none:=by
      show (ZaD σ0 (es.filter fun z=>(A.getD p.1 []).contains z.1)).tm.lookup r.1=none;rw [Zdb,lookup_append,hfr,Option.or_none];refine VV fun hk=> ?_;obtain ⟨x,hx,hx1⟩:=List.mem_map.1 hk;obtain ⟨z,hz,hz1⟩:=List.mem_flatMap.1 hx;obtain ⟨hz2,hz3⟩:=List.mem_filter.1 hz;obtain ⟨z1,z2⟩:=hp z hz2;have hzA:z.1∈A.getD p.1 []:=by simpa using hz3
      have hzp:z.1<p.1:=Zup hd hlen pl hzA (by omega);have kz:=htm z.1 l[z.1] z.2 (by omega) (Zwm (by omega)) z2 r.1 (List.mem_map.2 ⟨x,hz1,hx1⟩);have hzq:z.1≠q.1:=fun e=>hqA (e▸hzA);exact absurd (e2.trans kz.symm) (L.dst z.1 q.1 _ _ (by omega) (by omega) hzq (Zwm (by omega)) (Zwm ql))
     rw [this];simp
   ·rw [hes,show i=gs.length by omega,List.take_length];exact hgK
  | succ m ih=>
   intro i es hi hes hp;have hil:i<l.length:=by omega
   have hiA:i<A.length:=by omega
   have hig:i<gs.length:=by omega
   rw [List.drop_eq_getElem_cons hil,List.drop_eq_getElem_cons hiA];have hg:=hev i l[i] gs[i] (Zwm hil) (Zwm hig);have hAi:A.getD i []=A[i]:=by rw [List.getD_eq_getElem?_getD,Zwm hiA];rfl
   refine ⟨gs[i], ?_,ih (i+1) ((i,gs[i])::es) (by omega) ?_ ?_⟩
   ·rw [<-hes] at hg
    by_cases hin:n<=i
    ·have:view σ0 es A[i]=ZaD σ0 es:=by
      have hf:es.filter (fun p=>A[i].contains p.1)=es:=by
       rw [List.filter_eq_self];intro p hp1;have:=L.all i p.1 hin hil (hp p hp1).1;rw [hAi] at this
       simpa using this
      have h2:=hfl i;have h3:=hfl2 i;rw [hAi] at h2 h3;unfold view;rw [hf,h2,h3]
     rw [this];exact hg
    ·have hnil:∀p∈es,p.2.bx=[]/\p.2.ar=[]:=fun p hp1=>by
      have:=hq p.1 p.2 (by have:=(hp p hp1).1;omega) (hp p hp1).2;exact ⟨hb0 _ this,ha0 _ this⟩
     have fm:∀{α:Type} (f:Nat×Eff->List α) (L:List (Nat×Eff)),(∀p∈L,f p=[])->L.flatMap f=[]:=fun f L hL=>List.flatMap_eq_nil_iff.2 hL;refine ZpY (L.mem i l[i] (by omega) (Zwm hil)).1 (fun t ht=> ?_) ?_ ?_ ?_ (ha0 _ (hq i gs[i] (by omega) (Zwm hig))) hg
     ·show (ZaD σ0 (es.filter fun p=>A[i].contains p.1)).tm.lookup t=_;rw [Zdb,Zdb];refine (Zes (fun p=>p.2.tm) σ0.tm (fun p=>A[i].contains p.1) t fun p hp1 hs=> ?_).symm;intro hk;obtain ⟨p1,p2⟩:=hp p hp1;have kp:=htm p.1 l[p.1] p.2 (by omega) (Zwm (by omega)) p2 t hk;have:=L.use i p.1 l[i] l[p.1] t (by omega) (by omega) (by omega) (Zwm hil) (Zwm (by omega)) kp ht;rw [hAi] at this;have h':A[i].contains p.1=true:=by simpa using this
      rw [h'] at hs;cases hs
     ·have h2:=hfl i;rw [hAi] at h2;unfold view;rw [h2,ZeW,ZeW,fm _ _ (fun p hp1=>(hnil p ((List.mem_filter.1 hp1).1)).1),fm _ es fun p hp1=>(hnil p hp1).1]
     ·have h3:=hfl2 i;rw [hAi] at h3;unfold view;rw [h3,ZeX,ZeX,fm _ _ (fun p hp1=>(hnil p ((List.mem_filter.1 hp1).1)).2),fm _ es fun p hp1=>(hnil p hp1).2]
     ·show (ZaD σ0 (es.filter fun p=>A[i].contains p.1)).nt=_;rw [ZeV,ZeV]
   ·show (ZaD σ0 es).app gs[i]=_;rw [hes,List.take_add_one,Zwm hig,Option.toList_some,ZeY]
   ·intro p hp1;rcases List.mem_cons.1 hp1 with rfl| hp1
    ·exact ⟨by simp,Zwm hig⟩
    ·obtain ⟨p1,p2⟩:=hp p hp1;exact ⟨by omega,p2⟩
 simpa using main l.length 0 [] (by omega) rfl (by simp)
end
def K3:Type:=List Nat×List Nat×List Nat
def kE (g:Eff):K3:=(ZG g.tm,ZG g.bx,ZG g.ar)
def kS (σ:St):K3:=(ZG σ.tm,ZG σ.bx,ZG σ.ar)
def hit (a b:List Nat):Bool:=a.any fun x=>b.contains x
def Zp6 (a b:K3):Bool:=hit a.1 b.1||hit a.2.1 b.2.1||hit a.2.2 b.2.2
def Zsi (d:List Nat) (s:K3):K3:=(s.1,s.2.1.filter (fun k=>!d.contains (1000000+k)),s.2.2.filter (fun k=>!d.contains (10000000+k)))
def Zvi (s:K3) (A:List (List Nat)) (es:List (Nat×K3)):Bool:=
 es.all fun p=>(p.2.2.1.all fun k=>!(A.getD p.1 []).contains (1000000+k))&&(p.2.2.2.all fun k=>!(A.getD p.1 []).contains (10000000+k))&&es.all fun q=>p.1==q.1||(A.getD p.1 []).contains q.1||(A.getD q.1 []).contains p.1||(!Zp6 q.2 p.2&&!Zp6 q.2 (Zsi (A.getD p.1 []) s)&&es.all fun r=>!(A.getD p.1 []).contains r.1||!Zp6 q.2 (Zsi (A.getD p.1 []) r.2))
theorem Zmo {a b:List Nat}:hit a b=false↔∀x∈a,x∉b:=by
 unfold hit;rw [List.any_eq_false];simp [List.contains_eq_mem]
theorem Zcg {α:Type}:∀{l:List (Nat×α)} {k:Nat},k∉ZG l->l.lookup k=none
 | [],_,_=>rfl
 | (j,x)::l,k,h=>by
  simp only [ZG,List.map_cons,List.mem_cons,not_or] at h;rw [lookup_cons,if_neg h.1];exact Zcg (by simpa [ZG] using h.2)
theorem ZiJ {α:Type} (a b:List (Nat×α)):ZG (a++b)=ZG a++ZG b:=by simp [ZG]
theorem ZhO (σ0:St):∀(es:List (Nat×Eff)),(∀k,k∈ZG (ZaD σ0 es).tm->k∈ZG σ0.tm\/∃r∈es,k∈ZG r.2.tm)/\(∀k,k∈ZG (ZaD σ0 es).bx->k∈ZG σ0.bx\/∃r∈es,k∈ZG r.2.bx)/\(∀k,k∈ZG (ZaD σ0 es).ar->k∈ZG σ0.ar\/∃r∈es,k∈ZG r.2.ar)
 | []=>⟨fun _ h=>.inl h,fun _ h=>.inl h,fun _ h=>.inl h⟩
 | g::es=>by
  obtain ⟨h1,h2,h3⟩:=ZhO σ0 es;refine ⟨fun k h=> ?_,fun k h=> ?_,fun k h=> ?_⟩
  all_goals
   simp only [ZaD,St.app,ZiJ,List.mem_append] at h;rcases h with h| h
   ·exact .inr ⟨g,List.mem_cons_self ..,h⟩
  ·rcases h1 k h with h| ⟨r,hr,h⟩;exact .inl h;exact .inr ⟨r,List.mem_cons_of_mem _ hr,h⟩
  ·rcases h2 k h with h| ⟨r,hr,h⟩;exact .inl h;exact .inr ⟨r,List.mem_cons_of_mem _ hr,h⟩
  ·rcases h3 k h with h| ⟨r,hr,h⟩;exact .inl h;exact .inr ⟨r,List.mem_cons_of_mem _ hr,h⟩
theorem Zq {σ0:St} {A:List (List Nat)} {es:List (Nat×Eff)} (h:Zvi (kS σ0) A (es.map fun p=>(p.1,kE p.2))=true):dOk σ0 A es=true:=by
 unfold Zvi at h;unfold dOk;rw [List.all_eq_true] at h ⊢;intro p hp;have h:=h _ (List.mem_map.2 ⟨p,hp,rfl⟩);rw [Zwj,Zwj] at h ⊢;refine ⟨⟨List.all_eq_true.2 fun r hr=>List.all_eq_true.1 h.1.1 r.1 (List.mem_map.2 ⟨r,hr,rfl⟩),List.all_eq_true.2 fun r hr=>List.all_eq_true.1 h.1.2 r.1 (List.mem_map.2 ⟨r,hr,rfl⟩)⟩, ?_⟩;have h:=h.2;rw [List.all_eq_true] at h ⊢;intro q hq;have h:=h _ (List.mem_map.2 ⟨q,hq,rfl⟩);simp only [Bool.or_eq_true,Zwj,Bool.not_eq_true',List.all_eq_true] at h ⊢;rcases h with h| ⟨⟨h1,h2⟩,h3⟩
 ·exact .inl h
 ·refine .inr ⟨?_, ?_⟩
  ·unfold Zp6 kE at h1;simp only [Bool.or_eq_false_iff,Zmo] at h1;unfold apart;simp only [Zwj,List.all_eq_true,Bool.not_eq_true',List.contains_eq_mem,decide_eq_false_iff_not];exact ⟨⟨fun x hx=>h1.1.1 x.1 (List.mem_map.2 ⟨x,hx,rfl⟩),fun x hx=>h1.1.2 x.1 (List.mem_map.2 ⟨x,hx,rfl⟩)⟩,fun x hx=>h1.2 x.1 (List.mem_map.2 ⟨x,hx,rfl⟩)⟩
  ·unfold Zp6 kE kS Zsi at h2;simp only [Bool.or_eq_false_iff,Zmo] at h2
   have h4:∀r∈es,(A.getD p.1 []).contains r.1=true->Zp6 (kE q.2) (Zsi (A.getD p.1 []) (kE r.2))=false:=fun r hr hc=>by
    have:=h3 _ (List.mem_map.2 ⟨r,hr,rfl⟩);rcases this with this| this
    ·rw [hc] at this;cases this
    ·exact this
   obtain ⟨k1,k2,k3⟩:=ZhO σ0 (es.filter fun r=>(A.getD p.1 []).contains r.1)
   have h5:∀r∈es.filter (fun r=>(A.getD p.1 []).contains r.1),(∀x∈ZG q.2.tm,x∉ZG r.2.tm)/\(∀x∈ZG q.2.bx,x∉(ZG r.2.bx).filter (fun k=>!(A.getD p.1 []).contains (1000000+k)))/\∀x∈ZG q.2.ar,x∉(ZG r.2.ar).filter (fun k=>!(A.getD p.1 []).contains (10000000+k)):=fun r hr=>by
    have:=h4 r (List.mem_filter.1 hr).1 (List.mem_filter.1 hr).2;unfold Zp6 kE Zsi at this;simp only [Bool.or_eq_false_iff,Zmo] at this;exact ⟨this.1.1,this.1.2,this.2⟩
   unfold ZfO view;simp only [Bool.or_eq_false_iff,List.any_eq_false];refine ⟨⟨fun x hx=> ?_,fun x hx=> ?_⟩,fun x hx=> ?_⟩
   ·rw [Zcg];simp;intro hm;have hx':x.1∈ZG q.2.tm:=List.mem_map.2 ⟨x,hx,rfl⟩;rcases k1 _ hm with hm| ⟨r,hr,hm⟩
    ·exact h2.1.1 _ hx' hm
    ·exact (h5 r hr).1 _ hx' hm
   ·rw [Zcg];simp;intro hm;have hx':x.1∈ZG q.2.bx:=List.mem_map.2 ⟨x,hx,rfl⟩;obtain ⟨y,hy,hyx⟩:=List.mem_map.1 hm;obtain ⟨hy1,hy2⟩:=List.mem_filter.1 hy;rw [hyx] at hy2;rcases k2 x.1 (List.mem_map.2 ⟨y,hy1,hyx⟩) with hm| ⟨r,hr,hm⟩
    ·exact h2.1.2 _ hx' (List.mem_filter.2 ⟨hm,hy2⟩)
    ·exact (h5 r hr).2.1 _ hx' (List.mem_filter.2 ⟨hm,hy2⟩)
   ·rw [Zcg];simp;intro hm;have hx':x.1∈ZG q.2.ar:=List.mem_map.2 ⟨x,hx,rfl⟩;obtain ⟨y,hy,hyx⟩:=List.mem_map.1 hm;obtain ⟨hy1,hy2⟩:=List.mem_filter.1 hy;rw [hyx] at hy2;rcases k3 x.1 (List.mem_map.2 ⟨y,hy1,hyx⟩) with hm| ⟨r,hr,hm⟩
    ·exact h2.2 _ hx' (List.mem_filter.2 ⟨hm,hy2⟩)
    ·exact (h5 r hr).2.2 _ hx' (List.mem_filter.2 ⟨hm,hy2⟩)
def Zvc (s:List Nat) (x:Nat):List Nat:=if s.contains x then s else x::s
def ZjW (l:List Oper):List (List Nat):=l.foldl (fun A o=>A++[(o.after.toList.filter (Region.binds .any)).foldl (fun s e=>(A.getD e.on []).foldl Zvc (Zvc s e.on)) []]) []
section
variable {P:Program} {N:Nat->Prop} {w0:Bs} {Q:Exit->St->Prop} {y:Code} {σ:St}
theorem ZB {id:Nat} {l:List Oper} (n:Nat) (hm:P.follows .mixedOrders=true) (hd:Zbf l (ZjW l)=true) (hl:ZnM l (ZjW l) n=true)
  (h:Z5 P l.toArray (l.take n) σ (fun σ1=>σ1.bx.length=σ.bx.length/\σ1.ar.length=σ.ar.length/\Zfv σ (l.take n)/\Z5 P l.toArray (l.drop n) σ1 (fun σ'=>Q .normal σ'))) (hnd:(ZjW l).all (fun d=>d.all fun k=>decide (k<1000000))=true:=by kernel_rfl):AW P N w0 (.region id l.toArray true) Q σ:=Zon (ZjW l) n hm hd hl h hnd
theorem Zs {id:Nat} {l:List Oper} (h:∀K:St->Prop,(∀σ,AW P N w0 y Q σ->K σ)->Z5 P l.toArray l σ K):AW P N w0 (.seq (.region id l.toArray false) y) Q σ:=
 Zg fun K hK=>Wz (h K hK)
end
theorem si {α:Type} {a b:α} (h:some a=some b):a=b:=Zwf h
theorem ifM {α:Type} {b:Bool} {A B r:α} (hM:(if b=true then A else B)=r):(b=true/\A=r)\/(b=false/\B=r):=by cases b<;>simp_all
section
variable {P:Program} {N:Nat->Prop} {w0:Bs} {Q:Exit->St->Prop} {x y:Code} {σ σ':St}
theorem Zn {ρ:Type} {b:Bool} {A B r:ρ} {o:Operand} (hM:(if b=true then A else B)=r) (ht:b=true->A=r->AW P N w0 x Q σ) (hf:b=false->B=r->AW P N w0 y Q σ) (ho:opd σ o=some (.one (.l (.bool b))):=by simp [go_sem,F]):AW P N w0 (.cond o x y) Q σ:=
 Zjb ho (fun h=>ht h (by rw [if_pos h] at hM;exact hM)) (fun h=>hf h (by rw [if_neg (by simp [h])] at hM;exact hM))
theorem Qt {f:Nat} {ds ds':List DV} {fr pu:Bool} {rs:List DV} {X:Bool->Bool->List DV->Prop} {Y:Prop} (dp:Bool) (h:Ctr P f ds fr rs) (hx:X fr dp rs) (hd:ds'=ds:=by simp [go_sem,F]) (hp:fr=false->pu=true:=by simp):Ze3 P f ds' pu X Y:=
 ZoT dp h hd hp hx
theorem fin {ι:Type} {S:ι->St} {I:ι->Prop} {K:St->Prop} (hK:∀i σ',I i->Zdz (S i) σ'->K σ') (i:ι) (hi:I i) (h:Zbk (S i) σ:=by constructor<;>simp [go_sem,F]):K σ:=hK i σ hi h.into
theorem Zom (τs:List Nat) (h:AW P N w0 x Q σ') (hA:Zde τs σ:=by simp [go_sem,Zde,St.ZdD]) (k:Zbk σ' (τs.foldl St.ZdD σ):=by constructor<;>simp [go_sem,St.ZdD,F]):AW P N w0 x Q σ:=
 ZaF (fun N w0 a w hs=>k.into N w0 a w (ZbP hA N w0 a w hs)) h
theorem Zu5 (h:AW P N w0 x Q σ') (k:Zbk σ' σ:=by constructor<;>simp [go_sem,F]):AW P N w0 x Q σ:=ZaF k.into h
theorem Zu3 {ι:Type} (S:ι->St) (I:Nat->ι->Prop) (n0:Nat) (i0:ι) (h0:I n0 i0) (hz:∀i,¬I 0 i)
  (body:∀(KL:St->Prop) (n:Nat) (i:ι),(∀i' σ',I n i'->Zdz (S i') σ'->KL σ')->I (n+1) i->True->AW P N w0 x (ZfP KL Q) (S i)) (hk:Zbk (S i0) σ:=by constructor<;>simp [go_sem,F]):AW P N w0 (.loop x) Q σ:=
 Zu4 S I n0 i0 h0 hk.into hz fun KL n i h hi=>body KL n i h hi trivial
end
theorem Zr {P:Program} {f:Nat} {fn:Func} {c:Code} {nt:Nat} {rv:Array ResultVar} (hf:P.funcs[f]? =some fn) (hnt:fn.ntmps=nt) (hrv:fn.results=rv) {ds:List DV} {fr:Bool} {rs:List DV}
  (h:∀N w0,Bok N w0->True->AW P N w0 c (Zum P rv fr rs) ⟨nt,Zew 0 ds,[],[]⟩) (hok:Wx P f=true:=by kernel_rfl) (hb:fn.body=some c:=by rfl) (hds:ds.length<=nt:=by simp):Ctr P f ds fr rs:=
 Ctr.UR hok hf hb hnt hrv hds fun N w0 hb=>h N w0 hb trivial
theorem Jz {P:Program} {f:Nat} {fn:Func} {c:Code} {nt:Nat} {rv:Array ResultVar} (hf:P.funcs[f]? =some fn) (hnt:fn.ntmps=nt) (hrv:fn.results=rv) {d1 d2:List DV} {cs ls:List L} {fr:Bool} {rs:List DV}
  (h:∀N w0,Bok N w0->True->AW P N w0 c (ZsY P rv fr rs nt (nt+d1.length) ls) ⟨nt,Zew 0 d1++(d1.length,.one (.box (nt+d1.length) 0))::Zew (d1.length+1) d2,[(nt+d1.length,cs.map .l)],[]⟩) (hok:Wx P f=true:=by kernel_rfl) (hb:fn.body=some c:=by rfl) (hds:d1.length+1+d2.length<=nt:=by simp):Zbj P f d1 cs d2 fr rs ls:=
 Zbj.UR hok hf hb hnt hrv hds fun N w0 hb=>h N w0 hb trivial
theorem lT {a b:Int} (h:decide (a<b)=true):¬b<=a:=by simp at h;omega
theorem lF {a b:Int} (h:decide (a<b)=false):¬a<b:=by simpa using h
theorem eT {a b:Int} (h:decide (a<=b)=true):¬b<a:=by simp at h;omega
theorem eF {a b:Int} (h:decide (a<=b)=false):¬a<=b:=by simpa using h
theorem WZ {α:Type} {xs:List α} {i:Int} {x:α} (h:at? xs i=some x):0<=i/\xs[i.toNat]? =some x/\∀h,xs[i.toNat]'h=x:=by obtain ⟨a,b,c,d⟩:=Zda h;exact ⟨a,b,d⟩
theorem ZhY {α:Type} {xs:List α} {i:Int} {x:α} (h:at? xs i=some x):i.toNat<xs.length:=(Zda h).2.2.1
theorem Zs6 {α:Type} {xs:List α} {x:α} (n:Nat) (h:at? xs (n:Int)=some x):xs[n]? =some x/\∀h,xs[n]'h=x:=by obtain ⟨a,b,c,d⟩:=Zda h;exact ⟨b,d⟩
end Go.Proofs.YtbkllghhcphkaaaGreatDoor.Am
set_option linter.unusedSimpArgs false
set_option linter.unusedVariables false
namespace Go.Proofs.YtbkllghhcphkaaaGreatDoor
open Go.RowKit Am
def Ev (p:Nat->Prop):Prop:=∃B,∀k,B<=k->p k
theorem Ev.of {p:Nat->Prop} (h:∀k,p k):Ev p:=⟨0,fun k _=>h k⟩
theorem Ev.and {p q:Nat->Prop} (h:Ev p) (g:Ev q):Ev fun k=>p k/\q k:=by
 obtain ⟨A,h⟩:=h;obtain ⟨B,g⟩:=g;exact ⟨max A B,fun k hk=>⟨h k (by omega),g k (by omega)⟩⟩
theorem Ev.mono {p q:Nat->Prop} (h:Ev p) (f:∀k,p k->q k):Ev q:=by
 obtain ⟨A,h⟩:=h;exact ⟨A,fun k hk=>f k (h k hk)⟩
theorem Ev.ge (n:Nat):Ev fun k=>n<=k:=⟨n,fun _ h=>h⟩
theorem Ev.all {α:Type} {p:α->Nat->Prop}:∀(xs:List α),(∀x∈xs,Ev (p x))->Ev fun k=>∀x∈xs,p x k
 | [],_=>Ev.of fun _ _ h=>by simp at h
 | x::xs,h=>((h x (by simp)).and (Ev.all xs fun y hy=>h y (by simp [hy]))).mono fun k ⟨h1,h2⟩ y hy=>by
  rcases List.mem_cons.1 hy with rfl| hy
  ·exact h1
  ·exact h2 y hy
theorem Ev.pred {p q:Nat->Prop} (h:Ev p) (f:∀k,p k->q (k+1)):Ev q:=by
 obtain ⟨A,h⟩:=h;refine ⟨A+1,fun k hk=> ?_⟩;obtain ⟨j,rfl⟩:∃j,k=j+1:=⟨k-1,by omega⟩;exact f j (h j (by omega))
theorem Ev.get {p:Nat->Prop} (h:Ev p):∃k,p k:=by obtain ⟨A,h⟩:=h;exact ⟨A,h A (Zwk _)⟩
theorem w64 {n:Int} (h0: -9223372036854775808<=n) (h1:n<=9223372036854775807):IntKind.i64.wrap n=n:=IntWalk.i64_in n ⟨h0,h1⟩
theorem wS (i:Nat) (h:i<9223372036854775807):IntKind.i64.wrap ((i:Int)+1)=((i+1:Nat):Int):=by rw [w64 (by omega) (by omega)];rfl
theorem ZfF {α:Type} (xs:List α) (i:Nat):at? xs (i:Int)=xs[i]? :=by unfold at?;rw [if_pos (by omega)];rfl
theorem Yp {α:Type} {xs:List α} {i:Nat} (h:i<xs.length):at? xs (i:Int)=some xs[i]:=by rw [ZfF,Zwm h]
theorem ZK {i n:Nat} (h:i<n):(decide ((i:Int)<(n:Int)))=true:=by simp [h]
theorem Xs {i n:Nat} (h:n<=i):¬(decide ((i:Int)<(n:Int)))=true:=by simp [h]
theorem X4 {α:Type} {b:Nat} {xs ys:List α} (h:xs.length+ys.length<=1099511627776) (hb:b<=128):Qb b xs ys=some (xs++ys):=by
 unfold Qb;rw [if_pos ⟨by omega,Nat.le_trans (Nat.mul_le_mul h hb) (by omega)⟩]
theorem ZpG {b n:Nat} (h:n<=1099511627776) (hb:b<=256):mk? b (n:Int)=some n:=by
 unfold mk?
 have h1:(b:Int)*(n:Int)<=281474976710656:=by
  have:=Nat.mul_le_mul hb h;have h2:((b*n:Nat):Int)<=((256*1099511627776:Nat):Int):=Int.ofNat_le.2 this
  simpa using h2
 rw [if_pos ⟨by omega,by omega,h1⟩];rfl
mutual
def DOk:L->Prop
 | .int k n=>InK k n
 | .bool _=>True
 | .str s=>Fit s
 | .void=>True
 | .sl es=>es.length<=9223372036854775807/\Zol es
def Zlc:List L->Prop
 | []=>True
 | x::xs=>DOk x/\Zlc xs
def Zol:List (List L)->Prop
 | []=>True
 | e::es=>Zlc e/\Zol es
end
theorem Zki {α:Type} {c:α->List L}:∀{xs:List α},Zol (xs.map c)↔∀x∈xs,Zlc (c x)
 | []=>by simp [Zol]
 | x::xs=>by simp [Zol,Zki (xs:=xs)]
theorem ZoY {α:Type} {c:α->List L} {xs:List α} (h:DOk (.sl (xs.map c))):(xs.length:Int)<=9223372036854775807/\∀x∈xs,Zlc (c x):=by
 simp only [DOk,List.length_map] at h;exact ⟨by omega,Zki.1 h.2⟩
theorem Zm0 {s:ByteArray} (h:DOk (.str s)):(s.size:Int)<=9223372036854775807:=by simp only [DOk,Fit] at h;omega
mutual
theorem Rp.dok {w:World}:∀{x:L} {v:Value} {F:List Nat},Rp w x v F->DOk x
 | .int _ _,_,_,h=>by simp only [Rp] at h;simp only [DOk];exact h.2.2
 | .bool _,_,_,_=>by simp only [DOk]
 | .str _,_,_,h=>by simp only [Rp] at h;simp only [DOk];exact h.2.2
 | .void,_,_,_=>by simp only [DOk]
 | .sl _,_,_,h=>by
  simp only [Rp] at h;obtain ⟨A,c,h1,h2,h3,h4⟩:=h;simp only [DOk];refine ⟨by omega, ?_⟩;rcases h4 with ⟨rfl,_⟩| ⟨b,off,xs,Fs,e1,e2,e3,e4,e5⟩
  ·simp only [Zol]
  ·exact RpE.dok e5
theorem RpL.dok {w:World}:∀{xs:List L} {vs:List Value} {F:List Nat},RpL w xs vs F->Zlc xs
 | [],_,_,_=>by simp only [Zlc]
 | _::_,_,_,h=>by
  simp only [RpL] at h;obtain ⟨v,vs',F1,F2,_,_,h1,h2⟩:=h;simp only [Zlc];exact ⟨Rp.dok h1,RpL.dok h2⟩
theorem RpE.dok {w:World}:∀{es:List (List L)} {vs:List Value} {F:List Nat},RpE w es vs F->Zol es
 | [],_,_,_=>by simp only [Zol]
 | _::_,_,_,h=>by
  simp only [RpE] at h;obtain ⟨v1,v2,F1,F2,_,_,h1,h2⟩:=h;simp only [Zol];exact ⟨RpL.dok h1,RpE.dok h2⟩
end
def szR (b:Nat) (left:Int):Int:=if (b:Int)<=left then left-b else-1
def QL {α:Type} (f:α->Nat) (xs:List α):Nat:=(xs.map f).sum
def bkS {α:Type} (f:α->Nat) (xs:List α):Nat:=xs.length+QL f xs
theorem Zd6 {α:Type} (f:α->Nat):∀{xs:List α} {x:α},x∈xs->f x<=QL f xs
 | y::xs,x,h=>by
  rcases List.mem_cons.1 h with rfl| h
  ·simp only [QL,List.map_cons,List.sum_cons];omega
  ·have:=Zd6 f h;simp only [QL,List.map_cons,List.sum_cons] at this ⊢;omega
theorem Ui {α:Type} {f:α->Nat} {xs:List α} {x:α} (h:x∈xs):f x<=bkS f xs:=by have:=Zd6 f h;unfold bkS;omega
theorem WK {α:Type} {f:α->Nat} {xs:List α}:xs.length<=bkS f xs:=by unfold bkS;omega
theorem ZmH {α:Type} (xs:List α):bkS (fun _=>0) xs=xs.length:=by
 unfold bkS QL;have:(xs.map fun _=>0).sum=0:=by induction xs<;>simp_all
 omega
theorem Zph {left:Int} (h:0<=left):some left=some (szR 0 left):=by unfold szR;rw [if_pos (by simpa using h)];simp
theorem Zpf {b b2:Nat} {left:Int} {F:Int->Option Int} (h0:0<=left) (hF:∀x,0<=x->x<=left->F x=some (szR b2 x)):
  (if (decide (szR b left<0))=true then some (-1) else F (szR b left))=some (szR (b+b2) left):=by
 by_cases h:(b:Int)<=left
 ·have e:szR b left=left-b:=by unfold szR;rw [if_pos h]
  rw [e,if_neg (by simp;omega),hF _ (by omega) (by omega)];unfold szR
  by_cases h2:(b2:Int)<=left-b
  ·rw [if_pos h2,if_pos (by omega)];congr 1;omega
  ·rw [if_neg h2,if_neg (by omega)]
 ·have e:szR b left= -1:=by unfold szR;rw [if_neg h]
  rw [e,if_pos (by decide)];unfold szR;rw [if_neg (by omega)]
theorem Zos {b:Nat} {left:Int} (h0:0<=left) (h1:left<=1048576) (hb:(b:Int)<=9223372036854775807):
  (∃z,IntKind.i64.wrap (left-(b:Int))=z/\¬(decide (z<0))=true/\z=left-b/\0<=z/\z<=1048576)\/((decide (IntKind.i64.wrap (left-(b:Int))<0))=true/\left<b):=by
 rw [w64 (by omega) (by omega)]
 by_cases h:(b:Int)<=left
 ·exact .inl ⟨_,rfl,by simp;omega,rfl,by omega,by omega⟩
 ·exact .inr ⟨by simp;omega,by omega⟩
theorem Zia {b:Nat} {left:Int} (h1:left<=1048576):(∃z,szR b left=z/\¬(decide (z<0))=true/\z=left-b/\0<=z/\z<=1048576)\/(szR b left= -1/\left<b):=by
 unfold szR
 by_cases h:(b:Int)<=left
 ·rw [if_pos h];exact .inl ⟨_,rfl,by simp;omega,rfl,by omega,by omega⟩
 ·rw [if_neg h];exact .inr ⟨rfl,by omega⟩
theorem Zh9 {b:Nat} {left:Int} (h:left<b):some (-1)=some (szR b left):=by unfold szR;rw [if_neg (by omega)]
theorem Zlt {b:Nat} {left z:Int} (h0:0<=z) (h:z=left-b):some z=some (szR b left):=by unfold szR;rw [if_pos (by omega),h]
theorem Zpg {α:Type} (f:α->Nat) (a0:List α) (g:α->Int->Option Int) (u:Nat->Int->Int->Option (Int ⊕ Int))
  (hg:∀x∈a0,∀l,0<=l->l<=1048576->((g x l).bind fun y=>if (decide (y<0))=true then some (-1) else some y)=some (szR (f x) l))
  (hu:∀n l i,u (n+1) l i=if (decide (i<(a0.length:Int)))=true then (at? a0 i).bind fun x=>(g x l).bind fun y=>if (decide (y<0))=true then some (.inr (-1)) else u n y (IntKind.i64.wrap (i+1)) else some (.inl l))
  (hl:a0.length<=1048576):∀(m n i:Nat) (l:Int),i+m=a0.length->m<n->0<=l->l<=1048576->u n l (i:Int)=some (if (QL f (a0.drop i):Int)<=l then .inl (l-QL f (a0.drop i)) else .inr (-1)):=by
 intro m
 induction m with
 | zero=>
  intro n i l hi hn h0 h1;obtain ⟨n,rfl⟩:∃j,n=j+1:=⟨n-1,by omega⟩;rw [hu,if_neg (Xs (by omega)),List.drop_of_length_le (by omega)];simp [QL,h0]
 | succ m ih=>
  intro n i l hi hn h0 h1;obtain ⟨n,rfl⟩:∃j,n=j+1:=⟨n-1,by omega⟩;have hil:i<a0.length:=by omega
  rw [hu,if_pos (ZK hil),Yp hil,Zwe,wS i (by omega),List.drop_eq_getElem_cons hil];have hx:=hg a0[i] (List.getElem_mem hil) l h0 h1;obtain ⟨y,hy,hx⟩:=Option.bind_eq_some_iff.1 hx;rw [hy,Zwe];have e:(QL f (a0[i]::a0.drop (i+1)):Nat)=f a0[i]+QL f (a0.drop (i+1)):=by unfold QL;rw [List.map_cons,List.sum_cons]
  rw [e]
  split at hx
  ·rename_i hneg;rw [if_pos hneg];have hx:=Zwf hx;unfold szR at hx
   split at hx
   ·omega
   ·rw [if_neg (by omega)]
  ·rename_i hneg;rw [if_neg hneg];have hx:=Zwf hx;unfold szR at hx
   split at hx
   ·rw [ih n (i+1) y (by omega) (by omega) (by omega) (by omega),hx]
    congr 1
    by_cases h2:(QL f (a0.drop (i+1)):Int)<=l-(f a0[i]:Int)
    ·rw [if_pos h2,if_pos (by omega)];congr 1;omega
    ·rw [if_neg h2,if_neg (by omega)]
   ·subst hx;simp at hneg
theorem Znk {α:Type} (f:α->Nat) (a0:List α) (g:α->Int->Option Int) (u:Nat->Int->Int->Option (Int ⊕ Int)) (k:Nat)
  (hg:∀x∈a0,∀l,0<=l->l<=1048576->((g x l).bind fun y=>if (decide (y<0))=true then some (-1) else some y)=some (szR (f x) l))
  (hu:∀n l i,u (n+1) l i=if (decide (i<(a0.length:Int)))=true then (at? a0 i).bind fun x=>(g x l).bind fun y=>if (decide (y<0))=true then some (.inr (-1)) else u n y (IntKind.i64.wrap (i+1)) else some (.inl l))
  (hk:a0.length<k) (hlen:(a0.length:Int)<=9223372036854775807) (left:Int) (h0:0<=left) (h1:left<=1048576):
  (if (decide (IntKind.i64.wrap (left-(a0.length:Int))<0))=true then some (-1) else (u k (IntKind.i64.wrap (left-(a0.length:Int))) 0).bind fun | .inl x=>some x| .inr z=>some z)=some (szR (bkS f a0) left):=by
 rw [w64 (by omega) (by omega)]
 by_cases h:(a0.length:Int)<=left
 ·rw [if_neg (by simp;omega)];have:=Zpg f a0 g u hg hu (by omega) a0.length k 0 (left-a0.length) (by omega) hk (by omega) (by omega);rw [show ((0:Nat):Int)=0 from rfl] at this;rw [this];simp only [List.drop_zero,Zwe];unfold szR bkS
  by_cases h2:(QL f a0:Int)<=left-a0.length
  ·rw [if_pos h2,if_pos (by omega)];simp only;congr 1;omega
  ·rw [if_neg h2,if_neg (by omega)]
 ·rw [if_pos (by simp;omega)];unfold szR bkS;rw [if_neg (by omega)]
theorem Zpc {α:Type} (a0:List α) (g:α->Option α) (u:Nat->List α->Int->Option (List α)) (hg:∀x∈a0,g x=some x)
  (hu:∀n out i,u (n+1) out i=if (decide (i<(a0.length:Int)))=true then (at? a0 i).bind fun x=>(g x).bind fun y=>(at? out i).bind fun _=>u n (out.set i.toNat y) (IntKind.i64.wrap (i+1)) else some out)
  (hl:a0.length<=1048576):∀(m n i:Nat) (out:List α),i+m=a0.length->m<n->out.length=a0.length->out.take i=a0.take i->u n out (i:Int)=some a0:=by
 intro m
 induction m with
 | zero=>
  intro n i out hi hn ho ht;obtain ⟨n,rfl⟩:∃j,n=j+1:=⟨n-1,by omega⟩;rw [hu,if_neg (Xs (by omega))];rw [List.take_of_length_le (by omega),List.take_of_length_le (by omega)] at ht;rw [ht]
 | succ m ih=>
  intro n i out hi hn ho ht;obtain ⟨n,rfl⟩:∃j,n=j+1:=⟨n-1,by omega⟩;have hil:i<a0.length:=by omega
  rw [hu,if_pos (ZK hil),Yp hil,Zwe,hg _ (List.getElem_mem hil),Zwe,Yp (by omega),Zwe,wS i (by omega),Int.toNat_natCast];refine ih n (i+1) _ (by omega) (by omega) (by simp [ho]) ?_;rw [List.take_add_one,List.take_add_one,List.take_set_of_le (by omega),ht];simp [ho,hil]
theorem Zni {α:Type} (b:Nat) (hb:b<=256) (z:α) (a0:List α) (g:α->Option α) (u:Nat->List α->Int->Option (List α)) (k:Nat) (hg:∀x∈a0,g x=some x)
  (hu:∀n out i,u (n+1) out i=if (decide (i<(a0.length:Int)))=true then (at? a0 i).bind fun x=>(g x).bind fun y=>(at? out i).bind fun _=>u n (out.set i.toNat y) (IntKind.i64.wrap (i+1)) else some out)
  (hk:a0.length<k) (hl:a0.length<=1048576):((mk? b (a0.length:Int)).bind fun n=>(u k (List.replicate n z) 0).bind fun r=>some r)=some a0:=by
 rw [ZpG (by omega) hb,Zwe];have:=Zpc a0 g u hg hu hl a0.length k 0 (List.replicate a0.length z) (by omega) hk (by simp) (by simp);rw [show ((0:Nat):Int)=0 from rfl] at this;rw [this];rfl
theorem Zqe {α:Type} (a0:List α) (g:α->α->Option Bool) (u:Nat->Int->Option (Unit ⊕ Bool)) (hg:∀x∈a0,g x x=some true)
  (hu:∀n i,u (n+1) i=if (decide (i<(a0.length:Int)))=true then (at? a0 i).bind fun x=>(at? a0 i).bind fun y=>(g x y).bind fun b=>if (!b)=true then some (.inr false) else u n (IntKind.i64.wrap (i+1)) else some (.inl ()))
  (hl:(a0.length:Int)<=9223372036854775807):∀(m n i:Nat),i+m=a0.length->m<n->u n (i:Int)=some (.inl ()):=by
 intro m
 induction m with
 | zero=>
  intro n i hi hn;obtain ⟨n,rfl⟩:∃j,n=j+1:=⟨n-1,by omega⟩;rw [hu,if_neg (Xs (by omega))]
 | succ m ih=>
  intro n i hi hn;obtain ⟨n,rfl⟩:∃j,n=j+1:=⟨n-1,by omega⟩;have hil:i<a0.length:=by omega
  rw [hu,if_pos (ZK hil),Yp hil,Zwe,Zwe,hg _ (List.getElem_mem hil),Zwe,if_neg (by simp),wS i (by omega)];exact ih n (i+1) (by omega) (by omega)
theorem ZjT {α:Type} (a0:List α) (g:α->α->Option Bool) (u:Nat->Int->Option (Unit ⊕ Bool)) (k:Nat) (hg:∀x∈a0,g x x=some true)
  (hu:∀n i,u (n+1) i=if (decide (i<(a0.length:Int)))=true then (at? a0 i).bind fun x=>(at? a0 i).bind fun y=>(g x y).bind fun b=>if (!b)=true then some (.inr false) else u n (IntKind.i64.wrap (i+1)) else some (.inl ()))
  (hk:a0.length<k) (hl:(a0.length:Int)<=9223372036854775807):(if (!decide ((a0.length:Int)=(a0.length:Int)))=true then some false else (u k 0).bind fun | .inl _=>some true| .inr z=>some z)=some true:=by
 rw [if_neg (by simp)];have:=Zqe a0 g u hg hu hl a0.length k 0 (by omega) hk;rw [show ((0:Nat):Int)=0 from rfl] at this;rw [this];rfl
theorem Zoh {α ε β:Type} (xs:List α) (t:α->Bool) (T:α->Option Bool) (c:β) (e:ε) (u:Nat->Int->Option (ε ⊕ β)) (hT:∀x∈xs,T x=some (t x))
  (hu:∀n i,u (n+1) i=if (decide (i<(xs.length:Int)))=true then (at? xs i).bind fun x=>(T x).bind fun b=>if b=true then some (.inr c) else u n (IntKind.i64.wrap (i+1)) else some (.inl e))
  (hl:(xs.length:Int)<=9223372036854775807):∀(m n i:Nat),i+m=xs.length->m<n->u n (i:Int)=some (if (xs.drop i).any t=true then .inr c else .inl e):=by
 intro m
 induction m with
 | zero=>
  intro n i hi hn;obtain ⟨n,rfl⟩:∃j,n=j+1:=⟨n-1,by omega⟩;rw [hu,if_neg (Xs (by omega)),List.drop_of_length_le (by omega)];rfl
 | succ m ih=>
  intro n i hi hn;obtain ⟨n,rfl⟩:∃j,n=j+1:=⟨n-1,by omega⟩;have hil:i<xs.length:=by omega
  rw [hu,if_pos (ZK hil),Yp hil,Zwe,hT _ (List.getElem_mem hil),Zwe,wS i (by omega),List.drop_eq_getElem_cons hil,List.any_cons];cases ht:t xs[i] with
  | true=>simp
  | false=>rw [if_neg (by simp),ih n (i+1) (by omega) (by omega)];simp
theorem Qm {α ε β:Type} (xs:List α) (t:α->Bool) (T:α->Option Bool) (c:β) (e:ε) (u:Nat->Int->Option (ε ⊕ β)) (hT:∀x∈xs,T x=some (t x))
  (hu:∀n i,u (n+1) i=if (decide (i<(xs.length:Int)))=true then (at? xs i).bind fun x=>(T x).bind fun b=>if b=true then some (.inr c) else u n (IntKind.i64.wrap (i+1)) else some (.inl e))
  (hl:(xs.length:Int)<=9223372036854775807) {k:Nat} (hk:xs.length<k):u k 0=some (if xs.any t=true then .inr c else .inl e):=by
 have:=Zoh xs t T c e u hT hu hl xs.length k 0 (by omega) hk
 simpa using this
def anyI {α:Type} (t:Nat->α->Bool):Nat->List α->Bool
 | _,[]=>false
 | i,x::xs=>t i x||anyI t (i+1) xs
theorem ZmP {α ε β:Type} (xs:List α) (t:Nat->α->Bool) (T:Int->α->Option Bool) (c:β) (e:ε) (u:Nat->Int->Option (ε ⊕ β)) (hT:∀(j:Nat) (h:j<xs.length),T j xs[j]=some (t j xs[j]))
  (hu:∀n i,u (n+1) i=if (decide (i<(xs.length:Int)))=true then (at? xs i).bind fun x=>(T i x).bind fun b=>if b=true then some (.inr c) else u n (IntKind.i64.wrap (i+1)) else some (.inl e))
  (hl:(xs.length:Int)<=9223372036854775807):∀(m n i:Nat),i+m=xs.length->m<n->u n (i:Int)=some (if anyI t i (xs.drop i)=true then .inr c else .inl e):=by
 intro m
 induction m with
 | zero=>
  intro n i hi hn;obtain ⟨n,rfl⟩:∃j,n=j+1:=⟨n-1,by omega⟩;rw [hu,if_neg (Xs (by omega)),List.drop_of_length_le (by omega)];rfl
 | succ m ih=>
  intro n i hi hn;obtain ⟨n,rfl⟩:∃j,n=j+1:=⟨n-1,by omega⟩;have hil:i<xs.length:=by omega
  rw [hu,if_pos (ZK hil),Yp hil,Zwe,hT i hil,Zwe,wS i (by omega),List.drop_eq_getElem_cons hil];simp only [anyI]
  by_cases ht:t i xs[i]=true
  ·simp [ht]
  ·rw [if_neg ht,ih n (i+1) (by omega) (by omega)];simp [ht]
theorem Vc {α ε β:Type} (xs:List α) (t:Nat->α->Bool) (T:Int->α->Option Bool) (c:β) (e:ε) (u:Nat->Int->Option (ε ⊕ β)) (hT:∀(j:Nat) (h:j<xs.length),T j xs[j]=some (t j xs[j]))
  (hu:∀n i,u (n+1) i=if (decide (i<(xs.length:Int)))=true then (at? xs i).bind fun x=>(T i x).bind fun b=>if b=true then some (.inr c) else u n (IntKind.i64.wrap (i+1)) else some (.inl e))
  (hl:(xs.length:Int)<=9223372036854775807) {k:Nat} (hk:xs.length<k):u k 0=some (if anyI t 0 xs=true then .inr c else .inl e):=by
 have:=ZmP xs t T c e u hT hu hl xs.length k 0 (by omega) hk
 simpa using this
theorem QV {α β:Type} [Inhabited β] {p:α->β->Prop} (xs:List α) (h:∀x∈xs,∃b,p x b):∃f:α->β,∀x∈xs,p x (f x):=by
 classical
 refine ⟨fun x=>if hx:x∈xs then (h x hx).choose else default,fun x hx=> ?_⟩;simp only [hx,dite_true];exact (h x hx).choose_spec
theorem ZdG {σ ε:Type} (u:Nat->σ->Int->Option ε) (S:Nat->σ) (R:Option ε) (j:Nat)
  (step:∀n i,i<j->u (n+1) (S i) (i:Int)=u n (S (i+1)) ((i+1:Nat):Int)) (ex:∀n,u (n+1) (S j) (j:Int)=R) {k:Nat} (hk:j<k):u k (S 0) 0=R:=by
 have key:∀(m n i:Nat),i+m=j->m<n->u n (S i) (i:Int)=R:=by
  intro m
  induction m with
  | zero=>
   intro n i hi hn;obtain ⟨n,rfl⟩:∃q,n=q+1:=⟨n-1,by omega⟩;obtain rfl:i=j:=by omega
   exact ex n
  | succ m ih=>
   intro n i hi hn;obtain ⟨n,rfl⟩:∃q,n=q+1:=⟨n-1,by omega⟩;rw [step n i (by omega)];exact ih n (i+1) (by omega) (by omega)
 exact key j k 0 (by omega) hk
def Zc6 {α:Type} (p:α->Bool) (xs:List α):Int:=if xs.findIdx p<xs.length then (xs.findIdx p:Int) else-1
theorem Zmu {α:Type} {p:α->Bool} {xs:List α} (h:Zc6 p xs<0):∀x∈xs,p x=false:=by
 unfold Zc6 at h
 split at h
 ·omega
 ·rename_i h1;intro x hx;have h2:xs.findIdx p<=xs.length:=List.findIdx_le_length;have e:xs.findIdx p=xs.length:=by omega
  simpa using List.findIdx_eq_length.1 e x hx
theorem Zcz {α ε:Type} (xs:List α) (p:α->Bool) (u:Nat->Int->Option ε) (yes:Nat->Option ε) (no:Option ε)
  (hstep:∀n i (h:i<xs.length),p xs[i]=false->u (n+1) (i:Int)=u n ((i+1:Nat):Int)) (hyes:∀n i (h:i<xs.length),p xs[i]=true->u (n+1) (i:Int)=yes i) (hno:∀n,u (n+1) (xs.length:Int)=no)
  {k:Nat} (hk:xs.length<k):u k 0=if xs.findIdx p<xs.length then yes (xs.findIdx p) else no:=by
 have h1:xs.findIdx p<=xs.length:=List.findIdx_le_length;refine ZdG (fun n (_:Unit) i=>u n i) (fun _=>()) _ (xs.findIdx p) (fun n i hi=> ?_) (fun n=> ?_) (by omega)
 ·exact hstep n i (Nat.lt_of_lt_of_le hi h1) (by simpa using List.not_of_lt_findIdx hi)
 ·by_cases h:xs.findIdx p<xs.length
  ·rw [if_pos h];exact hyes n _ h List.findIdx_getElem
  ·rw [if_neg h];have e:xs.findIdx p=xs.length:=by omega
   simp only [e];exact hno n
inductive D where
 | int (n:Int)
 | byte (n:Int)
 | bool (b:Bool)
 | str (s:ByteArray)
 | agg (fs:List D)
 | sl (es:List D)
def I64 (n:Int):Prop:= -9223372036854775808<=n/\n<=9223372036854775807
mutual
def wd:D->Nat
 | .int _=>1
 | .byte _=>1
 | .bool _=>1
 | .str _=>1
 | .agg fs=>wdL fs
 | .sl _=>1
def wdL:List D->Nat
 | []=>0
 | d::ds=>wd d+wdL ds
end
def Qr (w:World) (b off:Nat) (xs:List Value):Prop:=∀j u,xs[j]? =some u->w.cell? ⟨b,off+j,none⟩=some u
mutual
def Rep (w:World):D->List Value->List Nat->Prop
 | .int n,cs,F=>cs=[.int .i64 n]/\F=[]/\I64 n
 | .byte n,cs,F=>cs=[.int .u8 n]/\F=[]/\0<=n/\n<=255
 | .bool b,cs,F=>cs=[.bool b]/\F=[]
 | .str s,cs,F=>cs=[.string s]/\F=[]/\s.size<=9223372036854775807
 | .agg fs,cs,F=>WI w fs cs F
 | .sl es,cs,F=>∃A c,cs=[.slice A es.length c]/\es.length<=c/\c<=9223372036854775807/\
   ((es=[]/\F=[])\/∃b off xs Fs,A=some ⟨b,off,none⟩/\b<w.heap.size/\F=b::Fs/\Qr w b off xs/\WI w es xs Fs)
def WI (w:World):List D->List Value->List Nat->Prop
 | [],cs,F=>cs=[]/\F=[]
 | d::ds,cs,F=>∃c1 c2 F1 F2,cs=c1++c2/\F=F1++F2/\Rep w d c1 F1/\WI w ds c2 F2
end
mutual
theorem Rep.len {w:World}:∀{d:D} {cs:List Value} {F:List Nat},Rep w d cs F->cs.length=wd d
 | .int _,_,_,h=>by simp only [Rep] at h;simp [h.1,wd]
 | .byte _,_,_,h=>by simp only [Rep] at h;simp [h.1,wd]
 | .bool _,_,_,h=>by simp only [Rep] at h;simp [h.1,wd]
 | .str _,_,_,h=>by simp only [Rep] at h;simp [h.1,wd]
 | .agg _,_,_,h=>by simp only [Rep] at h;simp only [wd];exact WI.len h
 | .sl _,_,_,h=>by simp only [Rep] at h;obtain ⟨A,c,h,_⟩:=h;simp [h,wd]
theorem WI.len {w:World}:∀{ds:List D} {cs:List Value} {F:List Nat},WI w ds cs F->cs.length=wdL ds
 | [],_,_,h=>by simp only [WI] at h;simp [h.1,wdL]
 | _::_,_,_,h=>by
  simp only [WI] at h;obtain ⟨c1,c2,F1,F2,rfl,rfl,h1,h2⟩:=h;simp only [List.length_append,wdL,Rep.len h1,WI.len h2]
end
def ZhZ (w w':World) (F:List Nat):Prop:=w.heap.size<=w'.heap.size/\∀b∈F,w'.heap[b]? =w.heap[b]?
theorem ZhZ.left {w w':World} {F G:List Nat} (h:ZhZ w w' (F++G)):ZhZ w w' F:=⟨h.1,fun b hb=>h.2 b (List.mem_append_left _ hb)⟩
theorem ZhZ.right {w w':World} {F G:List Nat} (h:ZhZ w w' (F++G)):ZhZ w w' G:=⟨h.1,fun b hb=>h.2 b (List.mem_append_right _ hb)⟩
theorem ZhZ.tail {w w':World} {b:Nat} {G:List Nat} (h:ZhZ w w' (b::G)):ZhZ w w' G:=⟨h.1,fun x hx=>h.2 x (List.mem_cons_of_mem _ hx)⟩
theorem ZhZ.below {B:Nat} {w w':World} {F:List Nat} (h:Below B w w') (hF:∀b∈F,b<B):ZhZ w w' F:=⟨h.size,fun b hb=>h.block b (hF b hb)⟩
theorem Qr.keep {w w':World} {b off:Nat} {xs:List Value} (h:Qr w b off xs) (hb:w'.heap[b]? =w.heap[b]?):Qr w' b off xs:=
 fun j u hu=>(World.cell?_of_block (w:=w) (w':=w') (a:=⟨b,off+j,none⟩) hb).trans (h j u hu)
mutual
theorem Rep.keep {w w':World}:∀{d:D} {cs:List Value} {F:List Nat},Rep w d cs F->ZhZ w w' F->Rep w' d cs F
 | .int _,_,_,h,_=>by simp only [Rep] at h ⊢;exact h
 | .byte _,_,_,h,_=>by simp only [Rep] at h ⊢;exact h
 | .bool _,_,_,h,_=>by simp only [Rep] at h ⊢;exact h
 | .str _,_,_,h,_=>by simp only [Rep] at h ⊢;exact h
 | .agg _,_,_,h,hs=>by simp only [Rep] at h ⊢;exact WI.keep h hs
 | .sl _,_,_,h,hs=>by
  simp only [Rep] at h ⊢;obtain ⟨A,c,h1,h2,h3,h4⟩:=h;refine ⟨A,c,h1,h2,h3, ?_⟩;rcases h4 with h4| ⟨b,off,xs,Fs,e1,e2,e3,e4,e5⟩
  ·exact .inl h4
  ·subst e3;exact .inr ⟨b,off,xs,Fs,e1,Nat.lt_of_lt_of_le e2 hs.1,rfl,e4.keep (hs.2 b (by simp)),WI.keep e5 hs.tail⟩
theorem WI.keep {w w':World}:∀{ds:List D} {cs:List Value} {F:List Nat},WI w ds cs F->ZhZ w w' F->WI w' ds cs F
 | [],_,_,h,_=>by simp only [WI] at h ⊢;exact h
 | _::_,_,_,h,hs=>by
  simp only [WI] at h ⊢;obtain ⟨c1,c2,F1,F2,rfl,rfl,h1,h2⟩:=h;exact ⟨c1,c2,F1,F2,rfl,rfl,Rep.keep h1 hs.left,WI.keep h2 hs.right⟩
end
mutual
theorem Rep.lt {w:World}:∀{d:D} {cs:List Value} {F:List Nat},Rep w d cs F->∀b∈F,b<w.heap.size
 | .int _,_,_,h=>by simp only [Rep] at h;simp [h.2.1]
 | .byte _,_,_,h=>by simp only [Rep] at h;simp [h.2.1]
 | .bool _,_,_,h=>by simp only [Rep] at h;simp [h.2]
 | .str _,_,_,h=>by simp only [Rep] at h;simp [h.2.1]
 | .agg _,_,_,h=>by simp only [Rep] at h;exact WI.lt h
 | .sl _,_,_,h=>by
  simp only [Rep] at h;obtain ⟨A,c,h1,h2,h3,h4⟩:=h;rcases h4 with ⟨_,rfl⟩| ⟨b,off,xs,Fs,e1,e2,e3,e4,e5⟩
  ·simp
  ·subst e3;intro x hx;rcases List.mem_cons.1 hx with rfl| hx
   ·exact e2
   ·exact WI.lt e5 x hx
theorem WI.lt {w:World}:∀{ds:List D} {cs:List Value} {F:List Nat},WI w ds cs F->∀b∈F,b<w.heap.size
 | [],_,_,h=>by simp only [WI] at h;simp [h.2]
 | _::_,_,_,h=>by
  simp only [WI] at h;obtain ⟨c1,c2,F1,F2,rfl,rfl,h1,h2⟩:=h;intro x hx;rcases List.mem_append.1 hx with hx| hx
  ·exact Rep.lt h1 x hx
  ·exact WI.lt h2 x hx
end
theorem Rep.below {w w':World} {d:D} {cs:List Value} {F:List Nat} (h:Rep w d cs F) (hb:Below w.heap.size w w'):Rep w' d cs F:=
 h.keep (ZhZ.below hb h.lt)
theorem WI.append {w:World}:∀{ds es:List D} {c1 c2:List Value} {F1 F2:List Nat},WI w ds c1 F1->WI w es c2 F2->WI w (ds++es) (c1++c2) (F1++F2)
 | [],_,_,_,_,_,h,k=>by simp only [WI] at h;obtain ⟨rfl,rfl⟩:=h;simpa using k
 | d::ds,es,_,_,_,_,h,k=>by
  simp only [WI] at h;obtain ⟨c1,c2,F1,F2,rfl,rfl,h1,h2⟩:=h;simp only [List.cons_append,WI];exact ⟨c1,_,F1,_,by rw [List.append_assoc],by rw [List.append_assoc],h1,WI.append h2 k⟩
theorem WI.split {w:World}:∀{ds es:List D} {cs:List Value} {F:List Nat},WI w (ds++es) cs F->∃c1 c2 F1 F2,cs=c1++c2/\F=F1++F2/\WI w ds c1 F1/\WI w es c2 F2
 | [],_,cs,F,h=>⟨[],cs,[],F,rfl,rfl,⟨rfl,rfl⟩,h⟩
 | d::ds,es,cs,F,h=>by
  simp only [List.cons_append,WI] at h;obtain ⟨c1,c2,F1,F2,rfl,rfl,h1,h2⟩:=h;obtain ⟨c3,c4,F3,F4,rfl,rfl,h3,h4⟩:=WI.split h2;refine ⟨c1++c3,c4,F1++F3,F4,by rw [List.append_assoc],by rw [List.append_assoc], ?_,h4⟩;simp only [WI];exact ⟨c1,c3,F1,F3,rfl,rfl,h1,h3⟩
theorem Zbl {W:Nat}:∀(ds:List D),(∀d∈ds,wd d=W)->wdL ds=ds.length*W
 | [],_=>by simp [wdL]
 | d::ds,h=>by
  simp only [wdL,List.length_cons,Zbl ds (fun x hx=>h x (List.mem_cons_of_mem _ hx)),h d (by simp)];rw [Nat.add_mul];omega
theorem WI.get {w:World} {ds:List D} {cs:List Value} {F:List Nat} {W i:Nat} (h:WI w ds cs F) (hW:∀d∈ds,wd d=W) (hi:i<ds.length):
  ∃ys Fi,Rep w ds[i] ys Fi/\ys.length=W/\(∀b∈Fi,b∈F)/\∀j,j<W->cs[i*W+j]? =ys[j]? :=by
 have e:ds=ds.take i++ds[i]::ds.drop (i+1):=by rw [List.getElem_cons_drop,List.take_append_drop]
 rw [e] at h;obtain ⟨c1,c2,F1,F2,rfl,rfl,h1,h2⟩:=WI.split h;simp only [WI] at h2;obtain ⟨c3,c4,F3,F4,rfl,rfl,h3,h4⟩:=h2
 have l1:c1.length=i*W:=by
  rw [h1.len,Zbl (W:=W) _ (fun d hd=>hW d (List.mem_of_mem_take hd)),List.length_take,Nat.min_eq_left (by omega)]
 have l3:c3.length=W:=by rw [h3.len];exact hW _ (List.getElem_mem hi)
 refine ⟨c3,F3,h3,l3,fun b hb=>by simp [hb],fun j hj=> ?_⟩;rw [List.getElem?_append_right (by omega),List.getElem?_append_left (by omega)]
 congr 1;omega
def ZbF (w:World) (v:Value) (es:List D) (F:List Nat):Prop:=Rep w (.sl es) [v] F
theorem ZbF.form {w:World} {v:Value} {es:List D} {F:List Nat} (h:ZbF w v es F):∃A c,v= .slice A es.length c/\es.length<=c/\c<=9223372036854775807:=by
 simp only [ZbF,Rep] at h;obtain ⟨A,c,h1,h2,h3,_⟩:=h;exact ⟨A,c,by simpa using h1,h2,h3⟩
theorem ZbF.at_ {w:World} {A:Option Addr} {n c:Nat} {es:List D} {F:List Nat} {W i:Nat} (h:ZbF w (.slice A n c) es F) (hW:∀d∈es,wd d=W) (hi:i<es.length):
  ∃b off ys Fi,A=some ⟨b,off,none⟩/\b<w.heap.size/\b∈F/\Rep w es[i] ys Fi/\ys.length=W/\(∀x∈Fi,x∈F)/\∀j u,ys[j]? =some u->w.cell? ⟨b,off+i*W+j,none⟩=some u:=by
 simp only [ZbF,Rep] at h;obtain ⟨A',c',h1,h2,h3,h4⟩:=h;have hA:A=A':=by injection h1 with h1;injection h1
 subst hA;rcases h4 with ⟨rfl,_⟩| ⟨b,off,xs,Fs,e1,e2,rfl,e4,e5⟩
 ·simp at hi
 ·obtain ⟨ys,Fi,g1,g2,g3,g4⟩:=e5.get hW hi;refine ⟨b,off,ys,Fi,e1,e2,by simp,g1,g2,fun x hx=>List.mem_cons_of_mem _ (g3 x hx),fun j u hu=>by rw [Nat.add_assoc];exact e4 _ u ((g4 j (by have:=(List.getElem?_eq_some_iff.1 hu).1;omega)).trans hu)⟩
open Go.ChangeShapes Go.WideShapes Go.ChangeAt Go.RowKit Go.Deep
def has (P:Program):Nat->TypeId->D->Prop
 | 0,_,_=>False
 | n+1,t,d=>
  match P.underlying t with
  | some .bool=>∃b,d= .bool b
  | some (.int .i64)=>∃x,d= .int x
  | some (.int .u8)=>∃x,d= .byte x
  | some .string=>∃s,d= .str s
  | some (.slice e)=>∃es,d= .sl es/\∀x∈es,has P n e x
  | some (.struct fs)=>∃ds,d= .agg ds/\ds.length=fs.size/\∀(i:Nat) (f:Field) (x:D),fs[i]? =some f->ds[i]? =some x->has P n f.type x
  | _=>False
def ZnQ (P:Program) (S:List TypeId):Nat->List Field->Bool
 | _,[]=>true
 | off,f::fs=>f.offset==off&&S.contains f.type&&ZnQ P S (off+P.cellsOf f.type) fs
def Zhp (P:Program):List Field->Nat
 | []=>0
 | f::fs=>P.cellsOf f.type+Zhp P fs
def ZtI (P:Program) (S:List TypeId) (t:TypeId):Bool:=
 match P.underlying t with
 | some .bool=>P.cellsOf t==1
 | some (.int .i64)=>P.cellsOf t==1
 | some (.int .u8)=>P.cellsOf t==1
 | some .string=>P.cellsOf t==1
 | some (.slice e)=>P.cellsOf t==1&&S.contains e&&decide (0<P.cellsOf e)
 | some (.struct fs)=>ZnQ P S 0 fs.toList&&P.cellsOf t==Zhp P fs.toList
 | _=>false
section
variable {H:Type} {enc:TypeId×Value->H} {P:Program} {w:World} {spare:Nat->Bool} {held:Bool}
theorem Zhc {w:World} {W:Nat} {f:Nat->List Value} {b off:Nat}:∀(es:List D) (k:Nat),(∀i (h:i<es.length),∃F,Rep w es[i] (f (k+i)) F)->(∀i,i<es.length->(f (k+i)).length=W/\Qr w b (off+(k+i)*W) (f (k+i)))->
  ∃xs F,WI w es xs F/\Qr w b (off+k*W) xs
 | [],_,_,_=>⟨[],[],⟨rfl,rfl⟩,fun j u hu=>by simp at hu⟩
 | e::es,k,h1,h2=>by
  obtain ⟨xs,F,r,c⟩:=Zhc es (k+1) (fun i hi=>by have:=h1 (i+1) (by simpa using hi);simpa [Nat.add_assoc,Nat.add_comm 1 i] using this)
   (fun i hi=>by have:=h2 (i+1) (by simpa using hi);rwa [show k+(i+1)=k+1+i from by omega] at this)
  obtain ⟨F0,r0⟩:=h1 0 (by simp);obtain ⟨l0,c0⟩:=h2 0 (by simp);simp only [Nat.add_zero,List.getElem_cons_zero] at r0 l0 c0;refine ⟨f k++xs,F0++F,⟨_,_,_,_,rfl,rfl,r0,r⟩,fun j u hu=> ?_⟩
  by_cases hj:j<(f k).length
  ·rw [List.getElem?_append_left hj] at hu;exact c0 j u hu
  ·rw [List.getElem?_append_right (by omega)] at hu;have:=c (j-(f k).length) u hu;rw [show off+(k+1)*W+(j-(f k).length)=off+k*W+j from by rw [Nat.add_mul];omega] at this;exact this
theorem Zej {n:Nat} (S:List TypeId) (ih:∀(t:TypeId) (cs:List Value) (x:DataW H×List MemPlace),t∈S->DataW.trod enc P w 0 spare held n t cs=some x->∃d F,Rep w d cs F/\has P n t d):
  ∀(fs:List Field) (off:Nat) (cs:List Value),ZnQ P S off fs=true->cs.length=off+Zhp P fs->(∀f∈fs,∃x,DataW.trod enc P w 0 spare held n f.type ((cs.drop f.offset).take (P.cellsOf f.type))=some x)->
   ∃ds F,WI w ds (cs.drop off) F/\ds.length=fs.length/\∀(i:Nat) (f:Field) (x:D),fs[i]? =some f->ds[i]? =some x->has P n f.type x
 | [],off,cs,_,hl,_=>⟨[],[],by simp only [WI];exact ⟨List.drop_of_length_le (by simp only [Zhp] at hl;omega),trivial⟩,rfl,by simp⟩
 | f::fs,off,cs,hok,hl,hf=>by
  simp only [ZnQ,Zwj,beq_iff_eq] at hok;obtain ⟨⟨h1,h2⟩,h3⟩:=hok;simp only [Zhp] at hl;obtain ⟨x,hx⟩:=hf f (by simp);obtain ⟨d,F,r1,r2⟩:=ih _ _ _ (by simpa using h2) hx;obtain ⟨ds,F',r3,r4,r5⟩:=Zej S ih fs (off+P.cellsOf f.type) cs h3 (by omega) (fun g hg=>hf g (by simp [hg]));refine ⟨d::ds,F++F', ?_,by simp [r4], ?_⟩
  ·simp only [WI];refine ⟨_,_,F,F', ?_,rfl,r1,r3⟩;rw [h1,<-List.drop_drop,List.take_append_drop]
  ·intro i g y hi hy;cases i with
   | zero=>simp at hi hy;subst hi hy;exact r2
   | succ i=>simp at hi hy;exact r5 i g y hi hy
theorem ZcU (S:List TypeId) (hS:S.all (ZtI P S)=true):∀(fuel:Nat) (t:TypeId) (cs:List Value) (x:DataW H×List MemPlace),t∈S->
  DataW.trod enc P w 0 spare held fuel t cs=some x->∃d F,Rep w d cs F/\has P fuel t d
 | 0,_,_,_,_,h=>by simp [DataW.trod] at h
 | n+1,t,cs,x,ht,h=>by
  have hok:=List.all_eq_true.1 hS t ht;unfold ZtI at hok
  split at hok
  ·rename_i hu;obtain ⟨b,rfl,_⟩:=DataW.trod_bool hu h;exact ⟨.bool b,[],⟨rfl,rfl⟩,by simp only [has,hu];exact ⟨b,rfl⟩⟩
  ·rename_i hu;obtain ⟨m,rfl,_,hw⟩:=DataW.trod_int hu h;refine ⟨.int m,[],⟨rfl,rfl, ?_⟩,by simp only [has,hu];exact ⟨m,rfl⟩⟩
   simpa [I64,Lit.wf,IntKind.min,IntKind.max,IntKind.signed,IntKind.bits] using hw
  ·rename_i hu;obtain ⟨m,rfl,_,hw⟩:=DataW.trod_int hu h;refine ⟨.byte m,[],⟨rfl,rfl, ?_⟩,by simp only [has,hu];exact ⟨m,rfl⟩⟩
   simpa [Lit.wf,IntKind.min,IntKind.max,IntKind.signed,IntKind.bits] using hw
  ·rename_i hu;obtain ⟨s,rfl,_,hw⟩:=DataW.trod_string hu h;exact ⟨.str s,[],⟨rfl,rfl,hw⟩,by simp only [has,hu];exact ⟨s,rfl⟩⟩
  ·rename_i e hu;simp only [Zwj,beq_iff_eq,decide_eq_true_eq] at hok;obtain ⟨⟨hc1,hmem⟩,hpos⟩:=hok;have hmem':e∈S:=by simpa using hmem
   rcases DataW.trod_slice hu h with ⟨rfl,_⟩| ⟨⟨b,off,spot⟩,len,cap,elems,rest,n',hn',rfl,_,_,hl,hm,hel,hi,_⟩
   ·exact ⟨.sl [],[],⟨none,0,rfl,by simp,by omega,.inl ⟨rfl,rfl⟩⟩,by simp only [has,hu];exact ⟨[],rfl,by simp⟩⟩
   ·obtain rfl:n=n':=by omega
    simp only [maxLen] at hm;rcases Nat.eq_zero_or_pos len with rfl| hlen
    ·exact ⟨.sl [],[],⟨some ⟨b,off,spot⟩,cap,rfl,by simp,by omega,.inl ⟨rfl,rfl⟩⟩,by simp only [has,hu];exact ⟨[],rfl,by simp⟩⟩
    have key:∀i,i<len->∃y:List Value×D,(∃F,Rep w y.2 y.1 F)/\has P n e y.2/\y.1.length=P.cellsOf e/\∀j,j<P.cellsOf e->w.cell? ((Addr.mk b off spot).add (i*P.cellsOf e) |>.add j)=y.1[j]? :=by
     intro i hil;have h1:=hi i hil;rw [Zwm (by omega)] at h1;obtain ⟨cs',hcs,htr⟩:=Option.bind_eq_some_iff.1 h1;obtain ⟨_,hcl,hat⟩:=World.cells?_some hcs;obtain ⟨d,F,h2,h3⟩:=ZcU S hS n e cs' _ hmem' htr;exact ⟨(cs',d),⟨F,h2⟩,h3,hcl,hat⟩
    have hspot:spot=none:=by
     obtain ⟨y,_,_,hyl,hat⟩:=key 0 hlen;have h0:=hat 0 hpos;rw [Zwm (by omega)] at h0
     simpa [Addr.add] using World.cell?_spot h0
    subst hspot;have:Inhabited (List Value×D):=⟨([],.int 0)⟩;obtain ⟨f,hf⟩:=choose_lt key
    have hcells:∀i,i<len->Qr w b (off+i*P.cellsOf e) (f i).1:=by
     intro i hil j u hu';obtain ⟨_,_,hyl,hat⟩:=hf i hil;have hj:j<P.cellsOf e:=by have:=(List.getElem?_eq_some_iff.1 hu').1;omega
     have h1:=hat j hj;rw [Addr.add_lit,Addr.add_lit] at h1;rw [h1,hu']
    obtain ⟨xs,F,r1,r2⟩:=Zhc (w:=w) (W:=P.cellsOf e) (f:=fun i=>(f i).1) (b:=b) (off:=off) ((List.range len).map fun i=>(f i).2) 0
     (fun i hil=>by
      simp only [List.length_map,List.length_range] at hil
      simpa using (hf i hil).1)
     (fun i hil=>by
      simp only [List.length_map,List.length_range] at hil;simp only [Nat.zero_add];exact ⟨(hf i hil).2.2.1,hcells i hil⟩)
    have hb:b<w.heap.size:=by
     obtain ⟨_,_,hyl,hat⟩:=hf 0 hlen;have h0:=hat 0 hpos;rw [Zwm (by omega)] at h0;have:=World.block_lt_of_cell? w _ h0
     simpa [Addr.add] using this
    refine ⟨.sl ((List.range len).map fun i=>(f i).2),b::F, ?_, ?_⟩
    ·simp only [Rep];refine ⟨some ⟨b,off,none⟩,cap,by simp [Value.cells],by simpa using hl,by omega,.inr ⟨b,off,xs,F,rfl,hb,rfl,by simpa using r2,r1⟩⟩
    ·simp only [has,hu];refine ⟨_,rfl,fun y hy=> ?_⟩;obtain ⟨i,hi',rfl⟩:=List.mem_map.1 hy;exact (hf i (by simpa using hi')).2.1
  ·rename_i fs hu;simp only [Zwj,beq_iff_eq] at hok;obtain ⟨hlay,hsum⟩:=hok;obtain ⟨xs,n',hn',_,hlen,hxl,hg⟩:=DataW.trod_struct hu h;obtain rfl:n=n':=by omega
   obtain ⟨ds,F,r1,r2,r3⟩:=Zej S (fun t cs x h1 h2=>ZcU S hS n t cs x h1 h2) fs.toList 0 cs hlay (by omega) (fun f hf=>by
    obtain ⟨i,hi,rfl⟩:=List.getElem_of_mem hf;have h1:=hg i fs.toList[i] (by rw [Array.getElem?_eq_getElem (by simpa using hi)];simp);rw [Zwm (by simp at hi;omega)] at h1;exact ⟨_,h1⟩)
   refine ⟨.agg ds,F,by simp only [Rep];simpa using r1, ?_⟩;simp only [has,hu];exact ⟨ds,rfl,by simpa using r2,fun i f x h1 h2=>r3 i f x (by simpa using h1) h2⟩
  ·cases hok
end
mutual
def fl:D->List L
 | .int n=>[.int .i64 n]
 | .byte n=>[.int .u8 n]
 | .bool b=>[.bool b]
 | .str s=>[.str s]
 | .agg fs=>flL fs
 | .sl es=>[.sl (flE es)]
def flL:List D->List L
 | []=>[]
 | d::ds=>fl d++flL ds
def flE:List D->List (List L)
 | []=>[]
 | d::ds=>fl d::flE ds
end
theorem Zc5:∀ds:List D,(flE ds).length=ds.length
 | []=>by simp [flE]
 | d::ds=>by simp [flE,Zc5 ds]
theorem ZiP {α:Type} (f:α->D):∀xs:List α,flE (xs.map f)=xs.map fun x=>fl (f x)
 | []=>by simp [flE]
 | x::xs=>by simp [flE,ZiP f xs]
theorem Zfj {w:World}:∀{xs ys:List L} {v1 v2:List Value} {F1 F2:List Nat},RpL w xs v1 F1->RpL w ys v2 F2->RpL w (xs++ys) (v1++v2) (F1++F2)
 | [],_,_,_,_,_,h,k=>by simp only [RpL] at h;obtain ⟨rfl,rfl⟩:=h;simpa using k
 | x::xs,_,_,_,_,_,h,k=>by
  simp only [RpL] at h;obtain ⟨v,vs',G1,G2,rfl,rfl,h1,h2⟩:=h;simp only [List.cons_append,RpL];exact ⟨v,_,G1,_,rfl,by simp,h1,Zfj h2 k⟩
theorem Zg9 {w:World}:∀{xs ys:List L} {vs:List Value} {F:List Nat},RpL w (xs++ys) vs F->∃v1 v2 F1 F2,vs=v1++v2/\F=F1++F2/\RpL w xs v1 F1/\RpL w ys v2 F2
 | [],_,vs,F,h=>⟨[],vs,[],F,rfl,rfl,by simp [RpL],h⟩
 | x::xs,_,_,_,h=>by
  simp only [List.cons_append,RpL] at h;obtain ⟨v,vs',G1,G2,rfl,rfl,h1,h2⟩:=h;obtain ⟨v1,v2,F1,F2,rfl,rfl,h3,h4⟩:=Zg9 h2;exact ⟨v::v1,v2,G1++F1,F2,rfl,by simp,by simp only [RpL];exact ⟨v,v1,G1,F1,rfl,rfl,h1,h3⟩,h4⟩
theorem ZcP {w:World} {x:L} {vs:List Value} {F:List Nat}:RpL w [x] vs F↔∃v,vs=[v]/\Rp w x v F:=by
 simp only [RpL];constructor
 ·rintro ⟨v,vs',F1,F2,rfl,rfl,h1,rfl,rfl⟩;exact ⟨v,rfl,by simpa using h1⟩
 ·rintro ⟨v,rfl,h⟩;exact ⟨v,[],F,[],rfl,by simp,h,rfl,rfl⟩
theorem ZdU {n:Int}:InK .i64 n↔I64 n:=Am.Kk n
mutual
theorem Zdm {w:World}:∀{d:D} {cs:List Value} {F:List Nat},Rep w d cs F↔RpL w (fl d) cs F
 | .int n,cs,F=>by simp only [Rep,fl,ZcP,Rp,ZdU];constructor;(rintro ⟨rfl,h⟩;exact ⟨_,rfl,rfl,h⟩);(rintro ⟨v,rfl,rfl,h⟩;exact ⟨rfl,h⟩)
 | .byte n,cs,F=>by simp only [Rep,fl,ZcP,Rp,ZoK];constructor;(rintro ⟨rfl,h⟩;exact ⟨_,rfl,rfl,h⟩);(rintro ⟨v,rfl,rfl,h⟩;exact ⟨rfl,h⟩)
 | .bool n,cs,F=>by simp only [Rep,fl,ZcP,Rp];constructor;(rintro ⟨rfl,h⟩;exact ⟨_,rfl,rfl,h⟩);(rintro ⟨v,rfl,rfl,h⟩;exact ⟨rfl,h⟩)
 | .str n,cs,F=>by simp only [Rep,fl,ZcP,Rp,Fit];constructor;(rintro ⟨rfl,h⟩;exact ⟨_,rfl,rfl,h⟩);(rintro ⟨v,rfl,rfl,h⟩;exact ⟨rfl,h⟩)
 | .agg fs,cs,F=>by simp only [Rep,fl];exact Zin
 | .sl es,cs,F=>by
  simp only [Rep,fl,ZcP,Rp,Zc5];constructor
  ·rintro ⟨A,c,rfl,h1,h2,⟨rfl,rfl⟩| ⟨b,off,xs,Fs,e1,e2,e3,e4,e5⟩⟩
   ·exact ⟨_,rfl,A,c,rfl,h1,h2,.inl ⟨by simp [flE],rfl⟩⟩
   ·exact ⟨_,rfl,A,c,rfl,h1,h2,.inr ⟨b,off,xs,Fs,e1,e2,e3,e4,Zf5.1 e5⟩⟩
  ·rintro ⟨v,rfl,A,c,rfl,h1,h2,⟨h3,rfl⟩| ⟨b,off,xs,Fs,e1,e2,e3,e4,e5⟩⟩
   ·refine ⟨A,c,rfl,h1,h2,.inl ⟨?_,rfl⟩⟩;have:=Zc5 es;rw [h3] at this
    simpa using this.symm
   ·exact ⟨A,c,rfl,h1,h2,.inr ⟨b,off,xs,Fs,e1,e2,e3,e4,Zf5.2 e5⟩⟩
theorem Zin {w:World}:∀{ds:List D} {cs:List Value} {F:List Nat},WI w ds cs F↔RpL w (flL ds) cs F
 | [],cs,F=>by simp only [WI,flL,RpL]
 | d::ds,cs,F=>by
  simp only [WI,flL];constructor
  ·rintro ⟨c1,c2,F1,F2,rfl,rfl,h1,h2⟩;exact Zfj (Zdm.1 h1) (Zin.1 h2)
  ·intro h;obtain ⟨c1,c2,F1,F2,rfl,rfl,h1,h2⟩:=Zg9 h;exact ⟨c1,c2,F1,F2,rfl,rfl,Zdm.2 h1,Zin.2 h2⟩
theorem Zf5 {w:World}:∀{ds:List D} {cs:List Value} {F:List Nat},WI w ds cs F↔RpE w (flE ds) cs F
 | [],cs,F=>by simp only [WI,flE,RpE]
 | d::ds,cs,F=>by
  simp only [WI,flE,RpE];constructor
  ·rintro ⟨c1,c2,F1,F2,rfl,rfl,h1,h2⟩;exact ⟨c1,c2,F1,F2,rfl,rfl,Zdm.1 h1,Zf5.1 h2⟩
  ·rintro ⟨c1,c2,F1,F2,rfl,rfl,h1,h2⟩;exact ⟨c1,c2,F1,F2,rfl,rfl,Zdm.2 h1,Zf5.2 h2⟩
end
theorem ZkM {α:Type} {c:α->List L} (es:List D) (h:∀x∈es,∃y:α,fl x=c y):∃ys:List α,flE es=ys.map c:=by
 induction es with
 | nil=>exact ⟨[],rfl⟩
 | cons e es ih=>
  obtain ⟨y,hy⟩:=h e (by simp);obtain ⟨ys,hys⟩:=ih (fun x hx=>h x (by simp [hx]));exact ⟨y::ys,by simp only [flE,List.map_cons,hy,hys]⟩
theorem Zmr {P:Program} {n t e:Nat} {α:Type} {c:α->List L} {d:D} (hu:P.underlying t=some (.slice e)) (hi:∀m,m<n->∀x,has P m e x->∃y:α,fl x=c y) (h:has P n t d):∃ys:List α,fl d=[.sl (ys.map c)]:=by
 cases n with
 | zero=>exact h.elim
 | succ n=>
  simp only [has,hu] at h;obtain ⟨es,rfl,hf⟩:=h;obtain ⟨ys,hys⟩:=ZkM (c:=c) es fun x hx=>hi n (by omega) x (hf x hx);exact ⟨ys,by simp only [fl,hys]⟩
theorem Zgr {P:Program} {n t:Nat} {d:D} (hu:P.underlying t=some (.int .i64)) (h:has P n t d):∃y:Int,fl d=[.int .i64 y]:=by
 cases n with
 | zero=>exact h.elim
 | succ n=>
  simp only [has,hu] at h;obtain ⟨y,rfl⟩:=h;exact ⟨y,by simp only [fl]⟩
theorem Zmq {P:Program} {n t:Nat} {d:D} (hu:P.underlying t=some .string) (h:has P n t d):∃y:ByteArray,fl d=[.str y]:=by
 cases n with
 | zero=>exact h.elim
 | succ n=>
  simp only [has,hu] at h;obtain ⟨y,rfl⟩:=h;exact ⟨y,by simp only [fl]⟩
theorem Zn0 {w:World} {d:DV} {ds:List DV} {v:Value} {vs:List Value} {F G:List Nat} (h:U5 w d v F) (k:Yo w ds vs G):Yo w (d::ds) (v::vs) (F++G):=⟨v,vs,F,G,rfl,rfl,h,k⟩
theorem Zqk {w:World}:Yo w [] [] []:=⟨rfl,rfl⟩
theorem Zhy {w:World} {ls:List L} {cl:List Value} {F:List Nat} (h:RpL w ls cl F):U5 w (.agg ls) (.agg ⟨cl⟩) F:=⟨cl,rfl,h⟩
theorem ZnR {P:Program} {f:Nat} {ds:List DV} {vs:List Value} {W:World} {FA:List Nat} (hc:Ctr P f ds true [.one (.bool true)]) (hg:∃G,Glb W G) (hd:Yo W ds vs FA):
  Calls P f vs.toArray W fun e w'=>e= .returned (.bool true)/\Below W.heap.size W w':=by
 refine (hc.2 W vs FA hg hd).mono fun e w' ⟨us,he,hr,hb⟩=> ?_;simp only [Zan,if_true,ZaY,ZkN,Ow] at hr;obtain ⟨F,⟨v,vs',F1,F2,rfl,rfl,⟨rfl,_⟩,rfl,_⟩,_⟩:=hr;exact ⟨he,hb⟩
end Go.Proofs.YtbkllghhcphkaaaGreatDoor
