import Derived.Test.YtpblakfidofgfaaGreatDoorZPkB
import Derived.Deep.Draws
import Derived.ProofKit
import Derived.OpenShut
import Derived.ShutString
import Derived.ChangeOld
import Derived.Deep.Slices
import Derived.Deep.Fields
set_option linter.unusedSimpArgs false
set_option linter.unusedVariables false
namespace Go.Proofs.YtpblakfidofgfaaGreatDoor.Am
open Go.RowKit
section
variable (P:Program) (ops:Array Oper) (O0:St) (K:St->Prop) (B:List (List Nat))
def ZdB:List (List Nat)->List Oper->Nat->List (Nat×Eff)->Prop
 | A::As,o::rest,i,es=>match o.guard with
  | none=>match Xg o.op with
   | some (f,xs)=>match (Xs (view O0 es A) xs).bind (WK (view O0 es A)) with
    | some (ds,pu,p)=>p/\((∃fr dp rs,Ctr P f ds fr rs/\(fr=false->pu=true)/\(match Qq (view O0 es A) o.dst fr dp rs with | some g=>g.side/\ZdB As rest (i+1) ((i,g)::es)| none=>False))\/XBy P (view O0 es A) o.dst f (Xs (view O0 es A) xs) fun g=>ZdB As rest (i+1) ((i,g)::es))
    | none=>XBy P (view O0 es A) o.dst f (Xs (view O0 es A) xs) fun g=>ZdB As rest (i+1) ((i,g)::es)
   | none=>match JL P (view O0 es A) o with | some g=>g.side/\ZdB As rest (i+1) ((i,g)::es)| none=>HBy P (view O0 es A) o fun g=>ZdB As rest (i+1) ((i,g)::es)
  | some (j,want)=>match yld (view O0 es A) ops j want with
   | some b=>if b=want then match Xg o.op with
     | some (f,xs)=>match (Xs (view O0 es A) xs).bind (WK (view O0 es A)) with
      | some (ds,pu,p)=>p/\((∃fr dp rs,Ctr P f ds fr rs/\(fr=false->pu=true)/\(match Qq (view O0 es A) o.dst fr dp rs with | some g=>g.side/\ZdB As rest (i+1) ((i,g)::es)| none=>False))\/XBy P (view O0 es A) o.dst f (Xs (view O0 es A) xs) fun g=>ZdB As rest (i+1) ((i,g)::es))
      | none=>XBy P (view O0 es A) o.dst f (Xs (view O0 es A) xs) fun g=>ZdB As rest (i+1) ((i,g)::es)
     | none=>match JL P (view O0 es A) o with | some g=>g.side/\ZdB As rest (i+1) ((i,g)::es)| none=>HBy P (view O0 es A) o fun g=>ZdB As rest (i+1) ((i,g)::es)
    else ZdB As rest (i+1) ((i,⟨True,match o.dst with | some d=>[(d,.dead)]| none=>[],[],[]⟩)::es)
   | none=>False
 | _,[],_,es=>dOk O0 B es=true/\K (Zcq O0 es)
 | _,_,_,_=>False
def Zm6 (As:List (List Nat)) (rest:List Oper) (i:Nat) (es:List (Nat×Eff)):Option Eff->Prop
 | some g=>g.side/\ZdB P ops O0 K B As rest (i+1) ((i,g)::es)
 | none=>False
def Zl2 (As:List (List Nat)) (o:Oper) (rest:List Oper) (i:Nat) (es:List (Nat×Eff)) (O:St):Option Eff->Prop
 | some g=>g.side/\ZdB P ops O0 K B As rest (i+1) ((i,g)::es)
 | none=>HBy P O o fun g=>ZdB P ops O0 K B As rest (i+1) ((i,g)::es)
def Zo7 (As:List (List Nat)) (o:Oper) (rest:List Oper) (i:Nat) (es:List (Nat×Eff)) (O:St) (f:Nat) (vs:Option (List V)):Option (List DV×Bool×Prop)->Prop
 | some (ds,pu,p)=>p/\((∃fr dp rs,Ctr P f ds fr rs/\(fr=false->pu=true)/\Zm6 P ops O0 K B As rest i es (Qq O o.dst fr dp rs))\/XBy P O o.dst f vs fun g=>ZdB P ops O0 K B As rest (i+1) ((i,g)::es))
 | none=>XBy P O o.dst f vs fun g=>ZdB P ops O0 K B As rest (i+1) ((i,g)::es)
def Zra (As:List (List Nat)) (o:Oper) (rest:List Oper) (i:Nat) (es:List (Nat×Eff)) (O:St):Option (Nat×List Operand)->Prop
 | some (f,xs)=>Zo7 P ops O0 K B As o rest i es O f (Xs O xs) ((Xs O xs).bind (WK O))
 | none=>Zl2 P ops O0 K B As o rest i es O (JL P O o)
def Zl3 (As:List (List Nat)) (o:Oper) (rest:List Oper) (i:Nat) (es:List (Nat×Eff)) (O:St) (want:Bool):Option Bool->Prop
 | some b=>if b=want then Zra P ops O0 K B As o rest i es O (Xg o.op) else ZdB P ops O0 K B As rest (i+1) ((i,⟨True,match o.dst with | some d=>[(d,.dead)]| none=>[],[],[]⟩)::es)
 | none=>False
end
section
variable {P:Program} {ops:Array Oper} {O0:St} {K:St->Prop} {B:List (List Nat)}
theorem Zoi (As:List (List Nat)) (i:Nat) (es:List (Nat×Eff)):ZdB P ops O0 K B As [] i es=(dOk O0 B es=true/\K (Zcq O0 es)):=by cases As<;>rfl
theorem Zjw (A:List Nat) (As:List (List Nat)) (rest:List Oper) (i:Nat) (es:List (Nat×Eff)) (d:Option Nat) (op:Op) (ty:Nat) (pos:String) (af:Array Edge):
  ZdB P ops O0 K B (A::As) (⟨d,op,ty,pos,af,none⟩::rest) i es=Zra P ops O0 K B As ⟨d,op,ty,pos,af,none⟩ rest i es (view O0 es A) (Xg op):=by
 rw [ZdB];simp only [Zra,Zo7,Zm6,Zl2]
theorem Zjx (A:List Nat) (As:List (List Nat)) (rest:List Oper) (i:Nat) (es:List (Nat×Eff)) (d:Option Nat) (op:Op) (ty:Nat) (pos:String) (af:Array Edge) (j:Nat) (want:Bool):
  ZdB P ops O0 K B (A::As) (⟨d,op,ty,pos,af,some (j,want)⟩::rest) i es=Zl3 P ops O0 K B As ⟨d,op,ty,pos,af,some (j,want)⟩ rest i es (view O0 es A) want (yld (view O0 es A) ops j want):=by
 rw [ZdB];simp only [Zl3,Zra,Zo7,Zm6,Zl2]
theorem ZaM:∀{As:List (List Nat)} {l:List Oper} {i:Nat} {es:List (Nat×Eff)},ZdB P ops O0 K B As l i es->Znf P ops O0 K B As l i es
 | As,[],i,es,h=>by rw [Zoi] at h;exact Zog As i es h.1 h.2
 | [],o::l,i,es,h=>by unfold ZdB at h;exact h.elim
 | A::As,⟨d,op,ty,pos,af,gd⟩::l,i,es,h=>by
  have run:∀gd,Zra P ops O0 K B As ⟨d,op,ty,pos,af,gd⟩ l i es (view O0 es A) (Xg op)->Zux P ops O0 K B As ⟨d,op,ty,pos,af,gd⟩ l i es (view O0 es A) (Xg op):=by
   intro gd hr
   have nx:∀g,Zm6 P ops O0 K B As l i es g->ZrV P ops O0 K B As l i es g:=by
    intro g hg;cases g with
    | none=>exact hg
    | some g=>exact ⟨hg.1,ZaM hg.2⟩
   unfold Zra at hr;unfold Zux;cases hc:Xg op with
   | none=>
    rw [hc] at hr;simp only at hr ⊢;cases hg:JL P (view O0 es A) ⟨d,op,ty,pos,af,gd⟩ with
    | none=>rw [hg] at hr;obtain ⟨g,ho,hz⟩:=hr;exact ⟨g,ho,ZaM hz⟩
    | some g=>rw [hg] at hr;exact ⟨hr.1,ZaM hr.2⟩
   | some p=>
    obtain ⟨f,xs⟩:=p;rw [hc] at hr;simp only at hr ⊢;cases hd:(Xs (view O0 es A) xs).bind (WK (view O0 es A)) with
    | none=>
     rw [hd] at hr;obtain ⟨vs,g,hvs,hx,hg⟩:=hr;exact ⟨vs,g,hvs,hx,ZaM hg⟩
    | some r=>
     obtain ⟨ds,pu,p⟩:=r;rw [hd] at hr;obtain ⟨h1,⟨fr,dp,rs,h2,h3,h4⟩| ⟨vs,g,hvs,hx,hg⟩⟩:=hr
     ·exact ⟨h1,.inl ⟨fr,dp,rs,h2,h3,nx _ h4⟩⟩
     ·exact ⟨h1,.inr ⟨vs,g,hvs,hx,ZaM hg⟩⟩
  cases gd with
  | none=>rw [Zjw] at h;exact Zo9 A As l i es d op ty pos af (run _ h)
  | some p=>
   obtain ⟨j,want⟩:=p;rw [Zjx] at h;refine Zpa A As l i es d op ty pos af j want ?_;cases hy:yld (view O0 es A) ops j want with
   | none=>rw [hy] at h;exact h
   | some b=>
    rw [hy] at h;simp only [Zl3] at h;simp only [ZqJ]
    split
    ·rename_i hb;rw [if_pos hb] at h;exact run _ h
    ·rename_i hb;rw [if_neg hb] at h;exact ⟨trivial,ZaM h⟩
theorem Zgb {N:Nat->Prop} {w0:Bs} {Q:Exit->St->Prop} {id:Nat} {l:List Oper} (A:List (List Nat)) (hm:P.follows .mixedOrders=true) (hd:Za4 l A=true) (h:ZdB P l.toArray O0 (fun O'=>Q .normal O') A A l 0 []):AW P N w0 (.region id l.toArray true) Q O0:=
 Zq6 A hm hd (ZaM h)
end
section
variable {P:Program} {N:Nat->Prop} {w0:Bs} {Q:Exit->St->Prop} {c:Code} {O:St}
def Ok:L->Prop
 | .int k n=>InK k n
 | .bool _=>True
 | .str s=>Fit s
 | .sl es=>es.length<=9223372036854775807
 | .void=>True
theorem Rp.ok {w:World} {x:L} {v:Value} {F:List Nat} (h:Rp w x v F):Ok x:=by
 cases x<;>simp only [Rp] at h
 ·exact h.2.2
 ·trivial
 ·exact h.2.2
 ·obtain ⟨A,c,h1,h2,h3,_⟩:=h;show _<=_;omega
 ·trivial
def OkE (es:List (List L)):Prop:=∀e∈es,∀x∈e,Ok x
theorem RpL.ok {w:World}:∀{xs:List L} {vs:List Value} {F:List Nat},RpL w xs vs F->∀x∈xs,Ok x
 | [],_,_,_=>by simp
 | x::xs,_,_,h=>by
  simp only [RpL] at h;obtain ⟨v,vs',F1,F2,rfl,rfl,h1,h2⟩:=h;intro y hy;rcases List.mem_cons.1 hy with rfl| hy
  ·exact h1.ok
  ·exact RpL.ok h2 y hy
theorem RpE.ok {w:World}:∀{xs:List (List L)} {vs:List Value} {F:List Nat},RpE w xs vs F->OkE xs
 | [],_,_,_=>by simp [OkE]
 | x::xs,_,_,h=>by
  simp only [RpE] at h;obtain ⟨v1,v2,F1,F2,rfl,rfl,h1,h2⟩:=h;intro y hy;rcases List.mem_cons.1 hy with rfl| hy
  ·exact h1.ok
  ·exact RpE.ok h2 y hy
end
structure Chg (F:List Nat) (w w':World):Prop where
 os:w'.os=w.os
 tape:w'.tape=w.tape
 output:w'.output=w.output
 size:w.heap.size<=w'.heap.size
 block:∀b,b<w.heap.size->b∉F->w'.heap[b]? =w.heap[b]?
def Zwa (w:World) (b:Nat):Prop:=∃cur t,w.heap[b]? =some (.cells cur t (0,0))
def ZzF (P:Program) (f:Nat) (d:DV) (k:Int) (d':DV) (k':Int):Prop:=
 X0 P f=true/\∀(w:World) (v:Value) (F:List Nat),Zcl w d v F->F.Nodup->(∀b∈F,Zwa w b)->
  Calls P f #[v,.int .i64 k] w fun e w'=>e= .returned (.int .i64 k')/\InK .i64 k'/\Zcl w' d' v F/\Chg F w w'
def wrC (O:St):CV->Option (L×List Nat×Prop)
 | .l x=>if x.flat then some (x,[],True) else none
 | .nil=>some (.sl [],[],True)
 | .own τ n=>match O.ar.lookup τ with
  | some (some A)=>if A.fr=true/\1000000<=τ then some (.sl A.es,[τ],A.es.length=n) else none
  | _=>none
 | _=>none
def wrL (O:St):List CV->Option (List L×List Nat×Prop)
 | []=>some ([],[],True)
 | c::cs=>match wrC O c,wrL O cs with
  | some (x,τ,p),some (xs,τs,q)=>some (x::xs,τ++τs,p/\q)
  | _,_=>none
def wrV (O:St):V->Option (DV×List Nat×Prop)
 | .one c=>(wrC O c).map fun r=>(.one r.1,r.2)
 | .agg cs=>(wrL O cs).map fun r=>(.agg r.1,r.2)
 | _=>none
def Zwl:List CV->List L->List (Nat×List (List L))
 | .own τ _::cs,.sl es::xs=>(τ,es)::Zwl cs xs
 | _::cs,_::xs=>Zwl cs xs
 | _,_=>[]
def ZyB:V->DV->List (Nat×List (List L))
 | .one c,.one x=>Zwl [c] [x]
 | .agg cs,.agg xs=>Zwl cs xs
 | _,_=>[]
def mkC (m:List (Nat×List (List L))):CV->CV
 | .own τ n=>match m.lookup τ with
  | some es=>if es.length=n then .l (.sl es) else .own τ n
  | none=>.own τ n
 | c=>c
def mkV (m:List (Nat×List (List L))):V->V
 | .one c=>.one (mkC m c)
 | .agg cs=>.agg (cs.map (mkC m))
 | .tup ps=>.tup (ps.map fun p=>(p.1,p.2.map (mkC m)))
 | .dead=>.dead
def St.wrote (O:St) (m:List (Nat×List (List L))):St:=
 ⟨O.nt,O.tm.map (fun p=>(p.1,mkV m p.2)),O.bx.map (fun p=>(p.1,p.2.map (mkC m))),m.map (fun p=>(p.1,none))++O.ar⟩
section
variable {e:Env} {O:St} {w:World} {N:Nat->Prop} {w0:Bs} {a:Act} {P:Program}
theorem ZcI {α β:Type} (g:α->β):∀(l:List (Nat×α)) (k:Nat),(l.map fun p=>(p.1,g p.2)).lookup k=(l.lookup k).map g
 | [],_=>rfl
 | (j,x)::l,k=>by
  simp only [List.map_cons,lookup_cons,ZcI g l k]
  by_cases h:k=j<;>simp [h]
theorem RpL.at:∀{xs:List L} {vs:List Value} {F:List Nat},RpL w xs vs F->∀{i:Nat} {x:L},xs[i]? =some x->∃v G,vs[i]? =some v/\Rp w x v G/\∀b∈G,b∈F
 | x::xs,vs,F,h,i,y,hi=>by
  simp only [RpL] at h;obtain ⟨v,vs',F1,F2,rfl,rfl,h1,h2⟩:=h;cases i with
  | zero=>simp at hi;subst hi;exact ⟨v,F1,rfl,h1,fun b hb=>by simp [hb]⟩
  | succ i=>
   obtain ⟨u,G,g1,g2,g3⟩:=RpL.at h2 (i:=i) (by simpa using hi);exact ⟨u,G,by simpa using g1,g2,fun b hb=>by simp [g3 b hb]⟩
end
def ZzC (O:St) (τs:List Nat) (m:List (Nat×List (List L))):Prop:= (∀τ∈τs,∃A es,O.ar.lookup τ=some (some A)/\m.lookup τ=some es/\A.es.length=es.length)/\∀p∈m,p.1∈τs
def ZsM (O:St) (d:Nat) (k:Int) (m:List (Nat×List (List L))):St:= ⟨(O.wrote m).nt,(d,.one (.l (.int .i64 k)))::(O.wrote m).tm,(O.wrote m).bx,(O.wrote m).ar⟩
def wOp (P:Program) (ops:Array Oper) (post:List Oper) (O:St) (K:St->Prop) (d f:Nat) (x:V) (k:Int):Option (DV×List Nat×Prop)->Prop
 | some (dv,τs,p)=>p/\τs.Nodup/\d<O.nt/\∃d' k',ZzF P f dv k d' k'/\ZzC O τs (ZyB x d')/\ZW P ops post (ZsM O d k' (ZyB x d')) K
 | none=>False
def ZwA (P:Program) (ops:Array Oper) (post:List Oper) (O:St) (K:St->Prop) (d f:Nat):Option (List V)->Prop
 | some [x,.one (.l (.int .i64 k))]=>wOp P ops post O K d f x k (wrV O x)
 | _=>False
def ZyV (P:Program) (ops:Array Oper) (O:St) (K:St->Prop):List Oper->Prop
 | ⟨some d,.call { callee:=.value (.func f),args:=xs,argTypes:=_},_,_,_,none⟩::post=>ZwA P ops post O K d f (Xs O xs.toList)
 | _=>False
section
variable {e:Env} {O:St} {w:World} {N:Nat->Prop} {w0:Bs} {a:Act} {P:Program} {ops:Array Oper}
theorem Zd3 {Q:Exit->Act->World->Prop} {tail:List Oper}:∀{l:List Oper} {O:St} {K:St->Prop},ZW P ops l O K->∀{a:Act} {w:World},Sim N w0 O a w->(∀O' a' w',K O'->Sim N w0 O' a' w'->wpList P ops Q tail a' w')->wpList P ops Q (l++tail) a w
 | [],O,K,h,a,w,hs,hQ=>hQ _ _ _ (by simpa [ZcT] using h) hs
 | ⟨d,op,ty,pos,af,gd⟩::rest,O,K,h,a,w,⟨e,hs⟩,hQ=>by
  have run:Zni P ops ⟨d,op,ty,pos,af,gd⟩ rest O K (Xg op)->∀K':Act->World->Prop,(∀a w,wpList P ops Q (rest++tail) a w->K' a w)->(Oper.mk d op ty pos af gd).wp P a w K' Q:=by
   intro hr K' hK'
   have fin:∀g:Eff,Ev P O ⟨d,op,ty,pos,af,gd⟩ g->ZW P ops rest (O.app g) K->(Oper.mk d op ty pos af gd).wp P a w K' Q:=
    fun g hev hrest=>hev.sound hs fun a' w' hs'=>hK' _ _ (Zd3 hrest hs' hQ)
   unfold Zni at hr
   split at hr
   ·rename_i f xs hc;unfold ZkI at hr
    split at hr
    ·rename_i ds pu p hd;obtain ⟨hp,⟨fr,dp,rs,h5,h6,h7⟩| ⟨vs,g,hvs,hx,hg⟩⟩:=hr
     ·unfold ZkH at h7
      split at h7
      ·rename_i g hg;obtain ⟨vs,hvs,hd⟩:=Option.bind_eq_some_iff.1 hd;exact fin g (.call f xs vs ds pu p fr dp rs g hc hvs hd hp h5 h6 hg) h7.2
      ·exact h7.elim
     ·exact fin g (.xcall f xs vs g hc hvs hx) hg
    ·obtain ⟨vs,g,hvs,hx,hg⟩:=hr;exact fin g (.xcall f xs vs g hc hvs hx) hg
   ·unfold ZiC at hr
    split at hr
    ·rename_i g hg;exact fin g (.step g hg hr.1) hr.2
    ·obtain ⟨g,hg,hr⟩:=hr;exact fin g (.hand g hg) hr
  refine wpList_step fun K' hK'=> ?_;cases gd with
  | none=>
   rw [J3] at h;simp only [Region.wanted,if_true];exact run h K' hK'
  | some g=>
   obtain ⟨j,want⟩:=g;rw [J4] at h;unfold WL at h
   split at h
   ·rename_i b hy;have hy':=Zd8 hs hy
    by_cases hb:b=want
    ·have:Region.wanted (Oper.mk d op ty pos af (some (j,want))) (yielded ops a.tmps)=true:=by
      show (yielded ops a.tmps j==some want)=true;rw [hy'];simp [hb]
     rw [if_pos this];exact run (h.1 hb) K' hK'
    ·have:Region.wanted (Oper.mk d op ty pos af (some (j,want))) (yielded ops a.tmps)=false:=by
      show (yielded ops a.tmps j==some want)=false;rw [hy'];simp [hb]
     rw [if_neg (by simp [this])];exact hK' _ _ (Zd3 (h.2 (by cases b<;>cases want<;>simp_all)) ⟨e,hs.kill d⟩ hQ)
   ·exact h.elim
end
def Zw7 (ls:List L):Option (List L×Bool×Prop)->Prop
 | some (xs,pu,p)=>p/\pu=true/\xs=ls
 | none=>False
def Zvf (O:St) (k:Nat) (ls:List L):Prop:=Zw7 ls ((O.bx.lookup k).bind (ZkW O))
def Zwj (P:Program) (rv:Array ResultVar) (fr:Bool) (rs:List DV) (nt k:Nat) (ls:List L) (O:St):Prop:=O.nt=nt/\ZmF P rv fr rs O/\Zvf O k ls
def ZvK (P:Program) (rv:Array ResultVar) (fr:Bool) (rs:List DV) (nt k:Nat) (ls:List L):Exit->St->Prop
 | .normal,O=>Zwj P rv fr rs nt k ls O
 | .ret,O=>Zwj P rv fr rs nt k ls O
 | _,_=>False
def Zve (P:Program) (rv:Array ResultVar) (cs:List L) (O:St):Prop:=
 match Ze3 P O rv.toList with
 | some [.one (.box k 0)]=>Zvf O k cs
 | _=>False
def ZxH (P:Program) (rv:Array ResultVar) (cs:List L):Exit->St->Prop
 | .normal,O=>Zve P rv cs O
 | .ret,O=>Zve P rv cs O
 | _,_=>False
section
variable {e:Env} {O:St} {w:World} {N:Nat->Prop} {w0:Bs} {a:Act} {P:Program}
theorem Zoq {c:CV} {v:Value} (h:c.rel e O w v) {x:L} {f:Bool} {τs:List Nat} {p:Prop} (ha:Zpq O c=some (x,f,τs,p)) (hp:p) (hf:f=true) {b:Nat} (hb:v.ownBlock=some b):Mut e O b:=by
 unfold Zpq at ha
 split at ha
 ·simp only [ZAb,ZAc] at ha;obtain ⟨rfl,rfl,rfl,rfl⟩:=ha;obtain ⟨F,h1,h2⟩:=h;rename_i x;cases x with
  | sl es=>simp [L.flat] at hf
  | void=>simp [L.flat] at hf
  | _=>simp only [Rp] at h1;rw [h1.1] at hb;simp [Value.ownBlock] at hb
 ·have hv:v= .slice none 0 0:=h;rw [hv] at hb;simp [Value.ownBlock] at hb
 ·rename_i τ n
  split at ha
  ·rename_i A hA
   split at ha
   ·simp only [ZAb,ZAc] at ha;obtain ⟨rfl,rfl,rfl,rfl⟩:=ha;obtain ⟨A',hA',h1,_⟩:=h;rw [hA] at hA';obtain rfl:=Zz9 hA';have hv:=(h1 A rfl).2 hp;subst hv;exact .inr (.inr ⟨τ,A,hA,hb⟩)
   ·cases ha
  ·cases ha
 ·cases ha
theorem Zoo:∀{cs:List CV} {vs:List Value},Z6 e O w cs vs->∀{xs:List L} {f:Bool} {τs:List Nat} {p:Prop},ZiY O cs=some (xs,f,τs,p)->p->f=true->∀v∈vs,∀b,v.ownBlock=some b->Mut e O b
 | [],vs,hr,xs,f,τs,p,ha,hp,hf=>by simp only [Z6] at hr;simp [hr]
 | c::cs,vs,hr,xs,f,τs,p,ha,hp,hf=>by
  simp only [Z6] at hr;obtain ⟨v,vs',rfl,h1,h2⟩:=hr;simp only [ZiY] at ha
  split at ha
  ·rename_i e1 e2;simp only [ZAb,ZAc] at ha;obtain ⟨_,rfl,_,rfl⟩:=ha;simp only [ZAd] at hf;intro u hu b hb;rcases List.mem_cons.1 hu with rfl| hu
   ·exact Zoq h1 e1 hp.1 hf.1 hb
   ·exact Zoo h2 e2 hp.2 hf.2 u hu b hb
  ·cases ha
theorem Zr5 {x:V} {v:Value} (hr:x.rel e O w v) {d:DV} {f:Bool} {τs:List Nat} {p:Prop} (ha:Zpp O x=some (d,f,τs,p)) (hp:p) (hf:f=true):∀u∈Uk v,∀b,u.ownBlock=some b->Mut e O b:=by
 cases x with
 | one c=>
  simp only [Zpp] at ha;obtain ⟨⟨y,f',τ',p'⟩,h1,h2⟩:=Option.map_eq_some_iff.1 ha;simp only [ZAc] at h2;obtain ⟨_,rfl,_,rfl⟩:=h2;intro u hu b hb
  have hc:Uk v=[v]:=by
   have hr':c.rel e O w v:=hr;cases v<;>first | rfl| (have:=hr'.cells.2;simp [Value.oneCell'] at this)
  rw [hc] at hu;obtain rfl:=List.mem_singleton.1 hu;exact Zoq hr h1 hp hf hb
 | agg cs=>
  simp only [Zpp] at ha;obtain ⟨⟨y,f',τ',p'⟩,h1,h2⟩:=Option.map_eq_some_iff.1 ha;simp only [ZAc] at h2;obtain ⟨_,rfl,_,rfl⟩:=h2;obtain ⟨vs,rfl,hr⟩:=hr;intro u hu b hb;exact Zoo hr h1 hp hf u (by simpa [Uk] using hu) b hb
 | tup ps=>simp [Zpp] at ha
 | dead=>simp [Zpp] at ha
theorem Zme:∀{vs:List V} {us:List Value},UP e O w vs us->∀{ds:List DV} {f:Bool} {τs:List Nat} {p:Prop},ZiX O vs=some (ds,f,τs,p)->p->f=true->∀u∈us,∀v∈Uk u,∀b,v.ownBlock=some b->Mut e O b
 | [],us,hr,ds,f,τs,p,ha,hp,hf=>by simp only [UP] at hr;simp [hr]
 | x::vs,us,hr,ds,f,τs,p,ha,hp,hf=>by
  simp only [UP] at hr;obtain ⟨u,us',rfl,h1,h2⟩:=hr;simp only [ZiX] at ha
  split at ha
  ·rename_i e1 e2;simp only [ZAb,ZAc] at ha;obtain ⟨_,rfl,_,rfl⟩:=ha;simp only [ZAd] at hf;intro y hy v hv b hb;rcases List.mem_cons.1 hy with rfl| hy
   ·exact Zr5 h1 e1 hp.1 hf.1 v hv b hb
   ·exact Zme h2 e2 hp.2 hf.2 y hy v hv b hb
  ·cases ha
theorem Zt5:∀{cs:List CV} {x:List L×Bool×Prop},ZkW O cs=some x->V7 cs=true
 | [],_,_=>rfl
 | [c],_,h=>by cases c<;>first | rfl| (simp [ZkW,Zm1] at h)
 | _::_::_,_,_=>rfl
theorem ZnM (h:Zz N w0 e O a w) {k:Nat} {ls:List L} (ho:Zvf O k ls):∃cells cur ty FS,O.bx.lookup k=some cells/\N (e.β k)/\w.heap[e.β k]? =some (.cells cur ty (0,0))/\RpL w ls cur.toList FS/\∀x∈FS,¬Mut e O x:=by
 unfold Zvf Zw7 at ho
 split at ho
 ·rename_i xs pu p hq;obtain ⟨hp,hpu,rfl⟩:=ho;obtain ⟨cells,hk,hd⟩:=Option.bind_eq_some_iff.1 hq;obtain ⟨h1,cur,ty,h2,h3⟩:=h.bxC hk (Zt5 hd);obtain ⟨FS,g1,g2⟩:=ZkB h h3 hd hp;exact ⟨cells,cur,ty,FS,hk,h1,h2,g1,g2 hpu⟩
 ·exact ho.elim
def ZyS (N:Nat->Prop) (v:Value):Prop:=∀(w:World) (es:List (List L)) (F:List Nat),VI es=true->Rp w (.sl es) v F->∃F',Rp w (.sl es) v F'/\∀b∈F',¬N b/\b∈F
theorem Zuq {c:Code} {Q Q':Exit->St->Prop} (hQ:∀e O,Q e O->Q' e O) (h:AW P N w0 c Q O):AW P N w0 c Q' O:=fun a w hs=>Code.wp_mono (fun _ _ _ ⟨O',h1,h2⟩=>⟨O',hQ _ _ h1,h2⟩) (h a w hs)
theorem Ztn {N:Nat->Prop} {w:World} {cs:List L} {vs:List Value} {F:List Nat} (h:RpL w cs vs F) {i:Nat} {es0:List (List L)} (hi:cs[i]? =some (.sl es0)) (hN:∀b∈F,¬N b):ZyS N (vs.getD i undef):=by
 obtain ⟨v,G,h1,h2,h3⟩:=h.at hi;have hv:vs.getD i undef=v:=by simp [List.getD,h1]
 rw [hv];intro w2 es F2 hfl hR;simp only [Rp] at h2 hR;obtain ⟨A,c,rfl,g1,g2,g3⟩:=h2;obtain ⟨A',c',hv',k1,k2,k3⟩:=hR;obtain ⟨rfl,hlen,rfl⟩:A=A'/\es0.length=es.length/\c=c':=by simpa using hv'
 rw [hlen];rcases k3 with ⟨rfl,rfl⟩| ⟨b,off,xs,Fs,rfl,q1,rfl,q2,q3⟩
 ·exact ⟨[],by simp only [Rp];exact ⟨_,_,rfl,k1,k2,.inl ⟨trivial,trivial⟩⟩,by simp⟩
 ·by_cases he:es=[]
  ·subst he;exact ⟨[],by simp only [Rp];exact ⟨_,_,rfl,k1,k2,.inl ⟨trivial,trivial⟩⟩,by simp⟩
  ·have hF:Fs=[]:=(q3.flat (N:=N) hfl).1;subst hF;refine ⟨[b],by simp only [Rp];exact ⟨_,_,rfl,k1,k2,.inr ⟨b,off,xs,[],rfl,q1,rfl,q2,q3⟩⟩,fun x hx=>⟨?_,hx⟩⟩;simp only [List.mem_singleton] at hx;subst hx;rcases g3 with ⟨rfl,_⟩| ⟨b0,off0,xs0,Fs0,hb,_,rfl,_⟩
   ·exact absurd (List.eq_nil_of_length_eq_zero hlen.symm) he
   ·have:x=b0:=by simpa using congrArg (fun o=>o.map (·.block)) hb
    exact hN x (h3 x (by simp [this]))
theorem ZkL.Xt {f:Nat} {fn:Func} {c:Code} {nt:Nat} {rv:Array ResultVar} (hok:X0 P f=true) (hf:P.funcs[f]? =some fn) (hb:fn.body=some c) (hnt:fn.ntmps=nt) (hrv:fn.results=rv) {d1 d2:List DV} {cs ls:List L} {fr:Bool} {rs:List DV} (hds:d1.length+1+d2.length<=nt)
  (X:List Value->List Value->Prop) (c0:(Nat->Value)->List CV) (E:(Nat->Value)->St->Prop)
  (h0:∀(f0:Nat->Value) (e:Env) (O:St) (w:World) (vs:List Value) (F:List Nat),RpL w cs vs F->(∀b∈F,¬Mut e O b)->(∀i,f0 i=vs.getD i undef)->Z6 e O w (c0 f0) vs)
  (hX:∀(f0:Nat->Value) (e:Env) (O:St) (w:World) (cells:List CV) (vs us:List Value),E f0 O->O.bx.lookup (nt+d1.length)=some cells->Z6 e O w cells us->vs.length=cs.length->us.length=ls.length->(∀i,f0 i=vs.getD i undef)->X vs us)
  (h:∀(N:Nat->Prop) (w0:Bs) (f0:Nat->Value),Bok N w0->(∀i es,cs[i]? =some (.sl es)->ZyS N (f0 i))->AW P N w0 c (fun ex O=>ZvK P rv fr rs nt (nt+d1.length) ls ex O/\E f0 O) ⟨nt,ZdK 0 d1++(d1.length,.one (.box (nt+d1.length) 0))::ZdK (d1.length+1) d2,[(nt+d1.length,c0 f0)],[]⟩):ZkL P f d1 cs d2 fr rs ls X:=by
 subst hnt hrv;refine ⟨hok,fun w vs1 vs2 F1 F2 FS b cur ty ⟨G,hG,hGb⟩ hF1 hF2 hcell hFS hbF=> ?_⟩;refine calls_of_wp hf hb ?_;have l1:=hF1.len;have l2:=hF2.len;obtain ⟨k,hk⟩:∃k,k=fn.ntmps+d1.length:=⟨_,rfl⟩;rw [<-hk] at h hX
 let f0:Nat->Value:=fun i=>cur.toList.getD i undef
 let O0:St:=⟨fn.ntmps,ZdK 0 d1++(d1.length,.one (.box k 0))::ZdK (d1.length+1) d2,[(k,c0 f0)],[]⟩
 let e0:Env:=⟨fun _=>b,fun _=>undef,fun _=>[],fun x=>x<w.heap.size/\x∉F1++(F2++FS)/\x≠b⟩
 have hblt:=Vk hcell
 have hm:∀x∈F1++(F2++FS),¬Mut e0 O0 x:=by
  intro x hx hm;rcases hm with h0| ⟨_,_,_,h1⟩| ⟨_,_,h1,_⟩
  ·exact h0.2.1 hx
  ·have h1':b=x:=h1;exact hbF (h1'▸hx)
  ·simp [O0] at h1
 have hlk:∀t x,(ZdK 0 d1++(d1.length,.one (.box k 0))::ZdK (d1.length+1) d2).lookup t=some x->∃v,(vs1++.pointer (some ⟨b,0,none⟩)::vs2)[t]? =some v/\x.rel e0 O0 w v:=by
  intro t x ht;rw [lookup_append] at ht;cases hq:(ZdK 0 d1).lookup t with
  | some y=>
   rw [hq] at ht;simp only [Option.some_or,ZAb] at ht;subst ht;obtain ⟨j,v,rfl,g2,g3⟩:=Jt (e:=e0) (O:=O0) hF1 (fun x hx=>hm x (by simp [hx])) hq;have hj:=(List.getElem?_eq_some_iff.1 g2).1;exact ⟨v,by rw [Nat.zero_add,List.getElem?_append_left hj];exact g2,g3⟩
  | none=>
   rw [hq] at ht;simp only [Option.none_or,lookup_cons] at ht
   split at ht
   ·rename_i hj;obtain rfl:=Zz9 ht;subst hj;refine ⟨_,by rw [<-l1,List.getElem?_append_right (ZAe _),Nat.sub_self];rfl,⟨c0 f0,by simp [O0]⟩,rfl⟩
   ·obtain ⟨j,v,rfl,g2,g3⟩:=Jt (e:=e0) (O:=O0) hF2 (fun x hx=>hm x (by simp [hx])) ht;refine ⟨v, ?_,g3⟩;rw [List.getElem?_append_right (by omega),show d1.length+1+j-vs1.length=j+1 by omega]
    simpa using g2
 have hsim:Zz (fun x=>w.heap.size<=x\/x=b) ⟨w,e0.bad,fun _=>b,fun x=>w.heap.size<=x\/x=b⟩ e0 O0 { tmps:=(vs1++.pointer (some ⟨b,0,none⟩)::vs2).toArray++Array.replicate (fn.ntmps-(vs1++.pointer (some ⟨b,0,none⟩)::vs2).toArray.size) undef,defers:=[]} w:=by
  refine ⟨by simp [O0];omega,rfl,fun t x ht=> ?_,fun j cells hj=> ?_,fun τ A hA=>by simp [O0] at hA,fun κ κ' hl hl' hne=> ?_,⟨⟨G,hG,fun x g=>by rintro (q| rfl);exact absurd (hG.1 x g) (by omega);exact hGb g⟩,rfl,rfl,rfl,ZAe _,fun _ _ _=>rfl,fun b hb=>.inl hb⟩,⟨fun _ h=>h,fun x hx=>⟨hx.1,fun κ hl hxk=> ?_⟩⟩,fun κ _ hd=> ?_,fun j cells hj _=>rfl,fun _ h=>h,fun κ x hl hx=> ?_⟩
  ·obtain ⟨v,g2,g3⟩:=hlk t x ht;have hj:=(List.getElem?_eq_some_iff.1 g2).1
   have:((vs1++.pointer (some ⟨b,0,none⟩)::vs2).toArray++Array.replicate (fn.ntmps-(vs1++.pointer (some ⟨b,0,none⟩)::vs2).toArray.size) undef).getD t undef=v:=by
    rw [Array.getD_eq_getD_getElem?,Array.getElem?_append_left (by simpa using hj)];simp only [List.getElem?_toArray,g2,Option.getD_some]
   rw [this];exact g3
  ·have hj':j=k/\cells=c0 f0:=by
    simp only [O0,lookup_cons] at hj
    split at hj
    ·exact ⟨by assumption,(Zz9 hj).symm⟩
    ·simp at hj
   obtain ⟨rfl,rfl⟩:=hj';exact ⟨.inr rfl,.inl ⟨cur,ty,hcell,h0 f0 _ _ _ _ _ hFS (fun x hx=>hm x (by simp [hx])) fun _=>rfl⟩⟩
  ·have key:∀κ,live O0 κ->κ= .b k:=by
    intro κ hl;cases κ with
    | b j=>
     obtain ⟨cells,hj⟩:=hl;simp only [O0,lookup_cons] at hj
     split at hj
     ·rename_i h;rw [h]
     ·simp at hj
    | a τ=>obtain ⟨A,hA⟩:=hl;simp [O0] at hA
   exact absurd ((key κ hl).trans (key κ' hl').symm) hne
  ·cases κ with
   | b j=>
    have h1:x=b:=by simpa [blk] using hxk
    exact absurd h1 hx.2.2
   | a τ=>obtain ⟨A,hA⟩:=hl;simp [O0] at hA
  ·cases κ with
   | b k=>exact hd.elim
   | a τ=>intro b hb;cases hb
  ·cases κ with
   | b k=>exact .inr hx
   | a τ=>obtain ⟨A,hA⟩:=hl;simp [O0] at hA
 refine Code.wp_mono (fun ex a' w' hq=> ?_) (h (fun x=>w.heap.size<=x\/x=b) ⟨w,e0.bad,fun _=>b,fun x=>w.heap.size<=x\/x=b⟩ f0 ⟨fun x hx hn=>by
  rcases hn with hn| hn
  ·have:=hx.1;omega
  ·exact hx.2.2 hn,fun _ h=>h⟩ (fun i es hi=>Ztn hFS hi fun x hx hn=>by
  have h1:=hFS.lt x hx;rcases hn with hn| hn
  ·omega
  ·exact hbF (by simp [<-hn,hx])) _ _ ⟨e0,hsim⟩)
 obtain ⟨O',h1,e',h2⟩:=hq
 have fin:Zwj P fn.results fr rs fn.ntmps k ls O'->E f0 O'->a'.defers=[]/\∃v,(results fn a'.tmps).run P w'= .ok v w'/\∃us cur' ty' FS',Ending.returned v= .returned (Zmh us)/\w'.heap[b]? =some (.cells cur' ty' (0,0))/\RpL w' ls cur'.toList FS'/\
   (∀x∈FS',x≠b/\(x∈F1++(F2++FS)\/w.heap.size<=x))/\Ztb fr w w' b (F1++(F2++FS)) FS' rs us/\But b w w'/\X cur.toList cur'.toList:=by
  intro ⟨hn,ho,hc⟩ hE;obtain ⟨cells,cur',ty',FS',c1,c5,c2,c3,c4⟩:=ZnM h2 hc;have c7:=(h2.bx k cells c1).2.rel c2;have hXX:=hX f0 _ _ _ cells cur.toList cur'.toList hE c1 c7 hFS.len c3.len fun _=>rfl;have hβ:e'.β k=b:=h2.pn k cells c1 (by rw [hn,hk];omega);rw [hβ] at c2;have hbm:Mut e' O' b:=.inr (.inl ⟨k,cells,c1,hβ⟩);have hbut:But b w w':=⟨h2.fr.os,h2.fr.tape,h2.fr.output,h2.fr.size,fun x hx hxb=>h2.fr.block x hx (by intro g;rcases g with g| g;omega;exact hxb g)⟩
  have hnm:∀x,¬Mut e' O' x->x≠b/\(x∈F1++(F2++FS)\/w.heap.size<=x):=by
   intro x hx;refine ⟨fun g=>hx (g▸hbm), ?_⟩
   by_cases g1:w.heap.size<=x
   ·exact .inr g1
   ·by_cases g2:x∈F1++(F2++FS)
    ·exact .inl g2
    ·exact absurd (.inl (h2.bad.1 x ⟨by omega,g2,fun g=>hx (g▸hbm)⟩)) hx
  have hFS':=fun x hx=>hnm x (c4 x hx);unfold ZmF at ho;cases fr
  ·simp only [ZAf,if_false] at ho;cases hq:(Ze3 P O' fn.results.toList).bind (WK O') with
   | none=>rw [hq] at ho;exact ho.elim
   | some r=>
    obtain ⟨ds',pu,p⟩:=r;rw [hq] at ho;obtain ⟨hp,hpu,rfl⟩:=ho;obtain ⟨vs',hvs,hd⟩:=Option.bind_eq_some_iff.1 hq;obtain ⟨us,k1,k2⟩:=V6 (P:=P) h2 hvs;obtain ⟨F,g1,g2⟩:=ZdZ h2 k2 hd hp;refine ⟨h2.df,_,k1,us,cur',ty',FS',rfl,c2,c3,hFS', ?_,hbut,hXX⟩;simp only [Ztb,ZAf,if_false];exact ⟨F,g1,fun x hx=>hnm x (g2 hpu x hx)⟩
  ·simp only [if_true] at ho;cases hq:(Ze3 P O' fn.results.toList).bind (ZiX O') with
   | none=>rw [hq] at ho;exact ho.elim
   | some r=>
    obtain ⟨ds',f',τs,p⟩:=r;rw [hq] at ho;obtain ⟨hp,hf',hnd,rfl⟩:=ho;obtain ⟨vs',hvs,hd⟩:=Option.bind_eq_some_iff.1 hq;obtain ⟨us,k1,k2⟩:=V6 (P:=P) h2 hvs;obtain ⟨g1,g2⟩:=ZiB h2 k2 hd hp hf';refine ⟨h2.df,_,k1,us,cur',ty',FS',rfl,c2,c3,hFS', ?_,hbut,hXX⟩;simp only [Ztb,if_true];refine ⟨_,g1,JD h2 g2 hnd,fun hbm'=> ?_,fun u hu v hv x hx hxF=>c4 x hxF (Zme k2 hd hp hf' u hu v hv x hx)⟩;obtain ⟨τ,hτ,hbτ⟩:=List.mem_flatMap.1 hbm';obtain ⟨A,hA,_⟩:=g2 τ hτ;exact h2.sep (.b k) (.a τ) ⟨cells,c1⟩ ⟨A,hA⟩ (by simp) b (by simp [blk,hβ]) hbτ
 cases ex with
 | normal=>exact fin h1.1 h1.2
 | ret=>exact fin h1.1 h1.2
 | _=>exact h1.1.elim
theorem ZcU.Xt {f:Nat} {fn:Func} {c:Code} {nt:Nat} {rv:Array ResultVar} (hok:X0 P f=true) (hf:P.funcs[f]? =some fn) (hb:fn.body=some c) (hnt:fn.ntmps=nt) (hrv:fn.results=rv) {d1 d2:List DV} {cs ls:List L} {fr:Bool} {rs:List DV} (hds:d1.length+1+d2.length<=nt)
  (h:∀N w0,Bok N w0->AW P N w0 c (ZvK P rv fr rs nt (nt+d1.length) ls) ⟨nt,ZdK 0 d1++(d1.length,.one (.box (nt+d1.length) 0))::ZdK (d1.length+1) d2,[(nt+d1.length,cs.map .l)],[]⟩):ZcU P f d1 cs d2 fr rs ls:=
 ZkL.ZyU (ZkL.Xt hok hf hb hnt hrv hds (fun _ _=>True) (fun _=>cs.map .l) (fun _ _=>True) (fun _ _ _ _ _ _ hR hm _=>We hR hm) (fun _ _ _ _ _ _ _ _ _ _ _ _ _=>trivial) fun N w0 _ hb _=>Zuq (fun _ _ g=>⟨g,trivial⟩) (h N w0 hb))
def ZrH (f0:Nat->Value):Nat->List L->List CV->Prop
 | _,[],_=>True
 | i,.sl _::ls,.kept v _::cs=>v=f0 i/\ZrH f0 (i+1) ls cs
 | _,.sl _::_,_=>False
 | i,_::ls,cs=>ZrH f0 (i+1) ls (cs.drop 1)
def Zxz (f0:Nat->Value) (k:Nat) (ls:List L) (O:St):Prop:=match O.bx.lookup k with | some cs=>ZrH f0 0 ls cs| none=>False
theorem Zr8.Xt {f:Nat} {fn:Func} {c:Code} {nt:Nat} {rv:Array ResultVar} (hok:X0 P f=true) (hf:P.funcs[f]? =some fn) (hb:fn.body=some c) (hnt:fn.ntmps=nt) (hrv:fn.results=rv) {ds:List DV} {cs:List L} (hds:ds.length<=nt)
  (h:∀N w0,Bok N w0->AW P N w0 c (ZxH P rv cs) ⟨nt,ZdK 0 ds,[],[]⟩):Zr8 P f ds cs:=by
 subst hnt hrv;refine ⟨hok,fun w vs FA ⟨G,hG⟩ hFA=> ?_⟩;refine calls_of_wp hf hb ?_;have hlen:=hFA.len
 let e0:Env:=⟨fun _=>0,fun _=>undef,fun _=>[],fun b=>b<w.heap.size/\b∉FA⟩
 have hsim:Zz (w.heap.size<= ·) ⟨w,e0.bad,fun _=>0,(w.heap.size<= ·)⟩ e0 ⟨fn.ntmps,ZdK 0 ds,[],[]⟩ { tmps:=vs.toArray++Array.replicate (fn.ntmps-vs.toArray.size) undef,defers:=[]} w:=by
  refine ⟨by simp;omega,rfl,fun t x ht=> ?_,by simp,by simp,fun κ κ' hl=> ?_,⟨⟨G,hG,fun b g=>by have:=hG.1 b g;omega⟩,rfl,rfl,rfl,ZAe _,fun _ _ _=>rfl,fun b hb=>hb⟩,⟨fun _ h=>h,fun b hb=>⟨hb.1,fun κ hl=> ?_⟩⟩,fun κ _ hd=> ?_,fun k cs hk=>by simp at hk,fun _ h=>h,fun κ b hl _=>by cases κ<;>obtain ⟨_,h1⟩:=hl<;>simp at h1⟩
  ·obtain ⟨j,v,rfl,g2,g3⟩:=Jt (e:=e0) (O:=⟨fn.ntmps,ZdK 0 ds,[],[]⟩) hFA (fun b hb hm=>by
    rcases hm with h0| ⟨_,_,h1,_⟩| ⟨_,_,h1,_⟩
    ·exact h0.2 hb
    ·simp at h1
    ·simp at h1) ht
   have hj:j<vs.length:=(List.getElem?_eq_some_iff.1 g2).1
   have:(vs.toArray++Array.replicate (fn.ntmps-vs.toArray.size) undef).getD (0+j) undef=v:=by
    rw [Array.getD_eq_getD_getElem?,Nat.zero_add,Array.getElem?_append_left (by simpa using hj)];simp [g2]
   rw [this];exact g3
  ·cases κ with
   | b k=>obtain ⟨_,h1⟩:=hl;simp at h1
   | a τ=>obtain ⟨_,h1⟩:=hl;simp at h1
  ·cases κ with
   | b k=>obtain ⟨_,h1⟩:=hl;simp at h1
   | a τ=>obtain ⟨_,h1⟩:=hl;simp at h1
  ·cases κ with
   | b k=>exact hd.elim
   | a τ=>intro b hb;cases hb
 refine Code.wp_mono (fun ex a' w' hq=> ?_) (h (w.heap.size<= ·) ⟨w,e0.bad,fun _=>0,(w.heap.size<= ·)⟩ ⟨fun b hb hn=>by have:=hb.1;have:w.heap.size<=b:=hn;omega,fun _ h=>h⟩ _ _ ⟨e0,hsim⟩);obtain ⟨O',h1,e',h2⟩:=hq
 have fin:Zve P fn.results cs O'->a'.defers=[]/\∃v,(results fn a'.tmps).run P w'= .ok v w'/\∃b cur ty FS,Ending.returned v= .returned (.pointer (some ⟨b,0,none⟩))/\w.heap.size<=b/\w'.heap[b]? =some (.cells cur ty (0,0))/\RpL w' cs cur.toList FS/\(∀x∈FS,x≠b/\(x∈FA\/w.heap.size<=x))/\Below w.heap.size w w':=by
  intro ho;have hbelow:Below w.heap.size w w':=⟨h2.fr.os,h2.fr.tape,h2.fr.output,h2.fr.size,fun b hb=>h2.fr.block b hb (by omega)⟩;unfold Zve at ho
  split at ho
  ·rename_i k hvs;obtain ⟨us,k1,k2⟩:=V6 (P:=P) h2 hvs;simp only [UP] at k2;obtain ⟨u,us',rfl,k3,rfl⟩:=k2;obtain ⟨cells,cur,ty,FS,c1,c2,c3,c4,c5⟩:=ZnM h2 ho;have hv:u= .pointer (some ⟨e'.β k,0,none⟩):=k3.2;subst hv;refine ⟨h2.df,_,k1,e'.β k,cur,ty,FS,rfl,c2,c3,c4,fun x hx=>⟨fun g=>c5 x hx (.inr (.inl ⟨k,cells,c1,g.symm⟩)), ?_⟩,hbelow⟩
   by_cases g1:w.heap.size<=x
   ·exact .inr g1
   ·by_cases g2:x∈FA
    ·exact .inl g2
    ·exact absurd (.inl (h2.bad.1 x ⟨by omega,g2⟩)) (c5 x hx)
  ·exact ho.elim
 cases ex with
 | normal=>exact fin h1
 | ret=>exact fin h1
 | _=>exact h1.elim
end
def Zai (O' O:St):Prop:=∀(N:Nat->Prop) (w0:Bs) (a:Act) (w:World),Sim N w0 O a w->Sim N w0 O' a w
def cle (O' O:St):CV->CV->Prop
 | .l (.sl es),.own τ n=>match O.ar.lookup τ with
  | some (some A)=>A.es=es/\A.es.length=n/\τ<1000000/\O'.ar.lookup τ=none
  | _=>False
 | .l x,.nil=>x= .sl []
 | .l x,.l y=>x=y
 | .nil,.nil=>True
 | .np,.np=>True
 | .any,.any=>True
 | .kept v' x',.kept v x=>v'=v/\x'=x
 | .l x',.kept _ x=>x'=x
 | .own τ n,.nil=>n=0/\O.ar.lookup τ=none/\∃f,O'.ar.lookup τ=some (some ⟨f,[]⟩)
 | .own τ n,.own τ' n'=>τ=τ'/\n=n'/\(O'.ar.lookup τ).isSome=true
 | .box k o,.box k' o'=>k=k'/\o=o'/\(O'.bx.lookup k).isSome=true
 | .adr x,.adr y=>x=y
 | .elt τ n i W off,.elt τ' n' i' W' off'=>τ=τ'/\n=n'/\i=i'/\W=W'/\off=off'/\(O'.ar.lookup τ).isSome=true
 | .nst τ j W off m,.nst τ' j' W' off' m'=>τ=τ'/\j=j'/\W=W'/\off=off'/\m=m'/\(O'.ar.lookup τ).isSome=true
 | .nel τ j W off m,.nel τ' j' W' off' m'=>τ=τ'/\j=j'/\W=W'/\off=off'/\m=m'/\(O'.ar.lookup τ).isSome=true
 | .clo f ks,.clo g js=>f=g/\ks=js/\∀k∈ks,(O'.bx.lookup k).isSome=true
 | .nf,.nf=>True
 | .mp k,.mp j=>k=j/\(O'.bx.lookup k).isSome=true
 | .mc x,.mc y=>x=y
 | .vw τ n lo hi W,.vw τ' n' lo' hi' W'=>τ=τ'/\n=n'/\lo=lo'/\hi=hi'/\W=W'/\(O'.ar.lookup τ).isSome=true
 | _,_=>False
def Zba (O' O:St):List CV->List CV->Prop
 | [],[]=>True
 | c::cs,d::ds=>cle O' O c d/\Zba O' O cs ds
 | _,_=>False
def Ztf (O' O:St):List (Bool×List CV)->List (Bool×List CV)->Prop
 | [],[]=>True
 | p::ps,q::qs=>p.1=q.1/\Zba O' O p.2 q.2/\Ztf O' O ps qs
 | _,_=>False
def vle (O' O:St):V->V->Prop
 | .dead,.dead=>True
 | .one c,.one d=>cle O' O c d
 | .agg cs,.agg ds=>Zba O' O cs ds
 | .tup ps,.tup qs=>Ztf O' O ps qs
 | _,_=>False
def Zut (O' O:St):List (Nat×V)->Prop
 | []=>True
 | (t,v)::r=>(match O.tm.lookup t with | some u=>vle O' O v u| none=>False)/\Zut O' O r
def Zuy (O' O:St):List (Nat×List CV)->Prop
 | []=>True
 | (t,v)::r=>(match O.bx.lookup t with | some u=>Zba O' O v u| none=>False)/\Zuy O' O r
def ZuB (O:St):List (Nat×Option Arr)->Prop
 | []=>True
 | (t,A)::r=>(match O.ar.lookup t with | some B=>A=B| none=>∃f,A=some ⟨f,[]⟩)/\ZuB O r
structure JK (O' O:St):Prop where
 nt:O'.nt=O.nt
 tm:Zut O' O O'.tm
 bx:Zuy O' O O'.bx
 ar:ZuB O O'.ar
section
variable {e e':Env} {O O':St} {w w':World} {N:Nat->Prop} {w0:Bs} {a:Act} {P:Program}
theorem Zlg:∀{l:List (Nat×V)},Zut O' O l->∀{t:Nat} {v:V},l.lookup t=some v->∃u,O.tm.lookup t=some u/\vle O' O v u
 | [],_,_,_,h=>by simp at h
 | (j,x)::l,hl,t,v,h=>by
  simp only [Zut] at hl;rw [lookup_cons] at h
  split at h
  ·rename_i hj;subst hj;obtain rfl:=Zz9 h;have h1:=hl.1
   split at h1
   ·rename_i u hu;exact ⟨u,hu,h1⟩
   ·exact h1.elim
  ·exact Zlg hl.2 h
theorem JI:∀{l:List (Nat×List CV)},Zuy O' O l->∀{t:Nat} {v:List CV},l.lookup t=some v->∃u,O.bx.lookup t=some u/\Zba O' O v u
 | [],_,_,_,h=>by simp at h
 | (j,x)::l,hl,t,v,h=>by
  simp only [Zuy] at hl;rw [lookup_cons] at h
  split at h
  ·rename_i hj;subst hj;obtain rfl:=Zz9 h;have h1:=hl.1
   split at h1
   ·rename_i u hu;exact ⟨u,hu,h1⟩
   ·exact h1.elim
  ·exact JI hl.2 h
theorem Wk:∀{l:List (Nat×Option Arr)},ZuB O l->∀{t:Nat} {A:Option Arr},l.lookup t=some A->O.ar.lookup t=some A\/(O.ar.lookup t=none/\∃f,A=some ⟨f,[]⟩)
 | [],_,_,_,h=>by simp at h
 | (j,x)::l,hl,t,v,h=>by
  simp only [ZuB] at hl;rw [lookup_cons] at h
  split at h
  ·rename_i hj;subst hj;obtain rfl:=Zz9 h;have h1:=hl.1
   split at h1
   ·rename_i u hu;subst h1;exact .inl hu
   ·rename_i hu;exact .inr ⟨hu,h1⟩
  ·exact Wk hl.2 h
def Zd5 (e:Env) (O:St):Env:=
 ⟨e.β,fun τ=>match O.ar.lookup τ with | none=>.slice none 0 0| some _=>e.ρ τ,fun τ=>match O.ar.lookup τ with | none=>[]| some _=>e.φ τ,e.bad⟩
theorem XH {τ:Nat} {A:Option Arr} (h:O.ar.lookup τ=some A):(Zd5 e O).ρ τ=e.ρ τ/\(Zd5 e O).φ τ=e.φ τ:=by simp [Zd5,h]
theorem UE {τ:Nat} (h:O.ar.lookup τ=none):(Zd5 e O).ρ τ= .slice none 0 0/\(Zd5 e O).φ τ=[]:=by simp [Zd5,h]
theorem JK.mut (k:JK O' O) {b:Nat} (h:Mut (Zd5 e O) O' b):Mut e O b:=by
 rcases h with h| ⟨j,cs,h1,h2⟩| ⟨τ,A,h1,h2⟩
 ·exact .inl h
 ·obtain ⟨u,hu,_⟩:=JI k.bx h1;exact .inr (.inl ⟨j,u,hu,h2⟩)
 ·rcases Wk k.ar h1 with h3| ⟨h3,h4⟩
  ·rw [(XH h3).1] at h2;exact .inr (.inr ⟨τ,A,h3,h2⟩)
  ·rw [(UE h3).1] at h2;simp [Value.ownBlock] at h2
theorem JK.freeze (k:JK O' O) (h:Zz N w0 e O a w) {τ n:Nat} {A:Arr} (hA:O.ar.lookup τ=some (some A)) (hd:τ<1000000) (hn:O'.ar.lookup τ=none) (hl:A.es.length=n) {v:Value} (hr:(CV.own τ n).rel e O w v):
  (CV.l (.sl A.es)).rel (Zd5 e O) O' w v:=by
 obtain ⟨A',hA',h1,_⟩:=hr;rw [hA] at hA';obtain rfl:=Zz9 hA';have hv:v=e.ρ τ:=(h1 A rfl).2 hl;subst hv;obtain ⟨p,c,hv,hc1,hc2,h4| ⟨b,vs,Fs,W,rfl,h5,h6,h7,h8,h9⟩⟩:=h.elems hA hd
 ·refine ⟨[], ?_,by simp⟩;rw [hv];simp only [Rp];exact ⟨p,c,rfl,hc1,hc2,.inl ⟨h4,trivial⟩⟩
 ·have hlt:=(h.Yg (κ:=.a τ) ⟨A,hA⟩ b h8).1;refine ⟨b::Fs, ?_, ?_⟩
  ·rw [hv];simp only [Rp];exact ⟨_,c,rfl,hc1,hc2,.inr ⟨b,0,vs,Fs,rfl,hlt,rfl,h5,h7⟩⟩
  ·intro x hx hm;rcases List.mem_cons.1 hx with rfl| hx
   ·rcases hm with hb| ⟨j,cs,g1,g2⟩| ⟨τ',A',g1,g2⟩
    ·have:1000000<=τ:=(h.bad.2 x hb).2 (.a τ) ⟨A,hA⟩ h8;omega
    ·obtain ⟨u,hu,_⟩:=JI k.bx g1;exact h.sep (.b j) (.a τ) ⟨u,hu⟩ ⟨A,hA⟩ (by simp) x (by simp only [blk,List.mem_singleton];exact g2.symm) h8
    ·have hne:τ'≠τ:=fun he=>by rw [he,hn] at g1;cases g1
     rcases Wk k.ar g1 with g3| ⟨g3,g4⟩
     ·rw [(XH g3).1] at g2;exact h.sep (.a τ') (.a τ) ⟨A',g3⟩ ⟨A,hA⟩ (by simpa using hne) x ((h.ar τ' A' g3).own g2).1 h8
     ·rw [(UE g3).1] at g2;simp [Value.ownBlock] at g2
   ·exact h9 x hx (k.mut hm)
theorem ZrX {es:MD} {cs:List CV} (h:Zba O' O cs [.mc es]):cs=[.mc es]:=by
 cases cs with
 | nil=>simp [Zba] at h
 | cons c t=>
  simp only [Zba] at h;cases t with
  | cons _ _=>simp [Zba] at h
  | nil=>cases c<;>simp [cle,Zba] at h;rw [h]
theorem JK.rel (k:JK O' O) (h:Zz N w0 e O a w) {c' c:CV} {v:Value} (hr:c.rel e O w v) (hc:cle O' O c' c):c'.rel (Zd5 e O) O' w v:=by
 unfold cle at hc
 split at hc
 ·rename_i es τ n
  split at hc
  ·rename_i A hA;obtain ⟨rfl,h2,h3,h4⟩:=hc;exact k.freeze h hA h3 h4 h2 hr
  ·exact hc.elim
 ·subst hc;have hv:v= .slice none 0 0:=hr;subst hv;refine ⟨[], ?_,by simp⟩;simp only [Rp];exact ⟨none,0,rfl,ZAe _,by omega,.inl (by simp)⟩
 ·subst hc;obtain ⟨F,h1,h2⟩:=hr;exact ⟨F,h1,fun b hb hm=>h2 b hb (k.mut hm)⟩
 ·exact hr
 ·exact hr
 ·exact hr
 ·obtain ⟨rfl,rfl⟩:=hc;obtain ⟨h0,F,h1,h2⟩:=hr;exact ⟨h0,F,h1,fun b hb hm=>h2 b hb (k.mut hm)⟩
 ·subst hc;obtain ⟨_,F,h1,h2⟩:=hr;exact ⟨F,h1,fun b hb hm=>h2 b hb (k.mut hm)⟩
 ·obtain ⟨rfl,h2,f,h3⟩:=hc;have hv:v= .slice none 0 0:=hr;subst hv;refine ⟨_,h3,fun B hB=> ?_,none,0,rfl,by omega⟩;obtain rfl:=Zz9 hB;exact ⟨ZAe _,fun _=>(UE h2).1.symm⟩
 ·obtain ⟨rfl,rfl,h3⟩:=hc;obtain ⟨A,h1,h2,h5⟩:=hr;obtain ⟨A',hA'⟩:=Option.isSome_iff_exists.1 h3;rcases Wk k.ar hA' with g| ⟨g,_⟩
  ·rw [h1] at g;obtain rfl:=Zz9 g;refine ⟨A,hA',fun B hB=> ?_,h5⟩;obtain ⟨q1,q2⟩:=h2 B hB;exact ⟨q1,fun hl=>(q2 hl).trans (XH h1).1.symm⟩
  ·rw [h1] at g;cases g
 ·obtain ⟨rfl,rfl,h3⟩:=hc;obtain ⟨cs,hcs⟩:=Option.isSome_iff_exists.1 h3;exact ⟨⟨cs,hcs⟩,hr.2⟩
 ·subst hc;obtain ⟨b,off,vs,F,h1,h2,h3,h4,h5,h6⟩:=hr;exact ⟨b,off,vs,F,h1,h2,h3,h4,fun hm=>h5 (k.mut hm),fun x hx hm=>h6 x hx (k.mut hm)⟩
 ·obtain ⟨rfl,rfl,rfl,rfl,rfl,h3⟩:=hc;obtain ⟨A,h1,h2,h5⟩:=hr;obtain ⟨A',hA'⟩:=Option.isSome_iff_exists.1 h3;rcases Wk k.ar hA' with g| ⟨g,_⟩
  ·rw [h1] at g;obtain rfl:=Zz9 g;refine ⟨A,hA',fun B hB=> ?_,h5⟩;obtain ⟨q1,q2⟩:=h2 B hB;exact ⟨q1,fun hl=>by rw [(XH h1).1];exact q2 hl⟩
  ·rw [h1] at g;cases g
 ·obtain ⟨rfl,rfl,rfl,rfl,rfl,h3⟩:=hc;obtain ⟨A,h1,h2,h5⟩:=hr;obtain ⟨A',hA'⟩:=Option.isSome_iff_exists.1 h3;rcases Wk k.ar hA' with g| ⟨g,_⟩
  ·rw [h1] at g;obtain rfl:=Zz9 g;refine ⟨A,hA',fun B hB=> ?_,h5⟩;obtain ⟨q1,b,cur,t,r2,r3⟩:=h2 B hB;exact ⟨q1,b,cur,t,by rw [(XH h1).1];exact r2,r3⟩
  ·rw [h1] at g;cases g
 ·obtain ⟨rfl,rfl,rfl,rfl,rfl,h3⟩:=hc;obtain ⟨A,h1,h2,h5⟩:=hr;obtain ⟨A',hA'⟩:=Option.isSome_iff_exists.1 h3;rcases Wk k.ar hA' with g| ⟨g,_⟩
  ·rw [h1] at g;obtain rfl:=Zz9 g;refine ⟨A,hA',fun B hB=> ?_,h5⟩;obtain ⟨q1,b,cur,t,b',m,c,r2,r3⟩:=h2 B hB;exact ⟨q1,b,cur,t,b',m,c,by rw [(XH h1).1];exact r2,r3⟩
  ·rw [h1] at g;cases g
 ·obtain ⟨rfl,rfl,h3⟩:=hc;exact ⟨fun k hk=>Option.isSome_iff_exists.1 (h3 k hk),hr.2⟩
 ·exact hr
 ·obtain ⟨rfl,h3⟩:=hc;exact ⟨Option.isSome_iff_exists.1 h3,hr.2⟩
 ·subst hc;exact hr.elim
 ·obtain ⟨rfl,rfl,rfl,rfl,rfl,h3⟩:=hc;obtain ⟨A,h1,h2,h5⟩:=hr;obtain ⟨A',hA'⟩:=Option.isSome_iff_exists.1 h3;rcases Wk k.ar hA' with g| ⟨g,_⟩
  ·rw [h1] at g;obtain rfl:=Zz9 g;refine ⟨A,hA',fun B hB=> ?_,h5⟩;rw [(XH h1).1];exact h2 B hB
  ·rw [h1] at g;cases g
 ·exact hc.elim
theorem JK.Z6 (k:JK O' O) (h:Zz N w0 e O a w):∀{cs' cs:List CV} {vs:List Value},Z6 e O w cs vs->Zba O' O cs' cs->Z6 (Zd5 e O) O' w cs' vs
 | [],[],_,hr,_=>hr
 | [],_::_,_,_,hc=>by simp [Zba] at hc
 | _::_,[],_,_,hc=>by simp [Zba] at hc
 | c'::cs',c::cs,_,hr,hc=>by
  simp only [Am.Z6] at hr ⊢;obtain ⟨v,vs',h0,h1,h2⟩:=hr;simp only [Zba] at hc;exact ⟨v,vs',h0,k.rel h h1 hc.1,k.Z6 h h2 hc.2⟩
theorem JK.pts (k:JK O' O) (h:Zz N w0 e O a w):∀{ps' ps:List (Bool×List CV)} {vs:List Value},Yo e O w ps vs->Ztf O' O ps' ps->Yo (Zd5 e O) O' w ps' vs
 | [],[],_,hr,_=>hr
 | [],_::_,_,_,hc=>by simp [Ztf] at hc
 | _::_,[],_,_,hc=>by simp [Ztf] at hc
 | (b',cs')::ps',(b,cs)::ps,_,hr,hc=>by
  simp only [Yo] at hr ⊢;obtain ⟨v,vs',h0,h1,h2⟩:=hr;simp only [Ztf] at hc;obtain ⟨hb,hc1,hc2⟩:=hc;subst hb;refine ⟨v,vs',h0, ?_,k.pts h h2 hc2⟩;cases b'
  ·obtain ⟨c,rfl,h1⟩:=h1
   match cs',hc1 with
   | [c'],hc1=>simp only [Zba] at hc1;exact ⟨c',rfl,k.rel h h1 hc1.1⟩
   | [],hc1=>simp [Zba] at hc1
   | _::_::_,hc1=>simp [Zba] at hc1
  ·obtain ⟨us,rfl,h1⟩:=h1;exact ⟨us,rfl,k.Z6 h h1 hc1⟩
theorem JK.Zw5 (k:JK O' O) (h:Zz N w0 e O a w) {x' x:V} {v:Value} (hr:x.rel e O w v) (hc:vle O' O x' x):x'.rel (Zd5 e O) O' w v:=by
 unfold vle at hc
 split at hc
 ·exact hr
 ·exact k.rel h hr hc
 ·obtain ⟨vs,h0,h1⟩:=hr;exact ⟨vs,h0,k.Z6 h h1 hc⟩
 ·obtain ⟨vs,h0,h1⟩:=hr;exact ⟨vs,h0,k.pts h h1 hc⟩
 ·exact hc.elim
theorem JK.into (k:JK O' O):Zai O' O:=by
 intro N w0 a w ⟨e,h⟩
 have hlive:∀κ,live O' κ->(live O κ/\blk (Zd5 e O) κ=blk e κ)\/blk (Zd5 e O) κ=[]:=by
  intro κ hl;cases κ with
  | b j=>obtain ⟨cs,h1⟩:=hl;obtain ⟨u,hu,_⟩:=JI k.bx h1;exact .inl ⟨⟨u,hu⟩,rfl⟩
  | a τ=>
   obtain ⟨A,h1⟩:=hl;rcases Wk k.ar h1 with g| ⟨g,_⟩
   ·exact .inl ⟨⟨A,g⟩,(XH g).2⟩
   ·exact .inr (UE g).2
 refine ⟨Zd5 e O,⟨by rw [h.nt,k.nt],h.df,fun t v ht=> ?_,fun j cs hj=> ?_,fun τ A hA=> ?_,fun κ κ' hl hl' hne=> ?_,h.fr,⟨h.bad.1,fun b hb=>⟨(h.bad.2 b hb).1,fun κ hl hm=> ?_⟩⟩,fun κ hl hd b hm=> ?_,fun j cs hj hle=>by obtain ⟨u,hu,_⟩:=JI k.bx hj;exact h.pn j u hu (k.nt▸hle),h.tn,fun κ b hl hb=> ?_⟩⟩
 ·obtain ⟨u,hu,hv⟩:=Zlg k.tm ht;exact k.Zw5 h (h.tm t u hu) hv
 ·obtain ⟨u,hu,hv⟩:=JI k.bx hj;obtain ⟨h1,h2⟩:=h.bx j u hu;exact ⟨h1,h2.imp (fun vs h3=>k.Z6 h h3 hv) fun es h0=>ZrX (h0▸hv)⟩
 ·rcases Wk k.ar hA with g| ⟨g,f,hA'⟩
  ·rw [(XH g).1,(XH g).2];obtain ⟨p,c,hv,hc,h4| ⟨b,t,cur,Fs,W,q1,q2,q3,q4,q5,q6,q7,q8⟩⟩:=h.ar τ A g
   ·exact ⟨p,c,hv,hc,.inl h4⟩
   ·refine ⟨p,c,hv,hc,.inr ⟨b,t,cur,Fs,W,q1,q2,q3,q4,q5,q6,q7, ?_⟩⟩;rcases q8 with q8| ⟨g1,g2,g3,g4⟩
    ·exact .inl q8
    ·exact .inr ⟨g1,g2,g3,fun x hx hm=>g4 x hx (k.mut hm)⟩
  ·obtain rfl:=Zz9 hA';rw [(UE g).1,(UE g).2];exact ⟨none,0,rfl,by omega,.inl ⟨rfl,rfl,rfl,rfl⟩⟩
 ·rcases hlive κ hl with ⟨g1,g2⟩| g2
  ·rcases hlive κ' hl' with ⟨g3,g4⟩| g4
   ·rw [g2,g4];exact h.sep κ κ' g1 g3 hne
   ·rw [g4];simp
  ·rw [g2];simp
 ·rcases hlive κ hl with ⟨g1,g2⟩| g2
  ·rw [g2] at hm;exact (h.bad.2 b hb).2 κ g1 hm
  ·rw [g2] at hm;simp at hm
 ·rcases hlive κ hl with ⟨g1,g2⟩| g2
  ·rw [g2] at hm;exact h.dk κ g1 hd b hm
  ·rw [g2] at hm;simp at hm
 ·cases κ with
  | b j=>obtain ⟨cs,h1⟩:=hl;obtain ⟨u,hu,_⟩:=JI k.bx h1;exact h.tp (.b j) b ⟨u,hu⟩ hb
  | a τ=>
   obtain ⟨A,h1⟩:=hl;rcases Wk k.ar h1 with g| ⟨g,_⟩
   ·simp only [tpB,(XH g).1,(XH g).2] at hb;exact h.tp (.a τ) b ⟨A,g⟩ hb
   ·simp [tpB,(UE g).1,(UE g).2,Value.ownBlock] at hb
def ZnK (τ τ2:Nat):CV->CV
 | .own κ n=>if κ=τ then .own τ2 n else .own κ n
 | .vw κ n lo hi W=>if κ=τ then .vw τ2 n lo hi W else .vw κ n lo hi W
 | c=>c
def Zwh (τ τ2:Nat):V->V
 | .one c=>.one (ZnK τ τ2 c)
 | .agg cs=>.agg (cs.map (ZnK τ τ2))
 | .tup ps=>.tup (ps.map fun p=>(p.1,p.2.map (ZnK τ τ2)))
 | .dead=>.dead
def St.ren (O:St) (τ τ2:Nat):St:=⟨O.nt,O.tm.map (fun p=>(p.1,Zwh τ τ2 p.2)),O.bx.map (fun p=>(p.1,p.2.map (ZnK τ τ2))),(τ2,(O.ar.lookup τ).getD none)::(τ,none)::O.ar⟩
theorem Zz.ren (h:Zz N w0 e O a w) {τ τ2:Nat} {A:Arr} (hA:O.ar.lookup τ=some (some A)) (h2:O.ar.lookup τ2=none) (hd:τ<1000000) (hd2:τ2<1000000):
  Zz N w0 ⟨e.β,fun κ=>if κ=τ2 then e.ρ τ else e.ρ κ,fun κ=>if κ=τ2 then e.φ τ else e.φ κ,e.bad⟩ (O.ren τ τ2) a w:=by
 have hne:τ≠τ2:=fun e'=>by rw [<-e',hA] at h2;cases h2
 have look2:(O.ren τ τ2).ar.lookup τ2=some (some A):=by simp [St.ren,hA]
 have lookτ:(O.ren τ τ2).ar.lookup τ=some none:=by simp only [St.ren,lookup_cons,if_neg hne,if_true]
 have look:∀κ,κ≠τ2->κ≠τ->(O.ren τ τ2).ar.lookup κ=O.ar.lookup κ:=fun κ k1 k2=>by simp only [St.ren,lookup_cons,if_neg k1,if_neg k2]
 have bxl:∀k cs,(O.ren τ τ2).bx.lookup k=some cs->∃ds,O.bx.lookup k=some ds/\cs=ds.map (ZnK τ τ2):=fun k cs hk=>by
  have h1:(O.bx.lookup k).map (fun ds=>ds.map (ZnK τ τ2))=some cs:=by rw [<-ZcI];exact hk
  obtain ⟨ds,q1,q2⟩:=Option.map_eq_some_iff.1 h1;exact ⟨ds,q1,q2.symm⟩
 have bxr:∀k ds,O.bx.lookup k=some ds->(O.ren τ τ2).bx.lookup k=some (ds.map (ZnK τ τ2)):=fun k ds hk=>by
  show (O.bx.map fun p=>(p.1,p.2.map (ZnK τ τ2))).lookup k=_;rw [ZcI,hk];rfl
 obtain ⟨e',he'⟩:∃e':Env,e'=⟨e.β,fun κ=>if κ=τ2 then e.ρ τ else e.ρ κ,fun κ=>if κ=τ2 then e.φ τ else e.φ κ,e.bad⟩:=⟨_,rfl⟩;rw [<-he'];have r2:e'.ρ τ2=e.ρ τ/\e'.φ τ2=e.φ τ:=by rw [he'];simp
 have rk:∀κ,κ≠τ2->e'.ρ κ=e.ρ κ/\e'.φ κ=e.φ κ:=fun κ hk=>by rw [he'];simp [hk]
 have rβ:e'.β=e.β:=by rw [he']
 have rb:e'.bad=e.bad:=by rw [he']
 have hmu:∀b,Mut e' (O.ren τ τ2) b->Mut e O b:=fun b hm=>by
  rcases hm with h0| ⟨k,cs,h1,h3⟩| ⟨κ,B,h1,h3⟩
  ·exact .inl (rb▸h0)
  ·obtain ⟨ds,q1,_⟩:=bxl k cs h1;exact .inr (.inl ⟨k,ds,q1,rβ▸h3⟩)
  ·by_cases k1:κ=τ2
   ·subst k1;rw [r2.1] at h3;exact .inr (.inr ⟨τ,A,hA,h3⟩)
   ·by_cases k2:κ=τ
    ·rw [k2,lookτ] at h1;cases h1
    ·rw [look κ k1 k2] at h1;rw [(rk κ k1).1] at h3;exact .inr (.inr ⟨κ,B,h1,h3⟩)
 have hC:∀(c:CV) (v:Value),c.rel e O w v->(ZnK τ τ2 c).rel e' (O.ren τ τ2) w v:=fun c v hr=>by
  cases c with
  | l x=>obtain ⟨F,q1,q2⟩:=hr;exact ⟨F,q1,fun b hb hm=>q2 b hb (hmu b hm)⟩
  | nil=>exact hr
  | vw κ n lo m W=>
   obtain ⟨B,q1,q2,q3⟩:=hr;simp only [ZnK]
   by_cases k2:κ=τ
   ·subst k2;rw [if_pos rfl];rw [hA] at q1;obtain rfl:=Zz9 q1;refine ⟨_,look2,fun C hC=> ?_,q3⟩;rw [r2.1];exact q2 C hC
   ·rw [if_neg k2];have k1:κ≠τ2:=fun e1=>by rw [e1,h2] at q1;cases q1
    refine ⟨B,by rw [look κ k1 k2];exact q1,fun C hC=> ?_,q3⟩;rw [(rk κ k1).1];exact q2 C hC
  | any=>exact hr
  | kept v0 x=>obtain ⟨q0,F,q1,q2⟩:=hr;exact ⟨q0,F,q1,fun b hb hm=>q2 b hb (hmu b hm)⟩
  | np=>exact hr
  | clo f ks=>exact ⟨fun j hj=>⟨_,bxr j _ (hr.1 j hj).choose_spec⟩,by rw [rβ];exact hr.2⟩
  | nf=>exact hr
  | mp j=>exact ⟨⟨_,bxr j _ hr.1.choose_spec⟩,by rw [rβ];exact hr.2⟩
  | mc es=>exact hr
  | own κ n=>
   obtain ⟨B,q1,q2,q3⟩:=hr;simp only [ZnK]
   by_cases k2:κ=τ
   ·subst k2;rw [if_pos rfl];rw [hA] at q1;obtain rfl:=Zz9 q1;refine ⟨_,look2,fun C hC=> ?_,q3⟩;rw [r2.1];exact q2 C hC
   ·rw [if_neg k2];have k1:κ≠τ2:=fun e1=>by rw [e1,h2] at q1;cases q1
    refine ⟨B,by rw [look κ k1 k2];exact q1,fun C hC=> ?_,q3⟩;rw [(rk κ k1).1];exact q2 C hC
  | box k off=>
   obtain ⟨⟨cs,q1⟩,q2⟩:=hr;exact ⟨⟨_,bxr k cs q1⟩,by rw [rβ];exact q2⟩
  | adr ls=>
   obtain ⟨b,off,vs,F,q1,q2,q3,q4,q5,q6⟩:=hr;exact ⟨b,off,vs,F,q1,q2,q3,q4,fun hm=>q5 (hmu b hm),fun x hx hm=>q6 x hx (hmu x hm)⟩
  | elt κ n i W off=>
   obtain ⟨B,q1,q2,q3⟩:=hr
   by_cases k2:κ=τ
   ·subst k2;exact ⟨none,lookτ,fun C hC=>(nomatch hC),q3⟩
   ·have k1:κ≠τ2:=fun e1=>by rw [e1,h2] at q1;cases q1
    refine ⟨B,by rw [look κ k1 k2];exact q1,fun C hC=> ?_,q3⟩;rw [(rk κ k1).1];exact q2 C hC
  | nst κ j W off m=>
   obtain ⟨B,q1,q2,q3⟩:=hr
   by_cases k2:κ=τ
   ·subst k2;exact ⟨none,lookτ,fun C hC=>(nomatch hC),q3⟩
   ·have k1:κ≠τ2:=fun e1=>by rw [e1,h2] at q1;cases q1
    refine ⟨B,by rw [look κ k1 k2];exact q1,fun C hC=> ?_,q3⟩;rw [(rk κ k1).1];exact q2 C hC
  | nel κ j W off i=>
   obtain ⟨B,q1,q2,q3⟩:=hr
   by_cases k2:κ=τ
   ·subst k2;exact ⟨none,lookτ,fun C hC=>(nomatch hC),q3⟩
   ·have k1:κ≠τ2:=fun e1=>by rw [e1,h2] at q1;cases q1
    refine ⟨B,by rw [look κ k1 k2];exact q1,fun C hC=> ?_,q3⟩;rw [(rk κ k1).1];exact q2 C hC
 have hL:∀(cs:List CV) (vs:List Value),Z6 e O w cs vs->Z6 e' (O.ren τ τ2) w (cs.map (ZnK τ τ2)) vs:=fun cs=>by
  induction cs with
  | nil=>intro vs hr;exact hr
  | cons c cs ih=>
   intro vs hr;simp only [Am.Z6] at hr;obtain ⟨v,vs',rfl,q1,q2⟩:=hr;simp only [List.map_cons,Am.Z6];exact ⟨v,vs',rfl,hC _ _ q1,ih _ q2⟩
 have hP:∀(ps:List (Bool×List CV)) (vs:List Value),Yo e O w ps vs->Yo e' (O.ren τ τ2) w (ps.map fun (p:Bool×List CV)=>(p.1,p.2.map (ZnK τ τ2))) vs:=fun ps=>by
  induction ps with
  | nil=>intro vs hr;exact hr
  | cons p ps ih=>
   intro vs hr;simp only [Yo] at hr;obtain ⟨v,vs',rfl,q1,q2⟩:=hr;simp only [List.map_cons,Yo];refine ⟨v,vs',rfl, ?_,ih _ q2⟩;obtain ⟨b,cs⟩:=p;cases b
   ·obtain ⟨c,rfl,q1⟩:=q1;exact ⟨_,rfl,hC _ _ q1⟩
   ·obtain ⟨us,rfl,q1⟩:=q1;exact ⟨us,rfl,hL _ _ q1⟩
 have hV:∀(x:V) (v:Value),x.rel e O w v->(Zwh τ τ2 x).rel e' (O.ren τ τ2) w v:=fun x v hr=>by
  cases x with
  | one c=>exact hC c v hr
  | agg cs=>obtain ⟨us,rfl,q1⟩:=hr;exact ⟨us,rfl,hL _ _ q1⟩
  | tup ps=>obtain ⟨us,rfl,q1⟩:=hr;exact ⟨us,rfl,hP _ _ q1⟩
  | dead=>exact hr
 have hlive:∀κ,live (O.ren τ τ2) κ->∃κ0,live O κ0/\blk e' κ=blk e κ0/\(ZiW κ↔ZiW κ0)/\(κ0=κ\/(κ0= .a τ/\κ= .a τ2)):=fun κ hl=>by
  cases κ with
  | b k=>
   obtain ⟨cs,q1⟩:=hl;obtain ⟨ds,q2,_⟩:=bxl k cs q1;exact ⟨.b k,⟨ds,q2⟩,by simp [blk,rβ],Iff.rfl,.inl rfl⟩
  | a κ=>
   obtain ⟨B,q1⟩:=hl
   by_cases k1:κ=τ2
   ·subst k1;exact ⟨.a τ,⟨A,hA⟩,by simp only [blk];exact r2.2,by simp only [ZiW];omega,.inr ⟨rfl,rfl⟩⟩
   ·by_cases k2:κ=τ
    ·rw [k2,lookτ] at q1;cases q1
    ·rw [look κ k1 k2] at q1;exact ⟨.a κ,⟨B,q1⟩,by simp only [blk];exact (rk κ k1).2,Iff.rfl,.inl rfl⟩
 have noτ:¬live (O.ren τ τ2) (.a τ):=fun ⟨B,q1⟩=>by rw [lookτ] at q1;cases q1
 refine ⟨h.nt,h.df,fun t x ht=> ?_,fun k cs hk=> ?_,fun κ B hB=> ?_,fun κ κ' hl hl' hn=> ?_,h.fr,⟨fun b hb=>rb▸h.bad.1 b hb,fun b hb=>⟨(h.bad.2 b (rb▸hb)).1,fun κ hl hbk=> ?_⟩⟩,fun κ hl hdp b hb=> ?_,fun k cs hk hle=> ?_,h.tn,fun κ b hl hb=> ?_⟩
 ·have h1:(O.tm.lookup t).map (Zwh τ τ2)=some x:=by rw [<-ZcI];exact ht
  obtain ⟨x0,q1,rfl⟩:=Option.map_eq_some_iff.1 h1;exact hV _ _ (h.tm t x0 q1)
 ·obtain ⟨ds,q1,rfl⟩:=bxl k cs hk;obtain ⟨g1,g2⟩:=h.bx k ds q1;rw [rβ];exact ⟨g1,g2.imp (fun vs g3=>hL _ _ g3) fun es h0=>by rw [h0];rfl⟩
 ·have key:∀κ0,O.ar.lookup κ0=some (some B)->VJ N (Mut e' (O.ren τ τ2)) w B (e.ρ κ0) (e.φ κ0):=fun κ0 q0=>by
   obtain ⟨p,c,hv,hc,h4| ⟨b,t,cur,Fs,W,q1,q2,q3,q4,q5,q6,q7,q8⟩⟩:=h.ar κ0 B q0
   ·exact ⟨p,c,hv,hc,.inl h4⟩
   ·refine ⟨p,c,hv,hc,.inr ⟨b,t,cur,Fs,W,q1,q2,q3,q4,q5,q6,q7, ?_⟩⟩;rcases q8 with q8| ⟨g1,g2,g3,g4⟩
    ·exact .inl q8
    ·exact .inr ⟨g1,g2,g3,fun x hx hm=>g4 x hx (hmu x hm)⟩
  by_cases k1:κ=τ2
  ·subst k1;rw [look2] at hB;obtain rfl:=Zz9 (Zz9 hB);rw [r2.1,r2.2];exact key τ hA
  ·by_cases k2:κ=τ
   ·rw [k2,lookτ] at hB;cases hB
   ·rw [look κ k1 k2] at hB;rw [(rk κ k1).1,(rk κ k1).2];exact key κ hB
 ·obtain ⟨κ0,g1,g2,_,g3⟩:=hlive κ hl;obtain ⟨κ0',g1',g2',_,g3'⟩:=hlive κ' hl';rw [g2,g2'];refine h.sep κ0 κ0' g1 g1' fun heq=> ?_;rcases g3 with g3| ⟨g3,g4⟩<;>rcases g3' with g3'| ⟨g3',g4'⟩
  ·exact hn (by rw [<-g3,<-g3',heq])
  ·exact noτ (by rw [<-g3',<-heq,g3];exact hl)
  ·exact noτ (by rw [<-g3,heq,g3'];exact hl')
  ·exact hn (by rw [g4,g4'])
 ·obtain ⟨κ0,g1,g2,g3,_⟩:=hlive κ hl;rw [g2] at hbk;exact g3.2 ((h.bad.2 b (rb▸hb)).2 κ0 g1 hbk)
 ·obtain ⟨κ0,g1,g2,g3,_⟩:=hlive κ hl;rw [g2] at hb;rw [rb];exact h.dk κ0 g1 (g3.1 hdp) b hb
 ·obtain ⟨ds,q1,_⟩:=bxl k cs hk;rw [rβ];exact h.pn k ds q1 hle
 ·cases κ with
  | b k=>
   obtain ⟨cs,hk⟩:=hl;obtain ⟨ds,q1,_⟩:=bxl k cs hk;exact h.tp (.b k) b ⟨ds,q1⟩ (by simp only [tpB,rβ] at hb ⊢;exact hb)
  | a κ=>
   obtain ⟨B,hB⟩:=hl
   by_cases k1:κ=τ2
   ·subst k1;rcases hb with hb| ⟨hb,_⟩
    ·exact h.tp (.a τ) b ⟨A,hA⟩ (.inl (by rw [<-r2.1];exact hb))
    ·omega
   ·by_cases k2:κ=τ
    ·rw [k2,lookτ] at hB;cases hB
    ·rw [look κ k1 k2] at hB;exact h.tp (.a κ) b ⟨B,hB⟩ (by simp only [tpB,(rk κ k1).1,(rk κ k1).2] at hb ⊢;exact hb)
theorem Zru {τ τ2:Nat} (hA:(match O.ar.lookup τ with | some (some _)=>True| _=>False)) (h2:O.ar.lookup τ2=none) (hd:τ<1000000) (hd2:τ2<1000000):Zai (O.ren τ τ2) O:=fun N w0 a w ⟨e,h⟩=>by
 split at hA
 ·rename_i A hA';exact ⟨_,h.ren hA' h2 hd hd2⟩
 ·exact hA.elim
def St.ZcB (O:St) (τ:Nat):St:=⟨O.nt,O.tm,O.bx,(τ,match O.ar.lookup τ with | some (some A)=>some ⟨false,A.es⟩| _=>none)::O.ar⟩
theorem Zz.ZcB (h:Zz N w0 e O a w) {τ:Nat} {A:Arr} (hA:O.ar.lookup τ=some (some A)) (hd:τ<1000000):∃e',Zz N w0 e' (O.ZcB τ) a w:=by
 have lookτ:(O.ZcB τ).ar.lookup τ=some (some ⟨false,A.es⟩):=by simp [St.ZcB,hA]
 have look:∀κ,κ≠τ->(O.ZcB τ).ar.lookup κ=O.ar.lookup κ:=fun κ k1=>by simp only [St.ZcB,lookup_cons,if_neg k1]
 obtain ⟨e',he'⟩:∃e':Env,e'=⟨e.β,e.ρ,fun κ=>if κ=τ then (match (e.ρ τ).ownBlock with | some b=>[b]| none=>[]) else e.φ κ,e.bad⟩:=⟨_,rfl⟩;have rβ:e'.β=e.β:=by rw [he']
 have rρ:e'.ρ=e.ρ:=by rw [he']
 have rb:e'.bad=e.bad:=by rw [he']
 have hφ:e'.φ τ=(match (e.ρ τ).ownBlock with | some b=>[b]| none=>[]):=by rw [he'];simp
 have hφ':∀κ,κ≠τ->e'.φ κ=e.φ κ:=fun κ hk=>by rw [he'];simp [hk]
 have hmu:∀b,Mut e' (O.ZcB τ) b->Mut e O b:=fun b hm=>by
  rcases hm with h0| ⟨k,cs,h1,h3⟩| ⟨κ,B,h1,h3⟩
  ·exact .inl (rb▸h0)
  ·exact .inr (.inl ⟨k,cs,h1,rβ▸h3⟩)
  ·rw [rρ] at h3
   by_cases k1:κ=τ
   ·subst k1;exact .inr (.inr ⟨κ,A,hA,h3⟩)
   ·rw [look κ k1] at h1;exact .inr (.inr ⟨κ,B,h1,h3⟩)
 have u:Up e O w e' (O.ZcB τ) w:=⟨ZAe _,fun _ _ _=>rfl,fun b _ hm=>hmu b hm,fun k cs hk=>⟨⟨cs,hk⟩,by rw [rβ]⟩,fun κ B hB=>by
  by_cases k1:κ=τ
  ·subst k1;rw [hA] at hB;obtain rfl:=Zz9 hB;exact ⟨_,lookτ,fun B' hB'=>by obtain rfl:=Zz9 hB';exact ⟨A,rfl,ZAe _,fun _=>by rw [rρ]⟩⟩
  ·exact ⟨B,by rw [look κ k1];exact hB,fun B' hB'=>⟨B',hB',ZAe _,fun _=>by rw [rρ]⟩⟩,fun _ _ _ _=>⟨by rw [rρ],fun _ _=>rfl⟩⟩
 have hsub:∀b∈e'.φ τ,b∈e.φ τ:=fun b hb=>by
  rw [hφ] at hb;cases ho:(e.ρ τ).ownBlock with
  | none=>rw [ho] at hb;simp at hb
  | some c=>rw [ho] at hb;simp at hb;subst hb;exact ((h.ar τ A hA).own ho).1
 refine ⟨e',h.Zox u (fun κ=>κ= .a τ) h.nt h.df (fun t v ht=>.inl ⟨ht,rfl⟩) (fun k cs hk _=>⟨hk,rfl⟩) (fun κ B hB hK=> ?_) (fun k cs _ hK=>by cases hK) (fun κ B hB hK=> ?_) (fun κ hl hK b hb=> ?_) (fun κ κ' _ _ hne h1 h2=>absurd (h1.trans h2.symm) hne) h.fr (fun _ h=>rb▸h) (fun _ h=>.inl (rb▸h)) (fun κ _ hK hdp=> ?_) (fun k cs _ hK=>by cases hK) (fun κ b _ hK hb=>by
  subst hK;rcases hb with hb| ⟨hb,_⟩
  ·rw [rρ] at hb;exact h.tp (.a τ) b ⟨A,hA⟩ (.inl hb)
  ·omega)⟩
 ·have k1:κ≠τ:=fun e1=>hK (by rw [e1]);rw [look κ k1] at hB;exact ⟨hB,by rw [rρ],hφ' κ k1,fun _ _=>rfl⟩
 ·injection hK with hK
  subst hK;rw [lookτ] at hB;obtain rfl:=Zz9 (Zz9 hB);rw [rρ];obtain ⟨p,c,hv,hc,h4| ⟨b,t,cur,Fs,W,q1,q2,q3,q4,q5,q6,q7,q8⟩⟩:=h.ar κ A hA
  ·refine ⟨p,c,hv,hc,.inl ⟨h4.1,h4.2.1,h4.2.2.1, ?_⟩⟩;rw [hφ,hv,h4.2.1];rfl
  ·have ho:(e.ρ κ).ownBlock=some b:=by rw [hv,q1];rfl
   refine ⟨p,c,hv,hc,.inr ⟨b,t,cur,Fs,W,q1,q2,q3,q4,q5,q6,q7,.inr ⟨rfl,by rw [hφ,ho], ?_⟩⟩⟩;rcases q8 with ⟨g1,g2,g3,g4⟩| ⟨g1,g2,g3,g4⟩
   ·refine ⟨g4.rp,fun x hx hm=>h.inner hA hd (by simp [g2,hx]) ?_ (hmu x hm)⟩;rw [ho];intro e1;obtain rfl:=Zz9 e1;rw [g2] at g3;exact (List.nodup_cons.1 g3).1 hx
   ·exact ⟨g3,fun x hx hm=>g4 x hx (hmu x hm)⟩
 ·subst hK;exact .inl ⟨⟨A,hA⟩,hsub b hb⟩
 ·subst hK;have:1000000<=τ:=hdp;omega
def ZaR:List Nat->St->Prop
 | [],_=>True
 | τ::τs,O=>(match O.ar.lookup τ with | some (some _)=>True| _=>False)/\τ<1000000/\ZaR τs (O.ZcB τ)
theorem Kr:∀{τs:List Nat} {O:St},ZaR τs O->Zai (τs.foldl St.ZcB O) O
 | [],_,_=>fun _ _ _ _ h=>h
 | τ::τs,O,⟨h1,h2,h3⟩=>fun N w0 a w ⟨e,h⟩=>by
  split at h1
  ·rename_i A hA;exact Kr h3 N w0 a w (h.ZcB hA h2)
  ·exact h1.elim
variable {Q:Exit->St->Prop} {x y c:Code}
theorem JJ (k:Zai O' O) (h:AW P N w0 c Q O'):AW P N w0 c Q O:=fun a w hs=>h a w (k _ _ _ _ hs)
theorem Zot {ι:Type} (S:ι->St) (I:ι->Prop) (hx:∀K:St->Prop,(∀i O',I i->Zai (S i) O'->K O')->AW P N w0 x (Kq K Q) O) (hy:∀i,I i->AW P N w0 y Q (S i)):AW P N w0 (.seq x y) Q O:=
 YP fun K hK=>hx K fun i O' hi hk=>hK O' (JJ hk (hy i hi))
theorem Zi0 {ι:Type} (S:ι->St) (I:Nat->ι->Prop) (n0:Nat) (i0:ι) (h0:I n0 i0) (hk:Zai (S i0) O) (hz:∀i,¬I 0 i)
  (body:∀(KL:St->Prop) (n:Nat) (i:ι),(∀i' O',I n i'->Zai (S i') O'->KL O')->I (n+1) i->AW P N w0 c (Kq KL Q) (S i)):AW P N w0 (.loop c) Q O:=by
 have key:∀n i a w,I n i->Sim N w0 (S i) a w->Code.rounds P c (fun e a w=>∃O',Q e O'/\Sim N w0 O' a w) n a w:=by
  intro n
  induction n with
  | zero=>intro i a w hI;exact (hz i hI).elim
  | succ n ih=>
   intro i a w hI hsim;rw [rounds_succ];refine Code.wp_mono (fun e a' w' hq=> ?_) (body (fun O'=>∃i',I n i'/\Zai (S i') O') n i (fun i' O' h1 h2=>⟨i',h1,h2⟩) hI a w hsim);obtain ⟨O',h1,h2⟩:=hq;cases e with
   | normal=>
    obtain ⟨i',hI',hk'⟩:=h1;exact ih i' a' w' hI' (hk' _ _ _ _ h2)
   | _=>exact ⟨O',h1,h2⟩
 intro a w hs;exact wp_loop_rounds n0 (key _ i0 a w h0 (hk _ _ _ _ hs))
def Za5 (P:Program) (f:Nat) (ds:List DV) (pu:Bool) (X:Bool->Bool->List DV->Prop) (Y:Prop):Prop:=(∃fr dp rs,Ctr P f ds fr rs/\(fr=false->pu=true)/\X fr dp rs)\/Y
theorem ZsH {f:Nat} {ds ds':List DV} {fr pu:Bool} {rs:List DV} {X:Bool->Bool->List DV->Prop} {Y:Prop} (dp:Bool) (h:Ctr P f ds fr rs) (hd:ds'=ds) (hp:fr=false->pu=true) (hx:X fr dp rs):Za5 P f ds' pu X Y:=
 .inl ⟨fr,dp,rs,hd▸h,hp,hx⟩
theorem Zpi {ops:Array Oper} {o:Oper} {rest:List Oper} {K:St->Prop} {f:Nat} {vs:Option (List V)} {ds:List DV} {pu:Bool} {p:Prop}:ZkI P ops o rest O K f vs (some (ds,pu,p))=(p/\Za5 P f ds pu (fun fr dp rs=>ZkH P ops rest O K (Qq O o.dst fr dp rs)) (XBy P O o.dst f vs fun g=>ZW P ops rest (O.app g) K)):=rfl
def Zwi (O:St) (dst:Option Nat) (j:Nat) (d1:List DV) (ls:List L) (d2:List DV) (fr:Bool) (rs:List DV) (ls':List L) (Z:Eff->Prop):Option (List DV×Nat×List L×List DV×List Nat×Prop)->Prop
 | some (e1,k,l,e2,τs,p)=>p/\e1=d1/\l=ls/\e2=d2/\(match VL O dst k τs fr rs ls' with | some g=>Z g| none=>False)
 | none=>False
theorem Zv1 {f:Nat} {dst:Option Nat} {vs:List V} {d1 d2:List DV} {ls ls':List L} {fr:Bool} {rs:List DV} {Z:Eff->Prop} (j:Nat) (h:ZcU P f d1 ls d2 fr rs ls') (hx:Zwi O dst j d1 ls d2 fr rs ls' Z (ZkS O j vs)):XBy P O dst f (some vs) Z:=by
 unfold Zwi at hx
 split at hx
 ·rename_i e1 k l e2 τs p hA;obtain ⟨hp,rfl,rfl,rfl,hz⟩:=hx
  split at hz
  ·rename_i g hg;exact ⟨vs,g,rfl,.ptr j _ k _ _ τs p fr rs ls' g hA hp h hg,hz⟩
  ·exact hz.elim
 ·exact hx.elim
def Zv3 (O:St) (dst:Option Nat) (ds:List DV) (cs:List L) (Z:Eff->Prop):Option (List DV×List Nat×Prop)->Prop
 | some (e,τs,p)=>p/\e=ds/\(match dst with | some d=>d<O.nt/\O.bx.lookup d=none/\Z ⟨True,[(d,.one (.box d 0))],[(d,cs.map .l)],τs.map fun τ=>(τ,none)⟩| none=>False)
 | none=>False
theorem Zv2 {f:Nat} {dst:Option Nat} {vs:List V} {ds:List DV} {cs:List L} {Z:Eff->Prop} (h:Zr8 P f ds cs) (hx:Zv3 O dst ds cs Z (Zf2 O vs)):XBy P O dst f (some vs) Z:=by
 unfold Zv3 at hx
 split at hx
 ·rename_i e τs p hA;obtain ⟨hp,rfl,hz⟩:=hx
  split at hz
  ·rename_i d;exact ⟨vs,_,rfl,.box _ τs p cs d hA hp h rfl hz.1 hz.2.1,hz.2.2⟩
  ·exact hz.elim
 ·exact hx.elim
theorem Zue {f:Nat} {dst:Option Nat} {vs:List V} {ds ds':List DV} {pu:Bool} {X:Bool->Bool->List DV->Prop} {cs:List L} {Z:Eff->Prop} (h:Zr8 P f ds cs) (hx:Zv3 O dst ds cs Z (Zf2 O vs)):Za5 P f ds' pu X (XBy P O dst f (some vs) Z):=.inr (Zv2 h hx)
theorem Znj {ops:Array Oper} {o:Oper} {rest:List Oper} {K:St->Prop} {want:Bool}:WL P ops o rest O K want none=False:=rfl
theorem Zpj {ops:Array Oper} {o:Oper} {rest:List Oper} {K:St->Prop} {f:Nat} {vs:Option (List V)}:ZkI P ops o rest O K f vs none=XBy P O o.dst f vs fun g=>ZW P ops rest (O.app g) K:=rfl
theorem Zo5 {ops:Array Oper} {O0:St} {K:St->Prop} {B As:List (List Nat)} {o:Oper} {rest:List Oper} {i:Nat} {es:List (Nat×Eff)} {f:Nat} {vs:Option (List V)} {ds:List DV} {pu:Bool} {p:Prop}:
  Zo7 P ops O0 K B As o rest i es O f vs (some (ds,pu,p))=(p/\Za5 P f ds pu (fun fr dp rs=>Zm6 P ops O0 K B As rest i es (Qq O o.dst fr dp rs)) (XBy P O o.dst f vs fun g=>ZdB P ops O0 K B As rest (i+1) ((i,g)::es))):=rfl
theorem Zo6 {ops:Array Oper} {O0:St} {K:St->Prop} {B As:List (List Nat)} {o:Oper} {rest:List Oper} {i:Nat} {es:List (Nat×Eff)} {f:Nat} {vs:Option (List V)}:Zo7 P ops O0 K B As o rest i es O f vs none=XBy P O o.dst f vs fun g=>ZdB P ops O0 K B As rest (i+1) ((i,g)::es):=rfl
end
section
variable {α β γ:Type}
def at? (xs:List α) (i:Int):Option α:=if 0<=i then xs[i.toNat]? else none
theorem Zf8 {xs:List α} {i:Int} {x:α} (h:at? xs i=some x):0<=i/\xs[i.toNat]? =some x/\i.toNat<xs.length/\∀h,xs[i.toNat]'h=x:=by
 unfold at? at h
 split at h
 ·exact ⟨by assumption,h,(List.getElem?_eq_some_iff.1 h).1,fun _=>(List.getElem?_eq_some_iff.1 h).2⟩
 ·cases h
def YH (b:Nat) (xs ys:List α):Option (List α):=if xs.length+ys.length<=140737488355328/\(xs.length+ys.length)*b<=140737488355328 then some (xs++ys) else none
theorem WG {b:Nat} {xs ys zs:List α} (h:YH b xs ys=some zs):zs=xs++ys/\xs.length+ys.length<=140737488355328/\(xs.length+ys.length)*b<=140737488355328:=by
 unfold YH at h
 split at h
 ·exact ⟨(Zz9 h).symm,by assumption⟩
 ·cases h
def Zz7 (xs ys:List α):Option (List α):=if xs.length<=9223372036854775807/\ys.length<=9223372036854775807 then some (over xs ys) else none
def mk? (b:Nat) (n:Int):Option Nat:=if 0<=n/\n<=9223372036854775807/\(b:Int)*n<=281474976710656 then some n.toNat else none
theorem ZfS {b:Nat} {n:Int} {m:Nat} (h:mk? b n=some m):m=n.toNat/\0<=n/\n<=9223372036854775807/\(b:Int)*n<=281474976710656:=by
 unfold mk? at h
 split at h
 ·exact ⟨(Zz9 h).symm,by assumption⟩
 ·cases h
def Zz6 (xs:List α) (m:Int):Option (List α):=if 1<=m/\m<=xs.length then some (xs.take m.toNat) else none
def nz? (b:Int):Option Unit:=if b≠0 then some () else none
def ZiE (xs:List α) (l h:Int):Option (List α):=if 0<=l/\l<=h/\h<=xs.length then some ((xs.take h.toNat).drop l.toNat) else none
theorem Zj1 {xs ys:List α} {l r:Int} (h:ZiE xs l r=some ys):ys=(xs.take r.toNat).drop l.toNat/\0<=l/\l<=r/\r<=xs.length:=by
 unfold ZiE at h
 split at h
 ·exact ⟨(Zz9 h).symm,by assumption⟩
 ·cases h
theorem Zps {xs ys:List α} {l r:Int} (h:ZiE xs l r=some ys):ys=(xs.take r.toNat).drop l.toNat/\0<=l/\l<=r/\r<=xs.length/\min r.toNat xs.length=r.toNat/\r.toNat<=xs.length:=by
 obtain ⟨h1,h2,h3,h4⟩:=Zj1 h;exact ⟨h1,h2,h3,h4,Nat.min_eq_left (by omega),by omega⟩
def UN (s:ByteArray) (l h:Int):Option ByteArray:=if 0<=l/\l<=h/\h<=s.size then some (s.extract l.toNat h.toNat) else none
theorem Zln {s t:ByteArray} {l r:Int} (h:UN s l r=some t):t=s.extract l.toNat r.toNat/\0<=l/\l<=r/\r<=s.size:=by
 unfold UN at h
 split at h
 ·exact ⟨(Zz9 h).symm,by assumption⟩
 ·cases h
def Zua (s t:ByteArray):Option ByteArray:=if s.size+t.size<=9223372036854775807 then some (s++t) else none
theorem Zoc {s t u:ByteArray} (h:Zua s t=some u):u=s++t/\s.size+t.size<=9223372036854775807:=by
 unfold Zua at h
 split at h
 ·exact ⟨(Zz9 h).symm,by assumption⟩
 ·cases h
theorem bind_some {o:Option α} {f:α->Option β} {r:β} (h:o.bind f=some r):∃x,o=some x/\f x=some r:=Option.bind_eq_some_iff.1 h
def iC (n:Int):List L:=[.int .i64 n]
def sC (s:ByteArray):List L:=[.str s]
def bC (b:Bool):List L:=[.bool b]
def lC (c:α->List L) (xs:List α):List L:=[.sl (xs.map c)]
end
def tmpsOf:List Operand->List Nat
 | []=>[]
 | .tmp t::r=>t::tmpsOf r
 | _::r=>tmpsOf r
theorem Ko:∀{l:List Operand} {t:Nat},Operand.tmp t∈l->t∈tmpsOf l
 | [],_,h=>by simp at h
 | .tmp u::r,t,h=>by
  rcases List.mem_cons.1 h with h| h
  ·cases h;simp [tmpsOf]
  ·simp [tmpsOf,Ko h]
 | .const _::r,t,h=>by
  rcases List.mem_cons.1 h with h| h
  ·cases h
  ·simp [tmpsOf,Ko h]
 | .global _::r,t,h=>by
  rcases List.mem_cons.1 h with h| h
  ·cases h
  ·simp [tmpsOf,Ko h]
 | .func _::r,t,h=>by
  rcases List.mem_cons.1 h with h| h
  ·cases h
  ·simp [tmpsOf,Ko h]
def Znp (l:List Oper) (o:Oper):List Nat:=
 tmpsOf o.op.operands.toList++(match o.guard with | some (j,_)=>(match (l[j]?).bind (·.dst) with | some d=>[d]| none=>[])| none=>[])
def Zqf (l:List Oper) (A:List (List Nat)) (n:Nat):Bool:=
 ((l.take n).zip A).zipIdx.all (fun ((o,d),i)=>!ZfU o.op&&o.dst.isSome&&(l.take n).zipIdx.all fun (q,j)=>j==i||(q.dst != o.dst&&(d.contains j||(Znp l o).all fun t=>q.dst != some t)))&&
 ((l.zip A).zipIdx.all fun ((_,d),i)=>decide (i<n)||(List.range i).all d.contains)&&decide (n<=l.length)
section
variable {O O':St} {P:Program} {N:Nat->Prop} {w0:Bs}
theorem ZtG {x:Operand} (h:∀t,x= .tmp t->O'.tm.lookup t=O.tm.lookup t):opd O' x=opd O x:=by
 cases x with
 | tmp t=>exact h t rfl
 | _=>rfl
theorem ZtH {x:Operand} (h:opd O' x=opd O x):num O' x=num O x:=by unfold num;rw [h]
theorem Zhb:∀{l:List Operand},(∀x∈l,opd O' x=opd O x)->Xs O' l=Xs O l
 | [],_=>rfl
 | x::l,h=>by
  have h2:=Zhb (l:=l) fun y hy=>h y (List.mem_cons_of_mem _ hy);simp only [Xs,h x (by simp),h2]
theorem ZlI:∀{l:List (Nat×Operand)},(∀p∈l,opd O' p.2=opd O p.2)->parts O' l=parts O l
 | [],_=>rfl
 | (i,x)::l,h=>by
  have h2:=ZlI (l:=l) fun y hy=>h y (List.mem_cons_of_mem _ hy);have h1:opd O' x=opd O x:=h (i,x) (by simp);simp only [parts,h1,h2]
theorem ZlK {d:Int} {x:Option Operand} (h:∀y,x=some y->opd O' y=opd O y):VG O' d x=VG O d x:=by
 cases x with
 | none=>rfl
 | some y=>simp only [VG,ZtH (h y rfl)]
theorem Zqc {op:Op} (hx:∀x∈op.operands.toList,opd O' x=opd O x) (hb:O'.bx=O.bx) (ha:O'.ar=O.ar):Qg P O' op=Qg P O op:=by
 cases op
 case build t ps=>
  have h:parts O' ps.toList=parts O ps.toList:=ZlI fun p hp=>hx p.2 (by simp [Op.operands];exact ⟨p.1,by simpa using hp⟩);simp only [Qg,h]
 case slice t x lo hi mx=>
  have h1:=hx x (by simp [Op.operands]);have h2:∀d,VG O' d lo=VG O d lo:=fun d=>ZlK fun y hy=>hx y (by simp [Op.operands,hy]);have h3:∀d,VG O' d hi=VG O d hi:=fun d=>ZlK fun y hy=>hx y (by simp [Op.operands,hy]);cases mx<;>simp only [Qg,h1,h2,h3,ha]
 case call c=>
  obtain ⟨ce,args,ts⟩:=c;have h1:∀x∈args.toList,opd O' x=opd O x:=fun x hx'=>hx x (by simp [Op.operands,Call.operands];exact .inr (by simpa using hx'));have h2:Xs O' args.toList=Xs O args.toList:=Zhb h1;cases ce with
  | builtin b=>
   cases b<;>simp only [Qg,h2]
   split
   ·rename_i x t hxs hts;rw [h1 x (by rw [hxs];simp)]
   ·rfl
  | _=>simp only [Qg]
 all_goals simp only [Op.operands,List.mem_cons,List.not_mem_nil,or_false,forall_eq,forall_eq_or_imp,List.mem_singleton] at hx
 all_goals first
  | (simp only [Qg];done)
  | (simp only [Qg,num,hx,hb,ha];done)
  | (obtain ⟨h1,h2⟩:=hx;simp only [Qg,num,h1,h2,hb,ha];done)
  | (obtain ⟨h1,h2,h3⟩:=hx;simp only [Qg,num,h1,h2,h3,hb,ha];done)
theorem ZnU (ha:O'.ar=O.ar) (c:CV):Zm1 O' c=Zm1 O c:=by unfold Zm1;rw [ha]
theorem ZnT (ha:O'.ar=O.ar):∀cs:List CV,ZkW O' cs=ZkW O cs
 | []=>rfl
 | c::cs=>by simp only [ZkW,ZnU ha,ZnT ha cs]
theorem ZrC (ha:O'.ar=O.ar) (v:V):ZkV O' v=ZkV O v:=by cases v<;>simp only [ZkV,ZnU ha,ZnT ha]
theorem ZlJ (ha:O'.ar=O.ar):∀vs:List V,WK O' vs=WK O vs
 | []=>rfl
 | v::vs=>by simp only [WK,ZrC ha,ZlJ ha vs]
theorem ZtF {ops:Array Oper} {j:Nat} {want:Bool} (h:∀d,(ops[j]?).bind (·.dst)=some d->O'.tm.lookup d=O.tm.lookup d):yld O' ops j want=yld O ops j want:=by
 unfold yld
 split
 ·rename_i d hd;rw [h d hd]
 ·rfl
theorem ZmN (hn:O'.nt=O.nt) (ha:O'.ar=O.ar) (d:Option Nat) (fr dp:Bool) (rs:List DV):Qq O' d fr dp rs=Qq O d fr dp rs:=by unfold Qq;rw [hn,ha]
theorem ZfT {op:Op} {d:Option Nat} (h:ZfU op=false):XW P O d op=none:=by
 cases op
 case call c=>
  obtain ⟨ce,args,ts⟩:=c;cases ce with
  | builtin b=>cases b<;>first | (simp [ZfU] at h;done)| rfl
  | _=>rfl
 case slice t x lo hi mx=>cases lo<;>cases hi<;>cases mx<;>first | (simp [ZfU] at h;done)| rfl| (rename_i y _;cases y<;>rfl)
 all_goals first | (simp [ZfU] at h;done)| rfl
theorem Zqd {o:Oper} (hm:ZfU o.op=false) (hx:∀x∈o.op.operands.toList,opd O' x=opd O x) (hb:O'.bx=O.bx) (ha:O'.ar=O.ar) (hn:O'.nt=O.nt):JL P O' o=JL P O o:=by
 unfold JL;rw [Zqc hx hb ha,ZfT hm,ZfT hm,hn]
theorem Zqe (ha:O'.ar=O.ar) (c:CV):frC O' c=frC O c:=by unfold frC;rw [ha]
theorem Zkj (ha:O'.ar=O.ar):∀cs:List CV,frL O' cs=frL O cs
 | []=>rfl
 | c::cs=>by simp only [frL,Zqe ha,Zkj ha cs]
theorem ZtI (ha:O'.ar=O.ar) (v:V):frV O' v=frV O v:=by cases v<;>simp only [frV,Zqe ha,Zkj ha]
theorem Zfb (ha:O'.ar=O.ar):∀vs:List V,Zf2 O' vs=Zf2 O vs
 | []=>rfl
 | v::vs=>by simp only [Zf2,ZtI ha,Zfb ha vs]
theorem Zqb {d:Option Nat} {f:Nat} {vs:List V} {g:Eff} (hb:O'.bx=O.bx) (ha:O'.ar=O.ar) (hn:O'.nt=O.nt) (h:ZfB P O d f vs g):ZfB P O' d f vs g:=by
 cases h with
 | ptr j d1 k ls d2 τs p fr rs ls' g h1 h2 h3 h4=>
  refine .ptr j d1 k ls d2 τs p fr rs ls' g ?_ h2 h3 ?_
  ·rw [<-h1];unfold ZkS;simp only [Zfb ha,Zkj ha,hb]
  ·rw [<-h4];unfold VL;rw [hn,ha]
 | ptrS j d1 k ls d2 τs p fr rs ls' g cells h1 h2 h3 h4 h5=>
  refine .ptrS j d1 k ls d2 τs p fr rs ls' g cells ?_ h2 h3 ?_ (hb▸h5)
  ·rw [<-h1];unfold ZkS;simp only [Zfb ha,Zkj ha,hb]
  ·rw [<-h4];unfold VL;rw [hn,ha]
 | box ds τs p cs d h1 h2 h3 h4 h5 h6=>exact .box ds τs p cs d ((Zfb ha vs).trans h1) h2 h3 h4 (hn▸h5) (hb▸h6)
 | froz ds τs p rs d h1 h2 h3 h4 h5=>exact .froz ds τs p rs d ((Zfb ha vs).trans h1) h2 h3 h4 (hn▸h5)
 | hand g h1=>exact .hand g (h1.le ⟨hn,fun k cs h=>by rw [hb];exact h,fun τ A h=>by rw [ha];exact h,fun _ _ h=>by rw [hb];exact h,fun _ _ h=>by rw [ha];exact h⟩)
theorem ZlE {d:Option Nat} {k:Nat} {τs:List Nat} {fr:Bool} {rs:List DV} {ls:List L} {g:Eff} (h4:VL O d k τs fr rs ls=some g):∀k∈ZF g.tm,d=some k:=by
 unfold VL at h4
 split at h4
 ·obtain rfl:=Zz9 h4;intro k hk;simp [ZF] at hk
 ·split at h4
  ·split at h4
   ·split at h4
    ·obtain rfl:=Zz9 h4;intro k hk;simp [ZF] at hk;rw [hk]
    ·cases h4
   ·obtain rfl:=Zz9 h4;intro k hk;simp [ZF] at hk;rw [hk]
  ·cases h4
theorem Zre {d:Option Nat} {f:Nat} {vs:List V} {g:Eff} (h:ZfB P O d f vs g):∀k∈ZF g.tm,d=some k:=by
 cases h with
 | ptr j d1 k ls d2 τs p fr rs ls' g h1 h2 h3 h4=>exact ZlE h4
 | ptrS j d1 k ls d2 τs p fr rs ls' g cells h1 h2 h3 h4 h5=>exact ZlE (g:=g) h4
 | box ds τs p cs d h1 h2 h3 h4 h5 h6=>intro k hk;simp [ZF] at hk;rw [hk];exact h4
 | froz ds τs p rs d h1 h2 h3 h4 h5=>intro k hk;simp [ZF] at hk;rw [hk];exact h4
 | hand g h1=>intro k hk;obtain ⟨p,hp,rfl⟩:=List.mem_map.1 hk;exact h1.2.1 p hp
theorem Zst {o:Oper} {g:Eff} (hm:ZfU o.op=false) (hx:∀x∈o.op.operands.toList,opd O' x=opd O x) (hb:O'.bx=O.bx) (ha:O'.ar=O.ar) (hn:O'.nt=O.nt) (h0:g.ar=[]) (hv:Ev P O o g):Ev P O' o g:=by
 cases hv with
 | step g h hs=>exact .step g ((Zqd hm hx hb ha hn).trans h) hs
 | call f xs vs ds pu p fr dp rs g h1 h2 h3 h4 h5 h6 h7=>
  refine .call f xs vs ds pu p fr dp rs g h1 ?_ ((ZlJ ha vs).trans h3) h4 h5 h6 ((ZmN hn ha _ _ _ _).trans h7);rw [<-h2];refine Zhb fun x hx'=>hx x ?_;unfold Xg at h1
  split at h1
  ·rename_i f' xs' ts ho;obtain ⟨rfl,rfl⟩:=Prod.mk.inj (Zz9 h1);rw [ho];simp [Op.operands,Call.operands];exact .inr (by simpa using hx')
  ·cases h1
 | xcall f xs vs g h1 h2 h3=>
  refine .xcall f xs vs g h1 ?_ (Zqb hb ha hn h3);rw [<-h2];refine Zhb fun x hx'=>hx x ?_;unfold Xg at h1
  split at h1
  ·rename_i f' xs' ts ho;obtain ⟨rfl,rfl⟩:=Prod.mk.inj (Zz9 h1);rw [ho];simp [Op.operands,Call.operands];exact .inr (by simpa using hx')
  ·cases h1
 | hand g h1=>rcases h1.1 with k| k;rw [hm] at k;cases k;exact absurd h0 k
theorem ZvF {o:Oper} {g:Eff} (hm:ZfU o.op=false) (hv:Ev P O o g):∀k∈ZF g.tm,o.dst=some k:=by
 cases hv with
 | step g h hs=>
  unfold JL at h;rw [ZfT hm] at h
  split at h
  ·split at h
   ·rename_i d hd
    split at h
    ·obtain rfl:=Zz9 h;intro k hk;simp [ZF] at hk;rw [hk];exact hd
    ·cases h
   ·obtain rfl:=Zz9 h;intro k hk;simp [ZF] at hk
  ·cases h
 | call f xs vs ds pu p fr dp rs g h1 h2 h3 h4 h5 h6 h7=>
  unfold Qq at h7
  split at h7
  ·obtain rfl:=Zz9 h7;intro k hk;simp [ZF] at hk
  ·rename_i d hd
   split at h7
   ·split at h7
    ·split at h7
     ·obtain rfl:=Zz9 h7;intro k hk;simp [ZF] at hk;rw [hk];exact hd
     ·cases h7
    ·obtain rfl:=Zz9 h7;intro k hk;simp [ZF] at hk;rw [hk];exact hd
   ·cases h7
 | xcall f xs vs g h1 h2 h3=>exact Zre h3
 | hand g h1=>intro k hk;obtain ⟨p,hp,rfl⟩:=List.mem_map.1 hk;exact h1.2.1 p hp
theorem ZvG {ops:Array Oper} {o:Oper} {g:Eff} (hm:ZfU o.op=false) (hv:EvG P ops O o g):∀k∈ZF g.tm,o.dst=some k:=by
 cases hv with
 | plain g hg h=>exact ZvF hm h
 | yes g j want hg hy h=>exact ZvF hm h
 | no j want hg hy=>
  intro k hk;cases hd:o.dst with
  | none=>rw [hd] at hk;simp [ZF] at hk
  | some d=>rw [hd] at hk;simp [ZF] at hk;rw [hk]
theorem ZtJ {l:List Oper} {o:Oper} {g:Eff} (hm:ZfU o.op=false) (hx:∀t∈Znp l o,O'.tm.lookup t=O.tm.lookup t) (hb:O'.bx=O.bx) (ha:O'.ar=O.ar) (hn:O'.nt=O.nt) (h0:g.ar=[]) (hv:EvG P l.toArray O o g):EvG P l.toArray O' o g:=by
 have h1:∀x∈o.op.operands.toList,opd O' x=opd O x:=fun x hx'=>ZtG fun t ht=>hx t (by
  subst ht;exact List.mem_append_left _ (Ko hx'))
 have h2:∀j want,o.guard=some (j,want)->yld O' l.toArray j want=yld O l.toArray j want:=fun j want hg=>ZtF fun d hd=>hx d (by
  refine List.mem_append_right _ ?_;rw [hg];simp only [List.getElem?_toArray] at hd;simp only [hd];simp)
 cases hv with
 | plain g hg h=>exact .plain g hg (Zst hm h1 hb ha hn h0 h)
 | yes g j want hg hy h=>exact .yes g j want hg ((h2 j want hg).trans hy) (Zst hm h1 hb ha hn h0 h)
 | no j want hg hy=>exact .no j want hg ((h2 j want hg).trans hy)
def Vp (O:St):List Eff->St
 | []=>O
 | g::gs=>Vp (O.app g) gs
theorem Zf7 {ops:Array Oper}:∀{l:List Oper} {O:St} {K:St->Prop},ZW P ops l O K->
  ∃gs:List Eff,gs.length=l.length/\K (Vp O gs)/\∀i o g,l[i]? =some o->gs[i]? =some g->EvG P ops (Vp O (gs.take i)) o g
 | [],O,K,h=>⟨[],rfl,by simpa [ZcT,Vp] using h,by simp⟩
 | ⟨d,op,ty,pos,af,gd⟩::rest,O,K,h=>by
  have step:∀g,EvG P ops O ⟨d,op,ty,pos,af,gd⟩ g->ZW P ops rest (O.app g) K->
    ∃gs:List Eff,gs.length=rest.length+1/\K (Vp O gs)/\∀i o g,(⟨d,op,ty,pos,af,gd⟩::rest)[i]? =some o->gs[i]? =some g->EvG P ops (Vp O (gs.take i)) o g:=by
   intro g hg hr;obtain ⟨gs,k1,k2,k3⟩:=Zf7 hr;refine ⟨g::gs,by simp [k1],k2,fun i o g' ho hg'=> ?_⟩;cases i with
   | zero=>simp at ho hg';subst ho hg';exact hg
   | succ i=>simp at ho hg';exact k3 i o g' ho hg'
  have run:Zni P ops ⟨d,op,ty,pos,af,gd⟩ rest O K (Xg op)->∃g,Ev P O ⟨d,op,ty,pos,af,gd⟩ g/\ZW P ops rest (O.app g) K:=by
   intro hr;unfold Zni at hr
   split at hr
   ·rename_i f xs hc;unfold ZkI at hr
    split at hr
    ·rename_i ds pu p hd;obtain ⟨hp,⟨fr,dp,rs,h5,h6,h7⟩| ⟨vs,g,hvs,hx,hg⟩⟩:=hr
     ·unfold ZkH at h7
      split at h7
      ·rename_i g hg;obtain ⟨vs,hvs,hd⟩:=Option.bind_eq_some_iff.1 hd;exact ⟨g,.call f xs vs ds pu p fr dp rs g hc hvs hd hp h5 h6 hg,h7.2⟩
      ·exact h7.elim
     ·exact ⟨g,.xcall f xs vs g hc hvs hx,hg⟩
    ·obtain ⟨vs,g,hvs,hx,hg⟩:=hr;exact ⟨g,.xcall f xs vs g hc hvs hx,hg⟩
   ·unfold ZiC at hr
    split at hr
    ·rename_i g hg;exact ⟨g,.step g hg hr.1,hr.2⟩
    ·obtain ⟨g,hg,hr⟩:=hr;exact ⟨g,.hand g hg,hr⟩
  cases gd with
  | none=>
   rw [J3] at h;obtain ⟨g,h1,h2⟩:=run h;exact step g (.plain g rfl h1) h2
  | some p=>
   obtain ⟨j,want⟩:=p;rw [J4] at h;unfold WL at h
   split at h
   ·rename_i b hy
    by_cases hb:b=want
    ·obtain ⟨g,h1,h2⟩:=run (h.1 hb);exact step g (.yes g j want rfl (by rw [hy,hb]) h1) h2
    ·have hb':(!b)=want:=by cases b<;>cases want<;>simp_all
     have h2:=h.2 hb';rw [ZtQ] at h2;exact step _ (.no j want rfl (by rw [hy];cases b<;>cases want<;>simp_all)) h2
   ·exact h.elim
theorem Ziy:∀(gs:List Eff) (O:St) (g:Eff),Vp O (gs++[g])=(Vp O gs).app g
 | [],_,_=>rfl
 | x::gs,O,g=>Ziy gs (O.app x) g
theorem ZaN:∀(gs hs:List Eff) (O:St),Vp O (gs++hs)=Vp (Vp O gs) hs
 | [],_,_=>rfl
 | x::gs,hs,O=>ZaN gs hs (O.app x)
theorem Zmb:∀(gs:List Eff) (O:St),(Vp O gs).bx.length=(gs.map (·.bx.length)).sum+O.bx.length
 | [],_=>by simp [Vp]
 | x::gs,O=>by simp only [Vp,Zmb gs,St.app,List.length_append,List.map_cons,List.sum_cons];omega
theorem Zmc:∀(gs:List Eff) (O:St),(Vp O gs).ar.length=(gs.map (·.ar.length)).sum+O.ar.length
 | [],_=>by simp [Vp]
 | x::gs,O=>by simp only [Vp,Zmc gs,St.app,List.length_append,List.map_cons,List.sum_cons];omega
theorem Zj0:∀{l:List Nat},l.sum=0->∀x∈l,x=0
 | [],_,_,h=>by simp at h
 | y::l,hs,x,h=>by
  simp only [List.sum_cons] at hs;rcases List.mem_cons.1 h with rfl| h
  ·omega
  ·exact Zj0 (by omega) x h
def Zii (O0:St):List Oper->Prop
 | []=>True
 | o::r=>(match o.dst with | some d=>O0.tm.lookup d=none| none=>True)/\Zii O0 r
theorem ZlR {O0:St}:∀{l:List Oper},Zii O0 l->∀o∈l,∀d,o.dst=some d->O0.tm.lookup d=none
 | [],_,_,h,_,_=>by simp at h
 | x::l,hf,o,h,d,hd=>by
  simp only [Zii] at hf;rcases List.mem_cons.1 h with rfl| h
  ·have:=hf.1;rw [hd] at this;exact this
  ·exact ZlR hf.2 o h d hd
structure Zyo (l:List Oper) (A:List (List Nat)) (n:Nat):Prop where
 le:n<=l.length
 mem:∀i o,i<n->l[i]? =some o->ZfU o.op=false/\o.dst.isSome=true
 dst:∀i j o q,i<n->j<n->i≠j->l[i]? =some o->l[j]? =some q->q.dst≠o.dst
 use:∀i j o q t,i<n->j<n->i≠j->l[i]? =some o->l[j]? =some q->q.dst=some t->t∈Znp l o->j∈A.getD i []
 all:∀i k,n<=i->i<l.length->k<i->k∈A.getD i []
theorem ZoJ {l:List Oper} {A:List (List Nat)} {n:Nat} (hl:A.length=l.length) (h:Zqf l A n=true):Zyo l A n:=by
 unfold Zqf at h;simp only [ZAd,decide_eq_true_eq] at h;obtain ⟨⟨h1,h2⟩,h3⟩:=h
 have hA:∀i,i<l.length->A[i]? =some (A.getD i []):=by
  intro i hi;have h1:i<A.length:=by omega
  rw [List.getD_eq_getElem?_getD,ZAg h1];rfl
 have zipAt:∀i o,i<n->l[i]? =some o->((o,A.getD i []),i)∈((l.take n).zip A).zipIdx:=by
  intro i o hi ho;have hil:=(List.getElem?_eq_some_iff.1 ho).1;refine List.mem_zipIdx_iff_getElem?.2 ?_;simp only;rw [List.getElem?_zip_eq_some];exact ⟨by rw [List.getElem?_take];simp [hi,ho],hA i hil⟩
 have zipAt':∀i o,i<l.length->l[i]? =some o->((o,A.getD i []),i)∈(l.zip A).zipIdx:=by
  intro i o hi ho;refine List.mem_zipIdx_iff_getElem?.2 ?_;simp only;rw [List.getElem?_zip_eq_some];exact ⟨ho,hA i hi⟩
 have idxAt:∀j q,j<n->l[j]? =some q->(q,j)∈(l.take n).zipIdx:=by
  intro j q hj hq;refine List.mem_zipIdx_iff_getElem?.2 ?_;simp only;rw [List.getElem?_take];simp [hj,hq]
 have key:∀i o,i<n->l[i]? =some o->(ZfU o.op=false/\o.dst.isSome=true)/\∀j q,j<n->i≠j->l[j]? =some q->q.dst≠o.dst/\(j∈A.getD i []\/∀t∈Znp l o,q.dst≠some t):=by
  intro i o hi ho;have:=List.all_eq_true.1 h1 _ (zipAt i o hi ho);simp only [ZAd,Bool.not_eq_true'] at this;refine ⟨⟨this.1.1,this.1.2⟩,fun j q hj hne hq=> ?_⟩;have h4:=List.all_eq_true.1 this.2 _ (idxAt j q hj hq);simp only [Bool.or_eq_true,ZAd,beq_iff_eq,bne_iff_ne,List.contains_iff_mem,List.all_eq_true] at h4;rcases h4 with h4| h4
  ·exact absurd h4.symm hne
  ·exact h4
 refine ⟨h3,fun i o hi ho=>(key i o hi ho).1,fun i j o q hi hj hne ho hq=>((key i o hi ho).2 j q hj hne hq).1,fun i j o q t hi hj hne ho hq ht hu=> ?_,fun i k hi hil hk=> ?_⟩
 ·rcases ((key i o hi ho).2 j q hj hne hq).2 with h| h
  ·exact h
  ·exact absurd ht (h t hu)
 ·have:=List.all_eq_true.1 h2 _ (zipAt' i l[i] hil (ZAg hil));simp only [Bool.or_eq_true,decide_eq_true_eq,List.all_eq_true,List.contains_iff_mem] at this;rcases this with h| h
  ·omega
  ·exact h k (List.mem_range.2 hk)
theorem ZxL {l:List Oper} {A:List (List Nat)} (hd:Za4 l A=true) (hlen:l.length=A.length):∀{i:Nat},i<l.length->∀{k:Nat},k∈A.getD i []->k<1000000->k<i:=by
 obtain ⟨_,hdep⟩:=ZaK hd;intro i
 induction i using Nat.strongRecOn with
 | _ i ih=>
  intro hi k hk hkl;have h1:i<A.length:=by omega
  have h2:A[i]? =some (A.getD i []):=by rw [List.getD_eq_getElem?_getD,ZAg h1];rfl
  obtain ⟨e,he,hb,hor⟩:=(hdep i l[i] _ (ZAg hi) h2).2 k hk hkl;have he2:=((hdep i l[i] _ (ZAg hi) h2).1 e he hb).2;rcases hor with rfl| hor
  ·exact he2
  ·have:=ih e.on he2 (by omega) hor hkl;omega
theorem Zsa {Q:Exit->St->Prop} {O0:St} {id:Nat} {l:List Oper} (A:List (List Nat)) (n:Nat) (hm:P.follows .mixedOrders=true) (hd:Za4 l A=true) (hl:Zqf l A n=true)
  (h:ZW P l.toArray (l.take n) O0 (fun O1=>O1.bx.length=O0.bx.length/\O1.ar.length=O0.ar.length/\Zii O0 (l.take n)/\ZW P l.toArray (l.drop n) O1 (fun O'=>Q .normal O'))) (hnd:A.all (fun d=>d.all fun k=>decide (k<1000000))=true):AW P N w0 (.region id l.toArray true) Q O0:=by
 obtain ⟨hlen,_⟩:=ZaK hd;have hmax:=ZlV hd
 have hnk:∀i k,(A.getD i []).contains (1000000+k)=false:=fun i k=>by
  cases hc:(A.getD i []).contains (1000000+k) with
  | false=>rfl
  | true=>
   by_cases hi:i<A.length
   ·have h1:=List.all_eq_true.1 hnd A[i] (List.getElem_mem hi);have h2:A.getD i []=A[i]:=by rw [List.getD_eq_getElem?_getD,ZAg hi];rfl
    rw [h2] at hc;have:=List.all_eq_true.1 h1 (1000000+k) (by simpa using hc);simp only [decide_eq_true_eq] at this;omega
   ·rw [List.getD_eq_getElem?_getD,List.getElem?_eq_none (by omega)] at hc;simp at hc
 have hfl:∀i (m:List (Nat×List CV)),m.filter (fun p=>!(A.getD i []).contains (1000000+p.1))=m:=fun i m=>List.filter_eq_self.2 fun p _=>by rw [hnk];rfl
 have hnk2:∀i k,(A.getD i []).contains (10000000+k)=false:=fun i k=>by rw [show 10000000+k=1000000+(9000000+k) by omega];exact hnk i _
 have hfl2:∀i (m:List (Nat×Option Arr)),m.filter (fun p=>!(A.getD i []).contains (10000000+p.1))=m:=fun i m=>List.filter_eq_self.2 fun p _=>by rw [hnk2];rfl
 have L:=ZoJ hlen.symm hl;obtain ⟨gs1,a1,⟨a2,a3,a4,a5⟩,a6⟩:=Zf7 h;obtain ⟨gs2,b1,b2,b3⟩:=Zf7 a5;have hn:gs1.length=n:=by rw [a1,List.length_take,Nat.min_eq_left L.le]
 have hb0:∀g∈gs1,g.bx=[]:=by
  intro g hg;rw [Zmb] at a2;have:=Zj0 (show (gs1.map (·.bx.length)).sum=0 by omega) g.bx.length (List.mem_map.2 ⟨g,hg,rfl⟩);exact List.eq_nil_of_length_eq_zero this
 have ha0:∀g∈gs1,g.ar=[]:=by
  intro g hg;rw [Zmc] at a3;have:=Zj0 (show (gs1.map (·.ar.length)).sum=0 by omega) g.ar.length (List.mem_map.2 ⟨g,hg,rfl⟩);exact List.eq_nil_of_length_eq_zero this
 obtain ⟨gs,hgs⟩:∃gs,gs=gs1++gs2:=⟨_,rfl⟩;have hgl:gs.length=l.length:=by rw [hgs,List.length_append,b1,hn,List.length_drop];have:=L.le;omega
 have hgK:Q .normal (Vp O0 gs):=by rw [hgs,ZaN];exact b2
 have hev:∀i o g,l[i]? =some o->gs[i]? =some g->EvG P l.toArray (Vp O0 (gs.take i)) o g:=by
  intro i o g ho hg
  by_cases hi:i<n
  ·rw [hgs,List.getElem?_append_left (by omega)] at hg;rw [hgs,List.take_append_of_le_length (by omega)];exact a6 i o g (by rw [List.getElem?_take,if_pos hi];exact ho) hg
  ·rw [hgs,List.getElem?_append_right (by omega)] at hg;have:=b3 (i-gs1.length) o g (by rw [List.getElem?_drop,show n+(i-gs1.length)=i by omega];exact ho) hg;rw [hgs,List.take_append,List.take_of_length_le (show gs1.length<=i by omega),ZaN];exact this
 have hq:∀i g,i<n->gs[i]? =some g->g∈gs1:=by
  intro i g hi hg;rw [hgs,List.getElem?_append_left (by omega)] at hg;exact List.mem_of_getElem? hg
 have htm:∀i o g,i<n->l[i]? =some o->gs[i]? =some g->∀k∈ZF g.tm,o.dst=some k:=fun i o g hi ho hg=>ZvG (L.mem i o hi ho).1 (hev i o g ho hg);have hAl:∀i,A.drop i=[]↔l.drop i=[]:=by intro i;rw [List.drop_eq_nil_iff,List.drop_eq_nil_iff,hlen]
 refine Zq6 A hm hd ?_
 have main:∀(m i:Nat) (es:List (Nat×Eff)),i+m=l.length->Zcq O0 es=Vp O0 (gs.take i)->(∀p∈es,p.1<i/\gs[p.1]? =some p.2)->Znf P l.toArray O0 (fun O'=>Q .normal O') A (A.drop i) (l.drop i) i es:=by
  intro m
  induction m with
  | zero=>
   intro i es hi hes hp;rw [List.drop_of_length_le (show l.length<=i by omega)];refine Zog _ i es ?_ ?_
   ·
    unfold dOk;refine List.all_eq_true.2 fun p hp1=> ?_;rw [ZAd,ZAd];refine ⟨⟨List.all_eq_true.2 fun r _=>by rw [hnk];rfl,List.all_eq_true.2 fun r _=>by rw [hnk2];rfl⟩,List.all_eq_true.2 fun q hq1=> ?_⟩;obtain ⟨p1,p2⟩:=hp p hp1;obtain ⟨q1,q2⟩:=hp q hq1;have pl:p.1<l.length:=by omega
    have ql:q.1<l.length:=by omega
    simp only [Bool.or_eq_true,beq_iff_eq,List.contains_iff_mem,ZAd,Bool.not_eq_true']
    by_cases hpq:p.1=q.1
    ·exact .inl (.inl (.inl hpq))
    by_cases hpn:n<=p.1
    ·by_cases hqp:q.1<p.1
     ·exact .inl (.inl (.inr (L.all p.1 q.1 hpn pl hqp)))
     ·exact .inl (.inr (L.all q.1 p.1 (by omega) ql (by omega)))
    by_cases hqn:n<=q.1
    ·exact .inl (.inr (L.all q.1 p.1 hqn ql (by omega)))
    by_cases hqA:q.1∈A.getD p.1 []
    ·exact .inl (.inl (.inr hqA))
    right
    have gp:=hq p.1 p.2 (by omega) p2;have gq:=hq q.1 q.2 (by omega) q2;have kp:=htm p.1 l[p.1] p.2 (by omega) (ZAg pl) p2;have kq:=htm q.1 l[q.1] q.2 (by omega) (ZAg ql) q2;have hne:=L.dst p.1 q.1 _ _ (by omega) (by omega) hpq (ZAg pl) (ZAg ql);refine ⟨?_, ?_⟩
    ·unfold apart;rw [hb0 _ gq,ha0 _ gq];simp only [List.all_nil,Bool.and_true,List.all_eq_true,Bool.not_eq_true'];intro r hr;cases hc:(ZF p.2.tm).contains r.1 with
     | false=>rfl
     | true=>
      have e1:=kp r.1 (by simpa using hc);have e2:=kq r.1 (List.mem_map.2 ⟨r,hr,rfl⟩);exact absurd (e2.trans e1.symm) hne
    ·unfold ZjW;rw [hb0 _ gq,ha0 _ gq];simp only [List.any_nil,Bool.or_false];rw [List.any_eq_false];intro r hr;have e2:=kq r.1 (List.mem_map.2 ⟨r,hr,rfl⟩);have hfr:=ZlR a4 l[q.1] (List.mem_of_getElem? (i:=q.1) (by rw [List.getElem?_take,if_pos (by omega)];exact ZAg ql)) r.1 e2
     have:(view O0 es (A.getD p.1 [])).tm.lookup r.1=none:=by
      show (Zcq O0 (es.filter fun z=>(A.getD p.1 []).contains z.1)).tm.lookup r.1=none;rw [Zf9,lookup_append,hfr,Option.or_none];refine Un fun hk=> ?_;obtain ⟨x,hx,hx1⟩:=List.mem_map.1 hk;obtain ⟨z,hz,hz1⟩:=List.mem_flatMap.1 hx;obtain ⟨hz2,hz3⟩:=List.mem_filter.1 hz;obtain ⟨z1,z2⟩:=hp z hz2;have hzA:z.1∈A.getD p.1 []:=by simpa using hz3
      have hzp:z.1<p.1:=ZxL hd hlen pl hzA (by omega);have kz:=htm z.1 l[z.1] z.2 (by omega) (ZAg (by omega)) z2 r.1 (List.mem_map.2 ⟨x,hz1,hx1⟩);have hzq:z.1≠q.1:=fun e=>hqA (e▸hzA);exact absurd (e2.trans kz.symm) (L.dst z.1 q.1 _ _ (by omega) (by omega) hzq (ZAg (by omega)) (ZAg ql))
     rw [this];simp
   ·rw [hes,show i=gs.length by omega,List.take_length];exact hgK
  | succ m ih=>
   intro i es hi hes hp;have hil:i<l.length:=by omega
   have hiA:i<A.length:=by omega
   have hig:i<gs.length:=by omega
   rw [List.drop_eq_getElem_cons hil,List.drop_eq_getElem_cons hiA];have hg:=hev i l[i] gs[i] (ZAg hil) (ZAg hig);have hAi:A.getD i []=A[i]:=by rw [List.getD_eq_getElem?_getD,ZAg hiA];rfl
   refine ⟨gs[i], ?_,ih (i+1) ((i,gs[i])::es) (by omega) ?_ ?_⟩
   ·rw [<-hes] at hg
    by_cases hin:n<=i
    ·have:view O0 es A[i]=Zcq O0 es:=by
      have hf:es.filter (fun p=>A[i].contains p.1)=es:=by
       rw [List.filter_eq_self];intro p hp1;have:=L.all i p.1 hin hil (hp p hp1).1;rw [hAi] at this
       simpa using this
      have h2:=hfl i;have h3:=hfl2 i;rw [hAi] at h2 h3;unfold view;rw [hf,h2,h3]
     rw [this];exact hg
    ·have hnil:∀p∈es,p.2.bx=[]/\p.2.ar=[]:=fun p hp1=>by
      have:=hq p.1 p.2 (by have:=(hp p hp1).1;omega) (hp p hp1).2;exact ⟨hb0 _ this,ha0 _ this⟩
     have fm:∀{α:Type} (f:Nat×Eff->List α) (L:List (Nat×Eff)),(∀p∈L,f p=[])->L.flatMap f=[]:=fun f L hL=>List.flatMap_eq_nil_iff.2 hL;refine ZtJ (L.mem i l[i] (by omega) (ZAg hil)).1 (fun t ht=> ?_) ?_ ?_ ?_ (ha0 _ (hq i gs[i] (by omega) (ZAg hig))) hg
     ·show (Zcq O0 (es.filter fun p=>A[i].contains p.1)).tm.lookup t=_;rw [Zf9,Zf9];refine (ZhT (fun p=>p.2.tm) O0.tm (fun p=>A[i].contains p.1) t fun p hp1 hs=> ?_).symm;intro hk;obtain ⟨p1,p2⟩:=hp p hp1;have kp:=htm p.1 l[p.1] p.2 (by omega) (ZAg (by omega)) p2 t hk;have:=L.use i p.1 l[i] l[p.1] t (by omega) (by omega) (by omega) (ZAg hil) (ZAg (by omega)) kp ht;rw [hAi] at this;have h':A[i].contains p.1=true:=by simpa using this
      rw [h'] at hs;cases hs
     ·have h2:=hfl i;rw [hAi] at h2;unfold view;rw [h2,Ziw,Ziw,fm _ _ (fun p hp1=>(hnil p ((List.mem_filter.1 hp1).1)).1),fm _ es fun p hp1=>(hnil p hp1).1]
     ·have h3:=hfl2 i;rw [hAi] at h3;unfold view;rw [h3,Zix,Zix,fm _ _ (fun p hp1=>(hnil p ((List.mem_filter.1 hp1).1)).2),fm _ es fun p hp1=>(hnil p hp1).2]
     ·show (Zcq O0 (es.filter fun p=>A[i].contains p.1)).nt=_;rw [Ziv,Ziv]
   ·show (Zcq O0 es).app gs[i]=_;rw [hes,List.take_add_one,ZAg hig,Option.toList_some,Ziy]
   ·intro p hp1;rcases List.mem_cons.1 hp1 with rfl| hp1
    ·exact ⟨by simp,ZAg hig⟩
    ·obtain ⟨p1,p2⟩:=hp p hp1;exact ⟨by omega,p2⟩
 simpa using main l.length 0 [] (by omega) rfl (by simp)
end
def K3:Type:=List Nat×List Nat×List Nat
def kE (g:Eff):K3:=(ZF g.tm,ZF g.bx,ZF g.ar)
def kS (O:St):K3:=(ZF O.tm,ZF O.bx,ZF O.ar)
def hit (a b:List Nat):Bool:=a.any fun x=>b.contains x
def ZtR (a b:K3):Bool:=hit a.1 b.1||hit a.2.1 b.2.1||hit a.2.2 b.2.2
def ZvP (d:List Nat) (s:K3):K3:=(s.1,s.2.1.filter (fun k=>!d.contains (1000000+k)),s.2.2.filter (fun k=>!d.contains (10000000+k)))
def ZyL (s:K3) (A:List (List Nat)) (es:List (Nat×K3)):Bool:=
 es.all fun p=>(p.2.2.1.all fun k=>!(A.getD p.1 []).contains (1000000+k))&&(p.2.2.2.all fun k=>!(A.getD p.1 []).contains (10000000+k))&&es.all fun q=>p.1==q.1||(A.getD p.1 []).contains q.1||(A.getD q.1 []).contains p.1||(!ZtR q.2 p.2&&!ZtR q.2 (ZvP (A.getD p.1 []) s)&&es.all fun r=>!(A.getD p.1 []).contains r.1||!ZtR q.2 (ZvP (A.getD p.1 []) r.2))
theorem Zqx {a b:List Nat}:hit a b=false↔∀x∈a,x∉b:=by
 unfold hit;rw [List.any_eq_false];simp [List.contains_eq_mem]
theorem Ze9 {α:Type}:∀{l:List (Nat×α)} {k:Nat},k∉ZF l->l.lookup k=none
 | [],_,_=>rfl
 | (j,x)::l,k,h=>by
  simp only [ZF,List.map_cons,List.mem_cons,not_or] at h;rw [lookup_cons,if_neg h.1];exact Ze9 (by simpa [ZF] using h.2)
theorem ZmS {α:Type} (a b:List (Nat×α)):ZF (a++b)=ZF a++ZF b:=by simp [ZF]
theorem Zma (O0:St):∀(es:List (Nat×Eff)),(∀k,k∈ZF (Zcq O0 es).tm->k∈ZF O0.tm\/∃r∈es,k∈ZF r.2.tm)/\(∀k,k∈ZF (Zcq O0 es).bx->k∈ZF O0.bx\/∃r∈es,k∈ZF r.2.bx)/\(∀k,k∈ZF (Zcq O0 es).ar->k∈ZF O0.ar\/∃r∈es,k∈ZF r.2.ar)
 | []=>⟨fun _ h=>.inl h,fun _ h=>.inl h,fun _ h=>.inl h⟩
 | g::es=>by
  obtain ⟨h1,h2,h3⟩:=Zma O0 es;refine ⟨fun k h=> ?_,fun k h=> ?_,fun k h=> ?_⟩
  all_goals
   simp only [Zcq,St.app,ZmS,List.mem_append] at h;rcases h with h| h
   ·exact .inr ⟨g,List.mem_cons_self ..,h⟩
  ·rcases h1 k h with h| ⟨r,hr,h⟩;exact .inl h;exact .inr ⟨r,List.mem_cons_of_mem _ hr,h⟩
  ·rcases h2 k h with h| ⟨r,hr,h⟩;exact .inl h;exact .inr ⟨r,List.mem_cons_of_mem _ hr,h⟩
  ·rcases h3 k h with h| ⟨r,hr,h⟩;exact .inl h;exact .inr ⟨r,List.mem_cons_of_mem _ hr,h⟩
theorem U8 {O0:St} {A:List (List Nat)} {es:List (Nat×Eff)} (h:ZyL (kS O0) A (es.map fun p=>(p.1,kE p.2))=true):dOk O0 A es=true:=by
 unfold ZyL at h;unfold dOk;rw [List.all_eq_true] at h ⊢;intro p hp;have h:=h _ (List.mem_map.2 ⟨p,hp,rfl⟩);rw [ZAd,ZAd] at h ⊢;refine ⟨⟨List.all_eq_true.2 fun r hr=>List.all_eq_true.1 h.1.1 r.1 (List.mem_map.2 ⟨r,hr,rfl⟩),List.all_eq_true.2 fun r hr=>List.all_eq_true.1 h.1.2 r.1 (List.mem_map.2 ⟨r,hr,rfl⟩)⟩, ?_⟩;have h:=h.2;rw [List.all_eq_true] at h ⊢;intro q hq;have h:=h _ (List.mem_map.2 ⟨q,hq,rfl⟩);simp only [Bool.or_eq_true,ZAd,Bool.not_eq_true',List.all_eq_true] at h ⊢;rcases h with h| ⟨⟨h1,h2⟩,h3⟩
 ·exact .inl h
 ·refine .inr ⟨?_, ?_⟩
  ·unfold ZtR kE at h1;simp only [Bool.or_eq_false_iff,Zqx] at h1;unfold apart;simp only [ZAd,List.all_eq_true,Bool.not_eq_true',List.contains_eq_mem,decide_eq_false_iff_not];exact ⟨⟨fun x hx=>h1.1.1 x.1 (List.mem_map.2 ⟨x,hx,rfl⟩),fun x hx=>h1.1.2 x.1 (List.mem_map.2 ⟨x,hx,rfl⟩)⟩,fun x hx=>h1.2 x.1 (List.mem_map.2 ⟨x,hx,rfl⟩)⟩
  ·unfold ZtR kE kS ZvP at h2;simp only [Bool.or_eq_false_iff,Zqx] at h2
   have h4:∀r∈es,(A.getD p.1 []).contains r.1=true->ZtR (kE q.2) (ZvP (A.getD p.1 []) (kE r.2))=false:=fun r hr hc=>by
    have:=h3 _ (List.mem_map.2 ⟨r,hr,rfl⟩);rcases this with this| this
    ·rw [hc] at this;cases this
    ·exact this
   obtain ⟨k1,k2,k3⟩:=Zma O0 (es.filter fun r=>(A.getD p.1 []).contains r.1)
   have h5:∀r∈es.filter (fun r=>(A.getD p.1 []).contains r.1),(∀x∈ZF q.2.tm,x∉ZF r.2.tm)/\(∀x∈ZF q.2.bx,x∉(ZF r.2.bx).filter (fun k=>!(A.getD p.1 []).contains (1000000+k)))/\∀x∈ZF q.2.ar,x∉(ZF r.2.ar).filter (fun k=>!(A.getD p.1 []).contains (10000000+k)):=fun r hr=>by
    have:=h4 r (List.mem_filter.1 hr).1 (List.mem_filter.1 hr).2;unfold ZtR kE ZvP at this;simp only [Bool.or_eq_false_iff,Zqx] at this;exact ⟨this.1.1,this.1.2,this.2⟩
   unfold ZjW view;simp only [Bool.or_eq_false_iff,List.any_eq_false];refine ⟨⟨fun x hx=> ?_,fun x hx=> ?_⟩,fun x hx=> ?_⟩
   ·rw [Ze9];simp;intro hm;have hx':x.1∈ZF q.2.tm:=List.mem_map.2 ⟨x,hx,rfl⟩;rcases k1 _ hm with hm| ⟨r,hr,hm⟩
    ·exact h2.1.1 _ hx' hm
    ·exact (h5 r hr).1 _ hx' hm
   ·rw [Ze9];simp;intro hm;have hx':x.1∈ZF q.2.bx:=List.mem_map.2 ⟨x,hx,rfl⟩;obtain ⟨y,hy,hyx⟩:=List.mem_map.1 hm;obtain ⟨hy1,hy2⟩:=List.mem_filter.1 hy;rw [hyx] at hy2;rcases k2 x.1 (List.mem_map.2 ⟨y,hy1,hyx⟩) with hm| ⟨r,hr,hm⟩
    ·exact h2.1.2 _ hx' (List.mem_filter.2 ⟨hm,hy2⟩)
    ·exact (h5 r hr).2.1 _ hx' (List.mem_filter.2 ⟨hm,hy2⟩)
   ·rw [Ze9];simp;intro hm;have hx':x.1∈ZF q.2.ar:=List.mem_map.2 ⟨x,hx,rfl⟩;obtain ⟨y,hy,hyx⟩:=List.mem_map.1 hm;obtain ⟨hy1,hy2⟩:=List.mem_filter.1 hy;rw [hyx] at hy2;rcases k3 x.1 (List.mem_map.2 ⟨y,hy1,hyx⟩) with hm| ⟨r,hr,hm⟩
    ·exact h2.2 _ hx' (List.mem_filter.2 ⟨hm,hy2⟩)
    ·exact (h5 r hr).2.2 _ hx' (List.mem_filter.2 ⟨hm,hy2⟩)
def ZyC (s:List Nat) (x:Nat):List Nat:=if s.contains x then s else x::s
def Zio (l:List Oper):List (List Nat):=l.foldl (fun A o=>A++[(o.after.toList.filter (Region.binds .any)).foldl (fun s e=>(A.getD e.on []).foldl ZyC (ZyC s e.on)) []]) []
section
variable {P:Program} {N:Nat->Prop} {w0:Bs} {Q:Exit->St->Prop} {y:Code} {O:St}
theorem QM {id:Nat} {l:List Oper} (n:Nat) (hm:P.follows .mixedOrders=true) (hd:Za4 l (Zio l)=true) (hl:Zqf l (Zio l) n=true)
  (h:ZW P l.toArray (l.take n) O (fun O1=>O1.bx.length=O.bx.length/\O1.ar.length=O.ar.length/\Zii O (l.take n)/\ZW P l.toArray (l.drop n) O1 (fun O'=>Q .normal O'))) (hnd:(Zio l).all (fun d=>d.all fun k=>decide (k<1000000))=true:=by kernel_rfl):AW P N w0 (.region id l.toArray true) Q O:=Zsa (Zio l) n hm hd hl h hnd
theorem XX {id:Nat} {l:List Oper} (h:∀K:St->Prop,(∀O,AW P N w0 y Q O->K O)->ZW P l.toArray l O K):AW P N w0 (.seq (.region id l.toArray false) y) Q O:=
 YP fun K hK=>WM (h K hK)
end
theorem si {α:Type} {a b:α} (h:some a=some b):a=b:=Zz9 h
theorem ifM {α:Type} {b:Bool} {A B r:α} (hM:(if b=true then A else B)=r):(b=true/\A=r)\/(b=false/\B=r):=by cases b<;>simp_all
section
variable {P:Program} {N:Nat->Prop} {w0:Bs} {Q:Exit->St->Prop} {x y:Code} {O O':St}
theorem VK {ρ:Type} {b:Bool} {A B r:ρ} {o:Operand} (hM:(if b=true then A else B)=r) (ht:b=true->A=r->AW P N w0 x Q O) (hf:b=false->B=r->AW P N w0 y Q O) (ho:opd O o=some (.one (.l (.bool b))):=by simp [go_sem,F]):AW P N w0 (.cond o x y) Q O:=
 Znn ho (fun h=>ht h (by rw [if_pos h] at hM;exact hM)) (fun h=>hf h (by rw [if_neg (by simp [h])] at hM;exact hM))
theorem Zg3 {f:Nat} {ds ds':List DV} {fr pu:Bool} {rs:List DV} {X:Bool->Bool->List DV->Prop} {Y:Prop} (dp:Bool) (h:Ctr P f ds fr rs) (hx:X fr dp rs) (hd:ds'=ds:=by simp [go_sem,F]) (hp:fr=false->pu=true:=by simp):Za5 P f ds' pu X Y:=
 ZsH dp h hd hp hx
theorem fin {ι:Type} {S:ι->St} {I:ι->Prop} {K:St->Prop} (hK:∀i O',I i->Zai (S i) O'->K O') (i:ι) (hi:I i) (h:JK (S i) O:=by constructor<;>simp [go_sem,F]):K O:=hK i O hi h.into
theorem Zyr (τs:List Nat) (h:AW P N w0 x Q O') (hA:ZaR τs O:=by simp [go_sem,ZaR,St.ZcB]) (k:JK O' (τs.foldl St.ZcB O):=by constructor<;>simp [go_sem,St.ZcB,F]):AW P N w0 x Q O:=
 JJ (fun N w0 a w hs=>k.into N w0 a w (Kr hA N w0 a w hs)) h
theorem Zys {ι:Type} (S:ι->St) (I:Nat->ι->Prop) (n0:Nat) (i0:ι) (h0:I n0 i0) (hz:∀i,¬I 0 i)
  (body:∀(KL:St->Prop) (n:Nat) (i:ι),(∀i' O',I n i'->Zai (S i') O'->KL O')->I (n+1) i->True->AW P N w0 x (Kq KL Q) (S i)) (hk:JK (S i0) O:=by constructor<;>simp [go_sem,F]):AW P N w0 (.loop x) Q O:=
 Zi0 S I n0 i0 h0 hk.into hz fun KL n i h hi=>body KL n i h hi trivial
end
theorem ZjC {P:Program} {f:Nat} {fn:Func} {c:Code} {nt:Nat} {rv:Array ResultVar} (hf:P.funcs[f]? =some fn) (hnt:fn.ntmps=nt) (hrv:fn.results=rv) {ds:List DV} {fr:Bool} {rs:List DV}
  (h:∀N w0,Bok N w0->True->AW P N w0 c (ZvJ P rv fr rs) ⟨nt,ZdK 0 ds,[],[]⟩) (hok:X0 P f=true:=by kernel_rfl) (hb:fn.body=some c:=by rfl) (hds:ds.length<=nt:=by simp):Ctr P f ds fr rs:=
 Ctr.Xt hok hf hb hnt hrv hds fun N w0 hb=>h N w0 hb trivial
theorem Zwz {P:Program} {f:Nat} {fn:Func} {c:Code} {nt:Nat} {rv:Array ResultVar} (hf:P.funcs[f]? =some fn) (hnt:fn.ntmps=nt) (hrv:fn.results=rv) {d1 d2:List DV} {cs ls:List L} {fr:Bool} {rs:List DV}
  (h:∀N w0,Bok N w0->True->AW P N w0 c (ZvK P rv fr rs nt (nt+d1.length) ls) ⟨nt,ZdK 0 d1++(d1.length,.one (.box (nt+d1.length) 0))::ZdK (d1.length+1) d2,[(nt+d1.length,cs.map .l)],[]⟩) (hok:X0 P f=true:=by kernel_rfl) (hb:fn.body=some c:=by rfl) (hds:d1.length+1+d2.length<=nt:=by simp):ZcU P f d1 cs d2 fr rs ls:=
 ZcU.Xt hok hf hb hnt hrv hds fun N w0 hb=>h N w0 hb trivial
theorem Zwy {P:Program} {f:Nat} {fn:Func} {c:Code} {nt:Nat} {rv:Array ResultVar} (hf:P.funcs[f]? =some fn) (hnt:fn.ntmps=nt) (hrv:fn.results=rv) {ds:List DV} {cs:List L}
  (h:∀N w0,Bok N w0->True->AW P N w0 c (ZxH P rv cs) ⟨nt,ZdK 0 ds,[],[]⟩) (hok:X0 P f=true:=by kernel_rfl) (hb:fn.body=some c:=by rfl) (hds:ds.length<=nt:=by simp):Zr8 P f ds cs:=
 Zr8.Xt hok hf hb hnt hrv hds fun N w0 hb=>h N w0 hb trivial
theorem lT {a b:Int} (h:decide (a<b)=true):¬b<=a:=by simp at h;omega
theorem lF {a b:Int} (h:decide (a<b)=false):¬a<b:=by simpa using h
theorem eT {a b:Int} (h:decide (a<=b)=true):¬b<a:=by simp at h;omega
theorem eF {a b:Int} (h:decide (a<=b)=false):¬a<=b:=by simpa using h
theorem Zaf {α:Type} {xs:List α} {i:Int} {x:α} (h:at? xs i=some x):0<=i/\xs[i.toNat]? =some x/\∀h,xs[i.toNat]'h=x:=by obtain ⟨a,b,c,d⟩:=Zf8 h;exact ⟨a,b,d⟩
theorem ZkE {α:Type} {xs:List α} {i:Int} {x:α} (h:at? xs i=some x):i.toNat<xs.length:=(Zf8 h).2.2.1
end Go.Proofs.YtpblakfidofgfaaGreatDoor.Am
set_option linter.unusedSimpArgs false
set_option linter.unusedVariables false
namespace Go.Proofs.YtpblakfidofgfaaGreatDoor
open Go.RowKit Am
def Ev (p:Nat->Prop):Prop:=∃B,∀k,B<=k->p k
theorem Ev.of {p:Nat->Prop} (h:∀k,p k):Ev p:=⟨0,fun k _=>h k⟩
theorem Ev.and {p q:Nat->Prop} (h:Ev p) (g:Ev q):Ev fun k=>p k/\q k:=by
 obtain ⟨A,h⟩:=h;obtain ⟨B,g⟩:=g;exact ⟨max A B,fun k hk=>⟨h k (by omega),g k (by omega)⟩⟩
theorem Ev.mono {p q:Nat->Prop} (h:Ev p) (f:∀k,p k->q k):Ev q:=by
 obtain ⟨A,h⟩:=h;exact ⟨A,fun k hk=>f k (h k hk)⟩
theorem Ev.ge (n:Nat):Ev fun k=>n<=k:=⟨n,fun _ h=>h⟩
theorem Ev.all {α:Type} {p:α->Nat->Prop}:∀(xs:List α),(∀x∈xs,Ev (p x))->Ev fun k=>∀x∈xs,p x k
 | [],_=>Ev.of fun _ _ h=>by simp at h
 | x::xs,h=>((h x (by simp)).and (Ev.all xs fun y hy=>h y (by simp [hy]))).mono fun k ⟨h1,h2⟩ y hy=>by
  rcases List.mem_cons.1 hy with rfl| hy
  ·exact h1
  ·exact h2 y hy
theorem Ev.pred {p q:Nat->Prop} (h:Ev p) (f:∀k,p k->q (k+1)):Ev q:=by
 obtain ⟨A,h⟩:=h;refine ⟨A+1,fun k hk=> ?_⟩;obtain ⟨j,rfl⟩:∃j,k=j+1:=⟨k-1,by omega⟩;exact f j (h j (by omega))
theorem Ev.get {p:Nat->Prop} (h:Ev p):∃k,p k:=by obtain ⟨A,h⟩:=h;exact ⟨A,h A (ZAe _)⟩
theorem w64 {n:Int} (h0: -9223372036854775808<=n) (h1:n<=9223372036854775807):IntKind.i64.wrap n=n:=IntWalk.i64_in n ⟨h0,h1⟩
theorem wS (i:Nat) (h:i<9223372036854775807):IntKind.i64.wrap ((i:Int)+1)=((i+1:Nat):Int):=by rw [w64 (by omega) (by omega)];rfl
theorem Zit {α:Type} (xs:List α) (i:Nat):at? xs (i:Int)=xs[i]? :=by unfold at?;rw [if_pos (by omega)];rfl
theorem ZJ {α:Type} {xs:List α} {i:Nat} (h:i<xs.length):at? xs (i:Int)=some xs[i]:=by rw [Zit,ZAg h]
theorem ZE {i n:Nat} (h:i<n):(decide ((i:Int)<(n:Int)))=true:=by simp [h]
theorem Ql {i n:Nat} (h:n<=i):¬(decide ((i:Int)<(n:Int)))=true:=by simp [h]
theorem XG {α:Type} {b:Nat} {xs ys:List α} (h:xs.length+ys.length<=1099511627776) (hb:b<=128):YH b xs ys=some (xs++ys):=by
 unfold YH;rw [if_pos ⟨by omega,Nat.le_trans (Nat.mul_le_mul h hb) (by omega)⟩]
theorem Zp9 {b n:Nat} (h:n<=1099511627776) (hb:b<=256):mk? b (n:Int)=some n:=by
 unfold mk?
 have h1:(b:Int)*(n:Int)<=281474976710656:=by
  have:=Nat.mul_le_mul hb h;have h2:((b*n:Nat):Int)<=((256*1099511627776:Nat):Int):=Int.ofNat_le.2 this
  simpa using h2
 rw [if_pos ⟨by omega,by omega,h1⟩];rfl
mutual
def DOk:L->Prop
 | .int k n=>InK k n
 | .bool _=>True
 | .str s=>Fit s
 | .void=>True
 | .sl es=>es.length<=9223372036854775807/\Zr9 es
def Zbb:List L->Prop
 | []=>True
 | x::xs=>DOk x/\Zbb xs
def Zr9:List (List L)->Prop
 | []=>True
 | e::es=>Zbb e/\Zr9 es
end
theorem Zos {α:Type} {c:α->List L}:∀{xs:List α},Zr9 (xs.map c)↔∀x∈xs,Zbb (c x)
 | []=>by simp [Zr9]
 | x::xs=>by simp [Zr9,Zos (xs:=xs)]
theorem VM {α:Type} {c:α->List L} {xs:List α} (h:DOk (.sl (xs.map c))):(xs.length:Int)<=9223372036854775807/\∀x∈xs,Zbb (c x):=by
 simp only [DOk,List.length_map] at h;exact ⟨by omega,Zos.1 h.2⟩
theorem Zga {s:ByteArray} (h:DOk (.str s)):(s.size:Int)<=9223372036854775807:=by simp only [DOk,Fit] at h;omega
mutual
theorem Rp.dok {w:World}:∀{x:L} {v:Value} {F:List Nat},Rp w x v F->DOk x
 | .int _ _,_,_,h=>by simp only [Rp] at h;simp only [DOk];exact h.2.2
 | .bool _,_,_,_=>by simp only [DOk]
 | .str _,_,_,h=>by simp only [Rp] at h;simp only [DOk];exact h.2.2
 | .void,_,_,_=>by simp only [DOk]
 | .sl _,_,_,h=>by
  simp only [Rp] at h;obtain ⟨A,c,h1,h2,h3,h4⟩:=h;simp only [DOk];refine ⟨by omega, ?_⟩;rcases h4 with ⟨rfl,_⟩| ⟨b,off,xs,Fs,e1,e2,e3,e4,e5⟩
  ·simp only [Zr9]
  ·exact RpE.dok e5
theorem RpL.dok {w:World}:∀{xs:List L} {vs:List Value} {F:List Nat},RpL w xs vs F->Zbb xs
 | [],_,_,_=>by simp only [Zbb]
 | _::_,_,_,h=>by
  simp only [RpL] at h;obtain ⟨v,vs',F1,F2,_,_,h1,h2⟩:=h;simp only [Zbb];exact ⟨Rp.dok h1,RpL.dok h2⟩
theorem RpE.dok {w:World}:∀{es:List (List L)} {vs:List Value} {F:List Nat},RpE w es vs F->Zr9 es
 | [],_,_,_=>by simp only [Zr9]
 | _::_,_,_,h=>by
  simp only [RpE] at h;obtain ⟨v1,v2,F1,F2,_,_,h1,h2⟩:=h;simp only [Zr9];exact ⟨RpL.dok h1,RpE.dok h2⟩
end
def szR (b:Nat) (left:Int):Int:=if (b:Int)<=left then left-b else-1
def Qh {α:Type} (f:α->Nat) (xs:List α):Nat:=(xs.map f).sum
def bkS {α:Type} (f:α->Nat) (xs:List α):Nat:=xs.length+Qh f xs
theorem Zhy {α:Type} (f:α->Nat):∀{xs:List α} {x:α},x∈xs->f x<=Qh f xs
 | y::xs,x,h=>by
  rcases List.mem_cons.1 h with rfl| h
  ·simp only [Qh,List.map_cons,List.sum_cons];omega
  ·have:=Zhy f h;simp only [Qh,List.map_cons,List.sum_cons] at this ⊢;omega
theorem Yl {α:Type} {f:α->Nat} {xs:List α} {x:α} (h:x∈xs):f x<=bkS f xs:=by have:=Zhy f h;unfold bkS;omega
theorem ZL {α:Type} {f:α->Nat} {xs:List α}:xs.length<=bkS f xs:=by unfold bkS;omega
theorem Zo8 {α:Type} (xs:List α):bkS (fun _=>0) xs=xs.length:=by
 unfold bkS Qh;have:(xs.map fun _=>0).sum=0:=by induction xs<;>simp_all
 omega
theorem J6 {left:Int} (h:0<=left):some left=some (szR 0 left):=by unfold szR;rw [if_pos (by simpa using h)];simp
theorem ZbB {b b2:Nat} {left:Int} {F:Int->Option Int} (h0:0<=left) (hF:∀x,0<=x->x<=left->F x=some (szR b2 x)):
  (if (decide (szR b left<0))=true then some (-1) else F (szR b left))=some (szR (b+b2) left):=by
 by_cases h:(b:Int)<=left
 ·have e:szR b left=left-b:=by unfold szR;rw [if_pos h]
  rw [e,if_neg (by simp;omega),hF _ (by omega) (by omega)];unfold szR
  by_cases h2:(b2:Int)<=left-b
  ·rw [if_pos h2,if_pos (by omega)];congr 1;omega
  ·rw [if_neg h2,if_neg (by omega)]
 ·have e:szR b left= -1:=by unfold szR;rw [if_neg h]
  rw [e,if_pos (by decide)];unfold szR;rw [if_neg (by omega)]
theorem ZpD {b b2:Nat} {left:Int} {F:Int->Option Int} (h0:0<=left) (h1:left<=1048576) (hb:(b:Int)<=9223372036854775807) (hF:∀x,0<=x->x<=left->F x=some (szR b2 x)):
  (if (decide (IntKind.i64.wrap (left-(b:Int))<0))=true then some (-1) else F (IntKind.i64.wrap (left-(b:Int))))=some (szR (b+b2) left):=by
 rw [w64 (by omega) (by omega)]
 by_cases h:(b:Int)<=left
 ·have:=ZbB (b:=b) (b2:=b2) h0 hF;unfold szR at this;rw [if_pos h] at this;exact this
 ·rw [if_pos (by simp;omega)];unfold szR;rw [if_neg (by omega)]
theorem Zlj {b:Nat} {left:Int} (h0:0<=left) (h1:left<=1048576) (hb:(b:Int)<=9223372036854775807):
  (∃z,IntKind.i64.wrap (left-(b:Int))=z/\¬(decide (z<0))=true/\z=left-b/\0<=z/\z<=1048576)\/((decide (IntKind.i64.wrap (left-(b:Int))<0))=true/\left<b):=by
 rw [w64 (by omega) (by omega)]
 by_cases h:(b:Int)<=left
 ·exact .inl ⟨_,rfl,by simp;omega,rfl,by omega,by omega⟩
 ·exact .inr ⟨by simp;omega,by omega⟩
theorem Q5 {b:Nat} {left:Int} (h1:left<=1048576):(∃z,szR b left=z/\¬(decide (z<0))=true/\z=left-b/\0<=z/\z<=1048576)\/(szR b left= -1/\left<b):=by
 unfold szR
 by_cases h:(b:Int)<=left
 ·rw [if_pos h];exact .inl ⟨_,rfl,by simp;omega,rfl,by omega,by omega⟩
 ·rw [if_neg h];exact .inr ⟨rfl,by omega⟩
theorem Q4 {b:Nat} {left:Int} (h:left<b):some (-1)=some (szR b left):=by unfold szR;rw [if_neg (by omega)]
theorem J5 {b:Nat} {left z:Int} (h0:0<=z) (h:z=left-b):some z=some (szR b left):=by unfold szR;rw [if_pos (by omega),h]
theorem Zs4 {α:Type} (f:α->Nat) (a0:List α) (g:α->Int->Option Int) (u:Nat->Int->Int->Option (Int ⊕ Int))
  (hg:∀x∈a0,∀l,0<=l->l<=1048576->((g x l).bind fun y=>if (decide (y<0))=true then some (-1) else some y)=some (szR (f x) l))
  (hu:∀n l i,u (n+1) l i=if (decide (i<(a0.length:Int)))=true then (at? a0 i).bind fun x=>(g x l).bind fun y=>if (decide (y<0))=true then some (.inr (-1)) else u n y (IntKind.i64.wrap (i+1)) else some (.inl l))
  (hl:a0.length<=1048576):∀(m n i:Nat) (l:Int),i+m=a0.length->m<n->0<=l->l<=1048576->u n l (i:Int)=some (if (Qh f (a0.drop i):Int)<=l then .inl (l-Qh f (a0.drop i)) else .inr (-1)):=by
 intro m
 induction m with
 | zero=>
  intro n i l hi hn h0 h1;obtain ⟨n,rfl⟩:∃j,n=j+1:=⟨n-1,by omega⟩;rw [hu,if_neg (Ql (by omega)),List.drop_of_length_le (by omega)];simp [Qh,h0]
 | succ m ih=>
  intro n i l hi hn h0 h1;obtain ⟨n,rfl⟩:∃j,n=j+1:=⟨n-1,by omega⟩;have hil:i<a0.length:=by omega
  rw [hu,if_pos (ZE hil),ZJ hil,Zz8,wS i (by omega),List.drop_eq_getElem_cons hil];have hx:=hg a0[i] (List.getElem_mem hil) l h0 h1;obtain ⟨y,hy,hx⟩:=Option.bind_eq_some_iff.1 hx;rw [hy,Zz8];have e:(Qh f (a0[i]::a0.drop (i+1)):Nat)=f a0[i]+Qh f (a0.drop (i+1)):=by unfold Qh;rw [List.map_cons,List.sum_cons]
  rw [e]
  split at hx
  ·rename_i hneg;rw [if_pos hneg];have hx:=Zz9 hx;unfold szR at hx
   split at hx
   ·omega
   ·rw [if_neg (by omega)]
  ·rename_i hneg;rw [if_neg hneg];have hx:=Zz9 hx;unfold szR at hx
   split at hx
   ·rw [ih n (i+1) y (by omega) (by omega) (by omega) (by omega),hx]
    congr 1
    by_cases h2:(Qh f (a0.drop (i+1)):Int)<=l-(f a0[i]:Int)
    ·rw [if_pos h2,if_pos (by omega)];congr 1;omega
    ·rw [if_neg h2,if_neg (by omega)]
   ·subst hx;simp at hneg
theorem JQ {α:Type} (f:α->Nat) (a0:List α) (g:α->Int->Option Int) (u:Nat->Int->Int->Option (Int ⊕ Int)) (k:Nat)
  (hg:∀x∈a0,∀l,0<=l->l<=1048576->((g x l).bind fun y=>if (decide (y<0))=true then some (-1) else some y)=some (szR (f x) l))
  (hu:∀n l i,u (n+1) l i=if (decide (i<(a0.length:Int)))=true then (at? a0 i).bind fun x=>(g x l).bind fun y=>if (decide (y<0))=true then some (.inr (-1)) else u n y (IntKind.i64.wrap (i+1)) else some (.inl l))
  (hk:a0.length<k) (hlen:(a0.length:Int)<=9223372036854775807) (left:Int) (h0:0<=left) (h1:left<=1048576):
  (if (decide (IntKind.i64.wrap (left-(a0.length:Int))<0))=true then some (-1) else (u k (IntKind.i64.wrap (left-(a0.length:Int))) 0).bind fun | .inl x=>some x| .inr z=>some z)=some (szR (bkS f a0) left):=by
 rw [w64 (by omega) (by omega)]
 by_cases h:(a0.length:Int)<=left
 ·rw [if_neg (by simp;omega)];have:=Zs4 f a0 g u hg hu (by omega) a0.length k 0 (left-a0.length) (by omega) hk (by omega) (by omega);rw [show ((0:Nat):Int)=0 from rfl] at this;rw [this];simp only [List.drop_zero,Zz8];unfold szR bkS
  by_cases h2:(Qh f a0:Int)<=left-a0.length
  ·rw [if_pos h2,if_pos (by omega)];simp only;congr 1;omega
  ·rw [if_neg h2,if_neg (by omega)]
 ·rw [if_pos (by simp;omega)];unfold szR bkS;rw [if_neg (by omega)]
theorem Zs0 {α:Type} (a0:List α) (g:α->Option α) (u:Nat->List α->Int->Option (List α)) (hg:∀x∈a0,g x=some x)
  (hu:∀n out i,u (n+1) out i=if (decide (i<(a0.length:Int)))=true then (at? a0 i).bind fun x=>(g x).bind fun y=>(at? out i).bind fun _=>u n (out.set i.toNat y) (IntKind.i64.wrap (i+1)) else some out)
  (hl:a0.length<=1048576):∀(m n i:Nat) (out:List α),i+m=a0.length->m<n->out.length=a0.length->out.take i=a0.take i->u n out (i:Int)=some a0:=by
 intro m
 induction m with
 | zero=>
  intro n i out hi hn ho ht;obtain ⟨n,rfl⟩:∃j,n=j+1:=⟨n-1,by omega⟩;rw [hu,if_neg (Ql (by omega))];rw [List.take_of_length_le (by omega),List.take_of_length_le (by omega)] at ht;rw [ht]
 | succ m ih=>
  intro n i out hi hn ho ht;obtain ⟨n,rfl⟩:∃j,n=j+1:=⟨n-1,by omega⟩;have hil:i<a0.length:=by omega
  rw [hu,if_pos (ZE hil),ZJ hil,Zz8,hg _ (List.getElem_mem hil),Zz8,ZJ (by omega),Zz8,wS i (by omega),Int.toNat_natCast];refine ih n (i+1) _ (by omega) (by omega) (by simp [ho]) ?_;rw [List.take_add_one,List.take_add_one,List.take_set_of_le (by omega),ht];simp [ho,hil]
theorem Ul {α:Type} (b:Nat) (hb:b<=256) (z:α) (a0:List α) (g:α->Option α) (u:Nat->List α->Int->Option (List α)) (k:Nat) (hg:∀x∈a0,g x=some x)
  (hu:∀n out i,u (n+1) out i=if (decide (i<(a0.length:Int)))=true then (at? a0 i).bind fun x=>(g x).bind fun y=>(at? out i).bind fun _=>u n (out.set i.toNat y) (IntKind.i64.wrap (i+1)) else some out)
  (hk:a0.length<k) (hl:a0.length<=1048576):((mk? b (a0.length:Int)).bind fun n=>(u k (List.replicate n z) 0).bind fun r=>some r)=some a0:=by
 rw [Zp9 (by omega) hb,Zz8];have:=Zs0 a0 g u hg hu hl a0.length k 0 (List.replicate a0.length z) (by omega) hk (by simp) (by simp);rw [show ((0:Nat):Int)=0 from rfl] at this;rw [this];rfl
theorem ZtX {α:Type} (a0:List α) (g:α->α->Option Bool) (u:Nat->Int->Option (Unit ⊕ Bool)) (hg:∀x∈a0,g x x=some true)
  (hu:∀n i,u (n+1) i=if (decide (i<(a0.length:Int)))=true then (at? a0 i).bind fun x=>(at? a0 i).bind fun y=>(g x y).bind fun b=>if (!b)=true then some (.inr false) else u n (IntKind.i64.wrap (i+1)) else some (.inl ()))
  (hl:(a0.length:Int)<=9223372036854775807):∀(m n i:Nat),i+m=a0.length->m<n->u n (i:Int)=some (.inl ()):=by
 intro m
 induction m with
 | zero=>
  intro n i hi hn;obtain ⟨n,rfl⟩:∃j,n=j+1:=⟨n-1,by omega⟩;rw [hu,if_neg (Ql (by omega))]
 | succ m ih=>
  intro n i hi hn;obtain ⟨n,rfl⟩:∃j,n=j+1:=⟨n-1,by omega⟩;have hil:i<a0.length:=by omega
  rw [hu,if_pos (ZE hil),ZJ hil,Zz8,Zz8,hg _ (List.getElem_mem hil),Zz8,if_neg (by simp),wS i (by omega)];exact ih n (i+1) (by omega) (by omega)
theorem Uq {α:Type} (a0:List α) (g:α->α->Option Bool) (u:Nat->Int->Option (Unit ⊕ Bool)) (k:Nat) (hg:∀x∈a0,g x x=some true)
  (hu:∀n i,u (n+1) i=if (decide (i<(a0.length:Int)))=true then (at? a0 i).bind fun x=>(at? a0 i).bind fun y=>(g x y).bind fun b=>if (!b)=true then some (.inr false) else u n (IntKind.i64.wrap (i+1)) else some (.inl ()))
  (hk:a0.length<k) (hl:(a0.length:Int)<=9223372036854775807):(if (!decide ((a0.length:Int)=(a0.length:Int)))=true then some false else (u k 0).bind fun | .inl _=>some true| .inr z=>some z)=some true:=by
 rw [if_neg (by simp)];have:=ZtX a0 g u hg hu hl a0.length k 0 (by omega) hk;rw [show ((0:Nat):Int)=0 from rfl] at this;rw [this];rfl
theorem Zr4 {α ε β:Type} (xs:List α) (t:α->Bool) (T:α->Option Bool) (c:β) (e:ε) (u:Nat->Int->Option (ε ⊕ β)) (hT:∀x∈xs,T x=some (t x))
  (hu:∀n i,u (n+1) i=if (decide (i<(xs.length:Int)))=true then (at? xs i).bind fun x=>(T x).bind fun b=>if b=true then some (.inr c) else u n (IntKind.i64.wrap (i+1)) else some (.inl e))
  (hl:(xs.length:Int)<=9223372036854775807):∀(m n i:Nat),i+m=xs.length->m<n->u n (i:Int)=some (if (xs.drop i).any t=true then .inr c else .inl e):=by
 intro m
 induction m with
 | zero=>
  intro n i hi hn;obtain ⟨n,rfl⟩:∃j,n=j+1:=⟨n-1,by omega⟩;rw [hu,if_neg (Ql (by omega)),List.drop_of_length_le (by omega)];rfl
 | succ m ih=>
  intro n i hi hn;obtain ⟨n,rfl⟩:∃j,n=j+1:=⟨n-1,by omega⟩;have hil:i<xs.length:=by omega
  rw [hu,if_pos (ZE hil),ZJ hil,Zz8,hT _ (List.getElem_mem hil),Zz8,wS i (by omega),List.drop_eq_getElem_cons hil,List.any_cons];cases ht:t xs[i] with
  | true=>simp
  | false=>rw [if_neg (by simp),ih n (i+1) (by omega) (by omega)];simp
theorem YV {α ε β:Type} (xs:List α) (t:α->Bool) (T:α->Option Bool) (c:β) (e:ε) (u:Nat->Int->Option (ε ⊕ β)) (hT:∀x∈xs,T x=some (t x))
  (hu:∀n i,u (n+1) i=if (decide (i<(xs.length:Int)))=true then (at? xs i).bind fun x=>(T x).bind fun b=>if b=true then some (.inr c) else u n (IntKind.i64.wrap (i+1)) else some (.inl e))
  (hl:(xs.length:Int)<=9223372036854775807) {k:Nat} (hk:xs.length<k):u k 0=some (if xs.any t=true then .inr c else .inl e):=by
 have:=Zr4 xs t T c e u hT hu hl xs.length k 0 (by omega) hk
 simpa using this
def anyI {α:Type} (t:Nat->α->Bool):Nat->List α->Bool
 | _,[]=>false
 | i,x::xs=>t i x||anyI t (i+1) xs
theorem ZqY {α ε β:Type} (xs:List α) (t:Nat->α->Bool) (T:Int->α->Option Bool) (c:β) (e:ε) (u:Nat->Int->Option (ε ⊕ β)) (hT:∀(j:Nat) (h:j<xs.length),T j xs[j]=some (t j xs[j]))
  (hu:∀n i,u (n+1) i=if (decide (i<(xs.length:Int)))=true then (at? xs i).bind fun x=>(T i x).bind fun b=>if b=true then some (.inr c) else u n (IntKind.i64.wrap (i+1)) else some (.inl e))
  (hl:(xs.length:Int)<=9223372036854775807):∀(m n i:Nat),i+m=xs.length->m<n->u n (i:Int)=some (if anyI t i (xs.drop i)=true then .inr c else .inl e):=by
 intro m
 induction m with
 | zero=>
  intro n i hi hn;obtain ⟨n,rfl⟩:∃j,n=j+1:=⟨n-1,by omega⟩;rw [hu,if_neg (Ql (by omega)),List.drop_of_length_le (by omega)];rfl
 | succ m ih=>
  intro n i hi hn;obtain ⟨n,rfl⟩:∃j,n=j+1:=⟨n-1,by omega⟩;have hil:i<xs.length:=by omega
  rw [hu,if_pos (ZE hil),ZJ hil,Zz8,hT i hil,Zz8,wS i (by omega),List.drop_eq_getElem_cons hil];simp only [anyI]
  by_cases ht:t i xs[i]=true
  ·simp [ht]
  ·rw [if_neg ht,ih n (i+1) (by omega) (by omega)];simp [ht]
theorem U9 {α ε β:Type} (xs:List α) (t:Nat->α->Bool) (T:Int->α->Option Bool) (c:β) (e:ε) (u:Nat->Int->Option (ε ⊕ β)) (hT:∀(j:Nat) (h:j<xs.length),T j xs[j]=some (t j xs[j]))
  (hu:∀n i,u (n+1) i=if (decide (i<(xs.length:Int)))=true then (at? xs i).bind fun x=>(T i x).bind fun b=>if b=true then some (.inr c) else u n (IntKind.i64.wrap (i+1)) else some (.inl e))
  (hl:(xs.length:Int)<=9223372036854775807) {k:Nat} (hk:xs.length<k):u k 0=some (if anyI t 0 xs=true then .inr c else .inl e):=by
 have:=ZqY xs t T c e u hT hu hl xs.length k 0 (by omega) hk
 simpa using this
theorem YO {α β:Type} [Inhabited β] {p:α->β->Prop} (xs:List α) (h:∀x∈xs,∃b,p x b):∃f:α->β,∀x∈xs,p x (f x):=by
 classical
 refine ⟨fun x=>if hx:x∈xs then (h x hx).choose else default,fun x hx=> ?_⟩;simp only [hx,dite_true];exact (h x hx).choose_spec
def WV {α:Type} (p:α->α->Bool):List α->List α->Bool
 | [],[]=>true
 | x::xs,y::ys=>p x y&&WV p xs ys
 | _,_=>false
theorem Zlr {α:Type} {p:α->α->Bool}:∀{xs ys:List α},WV p xs ys=true->xs.length=ys.length
 | [],[],_=>rfl
 | x::xs,y::ys,h=>by simp only [WV,ZAd] at h;simp [Zlr h.2]
 | [],_::_,h=>by simp [WV] at h
 | _::_,[],h=>by simp [WV] at h
theorem ZeE {α:Type} (xs ys:List α) (p:α->α->Bool) (P:α->α->Option Bool) (u:Nat->Int->Option (Unit ⊕ Bool)) (hP:∀x∈xs,∀y∈ys,P x y=some (!p x y))
  (hu:∀n i,u (n+1) i=if (decide (i<(xs.length:Int)))=true then (at? xs i).bind fun x=>(at? ys i).bind fun y=>(P x y).bind fun b=>if b=true then some (.inr false) else u n (IntKind.i64.wrap (i+1)) else some (.inl ()))
  (hl:(xs.length:Int)<=9223372036854775807) (he:xs.length=ys.length):∀(m n i:Nat),i+m=xs.length->m<n->u n (i:Int)=some (if WV p (xs.drop i) (ys.drop i)=true then .inl () else .inr false):=by
 intro m
 induction m with
 | zero=>
  intro n i hi hn;obtain ⟨n,rfl⟩:∃j,n=j+1:=⟨n-1,by omega⟩;rw [hu,if_neg (Ql (by omega)),List.drop_of_length_le (by omega),List.drop_of_length_le (by omega)];rfl
 | succ m ih=>
  intro n i hi hn;obtain ⟨n,rfl⟩:∃j,n=j+1:=⟨n-1,by omega⟩;have hil:i<xs.length:=by omega
  have hjl:i<ys.length:=by omega
  rw [hu,if_pos (ZE hil),ZJ hil,Zz8,ZJ hjl,Zz8,hP _ (List.getElem_mem hil) _ (List.getElem_mem hjl),Zz8,wS i (by omega),List.drop_eq_getElem_cons hil,List.drop_eq_getElem_cons hjl];cases ht:p xs[i] ys[i] with
  | true=>rw [if_neg (by simp),ih n (i+1) (by omega) (by omega)];simp [WV,ht]
  | false=>simp [WV,ht]
theorem Zj4 {α:Type} (xs ys:List α) (p:α->α->Bool) (P:α->α->Option Bool) (u:Nat->Int->Option (Unit ⊕ Bool)) (hP:∀x∈xs,∀y∈ys,P x y=some (!p x y))
  (hu:∀n i,u (n+1) i=if (decide (i<(xs.length:Int)))=true then (at? xs i).bind fun x=>(at? ys i).bind fun y=>(P x y).bind fun b=>if b=true then some (.inr false) else u n (IntKind.i64.wrap (i+1)) else some (.inl ()))
  (hl:(xs.length:Int)<=9223372036854775807) {k:Nat} (hk:xs.length<k):
  (if (!decide ((xs.length:Int)=(ys.length:Int)))=true then some false else (u k 0).bind fun | .inl _=>some true| .inr z=>some z)=some (WV p xs ys):=by
 by_cases he:xs.length=ys.length
 ·rw [if_neg (by simp [he])];have:=ZeE xs ys p P u hP hu hl he xs.length k 0 (by omega) hk;rw [show ((0:Nat):Int)=0 from rfl] at this;rw [this];simp only [List.drop_zero,Zz8];cases WV p xs ys<;>rfl
 ·rw [if_pos (by simp;omega)];cases h:WV p xs ys with
  | false=>rfl
  | true=>exact absurd (Zlr h) he
theorem ZiS {O ε:Type} (u:Nat->O->Int->Option ε) (S:Nat->O) (R:Option ε) (j:Nat)
  (step:∀n i,i<j->u (n+1) (S i) (i:Int)=u n (S (i+1)) ((i+1:Nat):Int)) (ex:∀n,u (n+1) (S j) (j:Int)=R) {k:Nat} (hk:j<k):u k (S 0) 0=R:=by
 have key:∀(m n i:Nat),i+m=j->m<n->u n (S i) (i:Int)=R:=by
  intro m
  induction m with
  | zero=>
   intro n i hi hn;obtain ⟨n,rfl⟩:∃q,n=q+1:=⟨n-1,by omega⟩;obtain rfl:i=j:=by omega
   exact ex n
  | succ m ih=>
   intro n i hi hn;obtain ⟨n,rfl⟩:∃q,n=q+1:=⟨n-1,by omega⟩;rw [step n i (by omega)];exact ih n (i+1) (by omega) (by omega)
 exact key j k 0 (by omega) hk
def Za9 {α:Type} (p:α->Bool) (xs:List α):Int:=if xs.findIdx p<xs.length then (xs.findIdx p:Int) else-1
theorem ZrN {α:Type} (p:α->Bool) (xs:List α): -1<=Za9 p xs/\Za9 p xs<xs.length:=by
 unfold Za9
 split<;>omega
theorem ZqA {α:Type} {p:α->Bool} {xs:List α} (h:Za9 p xs<0):∀x∈xs,p x=false:=by
 unfold Za9 at h
 split at h
 ·omega
 ·rename_i h1;intro x hx;have h2:xs.findIdx p<=xs.length:=List.findIdx_le_length;have e:xs.findIdx p=xs.length:=by omega
  simpa using List.findIdx_eq_length.1 e x hx
theorem Zck {α ε:Type} (xs:List α) (p:α->Bool) (u:Nat->Int->Option ε) (yes:Nat->Option ε) (no:Option ε)
  (hstep:∀n i (h:i<xs.length),p xs[i]=false->u (n+1) (i:Int)=u n ((i+1:Nat):Int)) (hyes:∀n i (h:i<xs.length),p xs[i]=true->u (n+1) (i:Int)=yes i) (hno:∀n,u (n+1) (xs.length:Int)=no)
  {k:Nat} (hk:xs.length<k):u k 0=if xs.findIdx p<xs.length then yes (xs.findIdx p) else no:=by
 have h1:xs.findIdx p<=xs.length:=List.findIdx_le_length;refine ZiS (fun n (_:Unit) i=>u n i) (fun _=>()) _ (xs.findIdx p) (fun n i hi=> ?_) (fun n=> ?_) (by omega)
 ·exact hstep n i (Nat.lt_of_lt_of_le hi h1) (by simpa using List.not_of_lt_findIdx hi)
 ·by_cases h:xs.findIdx p<xs.length
  ·rw [if_pos h];exact hyes n _ h List.findIdx_getElem
  ·rw [if_neg h];have e:xs.findIdx p=xs.length:=by omega
   simp only [e];exact hno n
inductive D where
 | int (n:Int)
 | byte (n:Int)
 | bool (b:Bool)
 | str (s:ByteArray)
 | agg (fs:List D)
 | sl (es:List D)
def I64 (n:Int):Prop:= -9223372036854775808<=n/\n<=9223372036854775807
mutual
def wd:D->Nat
 | .int _=>1
 | .byte _=>1
 | .bool _=>1
 | .str _=>1
 | .agg fs=>wdL fs
 | .sl _=>1
def wdL:List D->Nat
 | []=>0
 | d::ds=>wd d+wdL ds
end
def ZkP (w:World) (b off:Nat) (xs:List Value):Prop:=∀j u,xs[j]? =some u->w.cell? ⟨b,off+j,none⟩=some u
mutual
def Rep (w:World):D->List Value->List Nat->Prop
 | .int n,cs,F=>cs=[.int .i64 n]/\F=[]/\I64 n
 | .byte n,cs,F=>cs=[.int .u8 n]/\F=[]/\0<=n/\n<=255
 | .bool b,cs,F=>cs=[.bool b]/\F=[]
 | .str s,cs,F=>cs=[.string s]/\F=[]/\s.size<=9223372036854775807
 | .agg fs,cs,F=>Zpk w fs cs F
 | .sl es,cs,F=>∃A c,cs=[.slice A es.length c]/\es.length<=c/\c<=9223372036854775807/\
   ((es=[]/\F=[])\/∃b off xs Fs,A=some ⟨b,off,none⟩/\b<w.heap.size/\F=b::Fs/\ZkP w b off xs/\Zpk w es xs Fs)
def Zpk (w:World):List D->List Value->List Nat->Prop
 | [],cs,F=>cs=[]/\F=[]
 | d::ds,cs,F=>∃c1 c2 F1 F2,cs=c1++c2/\F=F1++F2/\Rep w d c1 F1/\Zpk w ds c2 F2
end
open Go.ChangeShapes Go.WideShapes Go.ChangeAt Go.RowKit Go.Deep
def has (P:Program):Nat->TypeId->D->Prop
 | 0,_,_=>False
 | n+1,t,d=>
  match P.underlying t with
  | some .bool=>∃b,d= .bool b
  | some (.int .i64)=>∃x,d= .int x
  | some (.int .u8)=>∃x,d= .byte x
  | some .string=>∃s,d= .str s
  | some (.slice e)=>∃es,d= .sl es/\∀x∈es,has P n e x
  | some (.struct fs)=>∃ds,d= .agg ds/\ds.length=fs.size/\∀(i:Nat) (f:Field) (x:D),fs[i]? =some f->ds[i]? =some x->has P n f.type x
  | _=>False
def ZrG (P:Program) (S:List TypeId):Nat->List Field->Bool
 | _,[]=>true
 | off,f::fs=>f.offset==off&&S.contains f.type&&ZrG P S (off+P.cellsOf f.type) fs
def ZlO (P:Program):List Field->Nat
 | []=>0
 | f::fs=>P.cellsOf f.type+ZlO P fs
def Zuv (P:Program) (S:List TypeId) (t:TypeId):Bool:=
 match P.underlying t with
 | some .bool=>P.cellsOf t==1
 | some (.int .i64)=>P.cellsOf t==1
 | some (.int .u8)=>P.cellsOf t==1
 | some .string=>P.cellsOf t==1
 | some (.slice e)=>P.cellsOf t==1&&S.contains e&&decide (0<P.cellsOf e)
 | some (.struct fs)=>ZrG P S 0 fs.toList&&P.cellsOf t==ZlO P fs.toList
 | _=>false
section
variable {H:Type} {enc:TypeId×Value->H} {P:Program} {w:World} {spare:Nat->Bool} {held:Bool}
theorem ZlB {w:World} {W:Nat} {f:Nat->List Value} {b off:Nat}:∀(es:List D) (k:Nat),(∀i (h:i<es.length),∃F,Rep w es[i] (f (k+i)) F)->(∀i,i<es.length->(f (k+i)).length=W/\ZkP w b (off+(k+i)*W) (f (k+i)))->
  ∃xs F,Zpk w es xs F/\ZkP w b (off+k*W) xs
 | [],_,_,_=>⟨[],[],⟨rfl,rfl⟩,fun j u hu=>by simp at hu⟩
 | e::es,k,h1,h2=>by
  obtain ⟨xs,F,r,c⟩:=ZlB es (k+1) (fun i hi=>by have:=h1 (i+1) (by simpa using hi);simpa [Nat.add_assoc,Nat.add_comm 1 i] using this)
   (fun i hi=>by have:=h2 (i+1) (by simpa using hi);rwa [show k+(i+1)=k+1+i from by omega] at this)
  obtain ⟨F0,r0⟩:=h1 0 (by simp);obtain ⟨l0,c0⟩:=h2 0 (by simp);simp only [Nat.add_zero,List.getElem_cons_zero] at r0 l0 c0;refine ⟨f k++xs,F0++F,⟨_,_,_,_,rfl,rfl,r0,r⟩,fun j u hu=> ?_⟩
  by_cases hj:j<(f k).length
  ·rw [List.getElem?_append_left hj] at hu;exact c0 j u hu
  ·rw [List.getElem?_append_right (by omega)] at hu;have:=c (j-(f k).length) u hu;rw [show off+(k+1)*W+(j-(f k).length)=off+k*W+j from by rw [Nat.add_mul];omega] at this;exact this
theorem ZhN {n:Nat} (S:List TypeId) (ih:∀(t:TypeId) (cs:List Value) (x:DataW H×List MemPlace),t∈S->DataW.trod enc P w 0 spare held n t cs=some x->∃d F,Rep w d cs F/\has P n t d):
  ∀(fs:List Field) (off:Nat) (cs:List Value),ZrG P S off fs=true->cs.length=off+ZlO P fs->(∀f∈fs,∃x,DataW.trod enc P w 0 spare held n f.type ((cs.drop f.offset).take (P.cellsOf f.type))=some x)->
   ∃ds F,Zpk w ds (cs.drop off) F/\ds.length=fs.length/\∀(i:Nat) (f:Field) (x:D),fs[i]? =some f->ds[i]? =some x->has P n f.type x
 | [],off,cs,_,hl,_=>⟨[],[],by simp only [Zpk];exact ⟨List.drop_of_length_le (by simp only [ZlO] at hl;omega),trivial⟩,rfl,by simp⟩
 | f::fs,off,cs,hok,hl,hf=>by
  simp only [ZrG,ZAd,beq_iff_eq] at hok;obtain ⟨⟨h1,h2⟩,h3⟩:=hok;simp only [ZlO] at hl;obtain ⟨x,hx⟩:=hf f (by simp);obtain ⟨d,F,r1,r2⟩:=ih _ _ _ (by simpa using h2) hx;obtain ⟨ds,F',r3,r4,r5⟩:=ZhN S ih fs (off+P.cellsOf f.type) cs h3 (by omega) (fun g hg=>hf g (by simp [hg]));refine ⟨d::ds,F++F', ?_,by simp [r4], ?_⟩
  ·simp only [Zpk];refine ⟨_,_,F,F', ?_,rfl,r1,r3⟩;rw [h1,<-List.drop_drop,List.take_append_drop]
  ·intro i g y hi hy;cases i with
   | zero=>simp at hi hy;subst hi hy;exact r2
   | succ i=>simp at hi hy;exact r5 i g y hi hy
theorem U4 (S:List TypeId) (hS:S.all (Zuv P S)=true):∀(fuel:Nat) (t:TypeId) (cs:List Value) (x:DataW H×List MemPlace),t∈S->
  DataW.trod enc P w 0 spare held fuel t cs=some x->∃d F,Rep w d cs F/\has P fuel t d
 | 0,_,_,_,_,h=>by simp [DataW.trod] at h
 | n+1,t,cs,x,ht,h=>by
  have hok:=List.all_eq_true.1 hS t ht;unfold Zuv at hok
  split at hok
  ·rename_i hu;obtain ⟨b,rfl,_⟩:=DataW.trod_bool hu h;exact ⟨.bool b,[],⟨rfl,rfl⟩,by simp only [has,hu];exact ⟨b,rfl⟩⟩
  ·rename_i hu;obtain ⟨m,rfl,_,hw⟩:=DataW.trod_int hu h;refine ⟨.int m,[],⟨rfl,rfl, ?_⟩,by simp only [has,hu];exact ⟨m,rfl⟩⟩
   simpa [I64,Lit.wf,IntKind.min,IntKind.max,IntKind.signed,IntKind.bits] using hw
  ·rename_i hu;obtain ⟨m,rfl,_,hw⟩:=DataW.trod_int hu h;refine ⟨.byte m,[],⟨rfl,rfl, ?_⟩,by simp only [has,hu];exact ⟨m,rfl⟩⟩
   simpa [Lit.wf,IntKind.min,IntKind.max,IntKind.signed,IntKind.bits] using hw
  ·rename_i hu;obtain ⟨s,rfl,_,hw⟩:=DataW.trod_string hu h;exact ⟨.str s,[],⟨rfl,rfl,hw⟩,by simp only [has,hu];exact ⟨s,rfl⟩⟩
  ·rename_i e hu;simp only [ZAd,beq_iff_eq,decide_eq_true_eq] at hok;obtain ⟨⟨hc1,hmem⟩,hpos⟩:=hok;have hmem':e∈S:=by simpa using hmem
   rcases DataW.trod_slice hu h with ⟨rfl,_⟩| ⟨⟨b,off,spot⟩,len,cap,elems,rest,n',hn',rfl,_,_,hl,hm,hel,hi,_⟩
   ·exact ⟨.sl [],[],⟨none,0,rfl,by simp,by omega,.inl ⟨rfl,rfl⟩⟩,by simp only [has,hu];exact ⟨[],rfl,by simp⟩⟩
   ·obtain rfl:n=n':=by omega
    simp only [maxLen] at hm;rcases Nat.eq_zero_or_pos len with rfl| hlen
    ·exact ⟨.sl [],[],⟨some ⟨b,off,spot⟩,cap,rfl,by simp,by omega,.inl ⟨rfl,rfl⟩⟩,by simp only [has,hu];exact ⟨[],rfl,by simp⟩⟩
    have key:∀i,i<len->∃y:List Value×D,(∃F,Rep w y.2 y.1 F)/\has P n e y.2/\y.1.length=P.cellsOf e/\∀j,j<P.cellsOf e->w.cell? ((Addr.mk b off spot).add (i*P.cellsOf e) |>.add j)=y.1[j]? :=by
     intro i hil;have h1:=hi i hil;rw [ZAg (by omega)] at h1;obtain ⟨cs',hcs,htr⟩:=Option.bind_eq_some_iff.1 h1;obtain ⟨_,hcl,hat⟩:=World.cells?_some hcs;obtain ⟨d,F,h2,h3⟩:=U4 S hS n e cs' _ hmem' htr;exact ⟨(cs',d),⟨F,h2⟩,h3,hcl,hat⟩
    have hspot:spot=none:=by
     obtain ⟨y,_,_,hyl,hat⟩:=key 0 hlen;have h0:=hat 0 hpos;rw [ZAg (by omega)] at h0
     simpa [Addr.add] using World.cell?_spot h0
    subst hspot;have:Inhabited (List Value×D):=⟨([],.int 0)⟩;obtain ⟨f,hf⟩:=choose_lt key
    have hcells:∀i,i<len->ZkP w b (off+i*P.cellsOf e) (f i).1:=by
     intro i hil j u hu';obtain ⟨_,_,hyl,hat⟩:=hf i hil;have hj:j<P.cellsOf e:=by have:=(List.getElem?_eq_some_iff.1 hu').1;omega
     have h1:=hat j hj;rw [Addr.add_lit,Addr.add_lit] at h1;rw [h1,hu']
    obtain ⟨xs,F,r1,r2⟩:=ZlB (w:=w) (W:=P.cellsOf e) (f:=fun i=>(f i).1) (b:=b) (off:=off) ((List.range len).map fun i=>(f i).2) 0
     (fun i hil=>by
      simp only [List.length_map,List.length_range] at hil
      simpa using (hf i hil).1)
     (fun i hil=>by
      simp only [List.length_map,List.length_range] at hil;simp only [Nat.zero_add];exact ⟨(hf i hil).2.2.1,hcells i hil⟩)
    have hb:b<w.heap.size:=by
     obtain ⟨_,_,hyl,hat⟩:=hf 0 hlen;have h0:=hat 0 hpos;rw [ZAg (by omega)] at h0;have:=World.block_lt_of_cell? w _ h0
     simpa [Addr.add] using this
    refine ⟨.sl ((List.range len).map fun i=>(f i).2),b::F, ?_, ?_⟩
    ·simp only [Rep];refine ⟨some ⟨b,off,none⟩,cap,by simp [Value.cells],by simpa using hl,by omega,.inr ⟨b,off,xs,F,rfl,hb,rfl,by simpa using r2,r1⟩⟩
    ·simp only [has,hu];refine ⟨_,rfl,fun y hy=> ?_⟩;obtain ⟨i,hi',rfl⟩:=List.mem_map.1 hy;exact (hf i (by simpa using hi')).2.1
  ·rename_i fs hu;simp only [ZAd,beq_iff_eq] at hok;obtain ⟨hlay,hsum⟩:=hok;obtain ⟨xs,n',hn',_,hlen,hxl,hg⟩:=DataW.trod_struct hu h;obtain rfl:n=n':=by omega
   obtain ⟨ds,F,r1,r2,r3⟩:=ZhN S (fun t cs x h1 h2=>U4 S hS n t cs x h1 h2) fs.toList 0 cs hlay (by omega) (fun f hf=>by
    obtain ⟨i,hi,rfl⟩:=List.getElem_of_mem hf;have h1:=hg i fs.toList[i] (by rw [Array.getElem?_eq_getElem (by simpa using hi)];simp);rw [ZAg (by simp at hi;omega)] at h1;exact ⟨_,h1⟩)
   refine ⟨.agg ds,F,by simp only [Rep];simpa using r1, ?_⟩;simp only [has,hu];exact ⟨ds,rfl,by simpa using r2,fun i f x h1 h2=>r3 i f x (by simpa using h1) h2⟩
  ·cases hok
end
mutual
def fl:D->List L
 | .int n=>[.int .i64 n]
 | .byte n=>[.int .u8 n]
 | .bool b=>[.bool b]
 | .str s=>[.str s]
 | .agg fs=>flL fs
 | .sl es=>[.sl (flE es)]
def flL:List D->List L
 | []=>[]
 | d::ds=>fl d++flL ds
def flE:List D->List (List L)
 | []=>[]
 | d::ds=>fl d::flE ds
end
theorem Zf3:∀ds:List D,(flE ds).length=ds.length
 | []=>by simp [flE]
 | d::ds=>by simp [flE,Zf3 ds]
theorem Zjc {w:World}:∀{xs ys:List L} {v1 v2:List Value} {F1 F2:List Nat},RpL w xs v1 F1->RpL w ys v2 F2->RpL w (xs++ys) (v1++v2) (F1++F2)
 | [],_,_,_,_,_,h,k=>by simp only [RpL] at h;obtain ⟨rfl,rfl⟩:=h;simpa using k
 | x::xs,_,_,_,_,_,h,k=>by
  simp only [RpL] at h;obtain ⟨v,vs',G1,G2,rfl,rfl,h1,h2⟩:=h;simp only [List.cons_append,RpL];exact ⟨v,_,G1,_,rfl,by simp,h1,Zjc h2 k⟩
theorem Zly {w:World}:∀{xs ys:List L} {vs:List Value} {F:List Nat},RpL w (xs++ys) vs F->∃v1 v2 F1 F2,vs=v1++v2/\F=F1++F2/\RpL w xs v1 F1/\RpL w ys v2 F2
 | [],_,vs,F,h=>⟨[],vs,[],F,rfl,rfl,by simp [RpL],h⟩
 | x::xs,_,_,_,h=>by
  simp only [List.cons_append,RpL] at h;obtain ⟨v,vs',G1,G2,rfl,rfl,h1,h2⟩:=h;obtain ⟨v1,v2,F1,F2,rfl,rfl,h3,h4⟩:=Zly h2;exact ⟨v::v1,v2,G1++F1,F2,rfl,by simp,by simp only [RpL];exact ⟨v,v1,G1,F1,rfl,rfl,h1,h3⟩,h4⟩
theorem ZhL {w:World} {x:L} {vs:List Value} {F:List Nat}:RpL w [x] vs F↔∃v,vs=[v]/\Rp w x v F:=by
 simp only [RpL];constructor
 ·rintro ⟨v,vs',F1,F2,rfl,rfl,h1,rfl,rfl⟩;exact ⟨v,rfl,by simpa using h1⟩
 ·rintro ⟨v,rfl,h⟩;exact ⟨v,[],F,[],rfl,by simp,h,rfl,rfl⟩
theorem ZrI {n:Int}:InK .i64 n↔I64 n:=Am.Kd n
mutual
theorem ZgI {w:World}:∀{d:D} {cs:List Value} {F:List Nat},Rep w d cs F↔RpL w (fl d) cs F
 | .int n,cs,F=>by simp only [Rep,fl,ZhL,Rp,ZrI];constructor;(rintro ⟨rfl,h⟩;exact ⟨_,rfl,rfl,h⟩);(rintro ⟨v,rfl,rfl,h⟩;exact ⟨rfl,h⟩)
 | .byte n,cs,F=>by simp only [Rep,fl,ZhL,Rp,Zsy];constructor;(rintro ⟨rfl,h⟩;exact ⟨_,rfl,rfl,h⟩);(rintro ⟨v,rfl,rfl,h⟩;exact ⟨rfl,h⟩)
 | .bool n,cs,F=>by simp only [Rep,fl,ZhL,Rp];constructor;(rintro ⟨rfl,h⟩;exact ⟨_,rfl,rfl,h⟩);(rintro ⟨v,rfl,rfl,h⟩;exact ⟨rfl,h⟩)
 | .str n,cs,F=>by simp only [Rep,fl,ZhL,Rp,Fit];constructor;(rintro ⟨rfl,h⟩;exact ⟨_,rfl,rfl,h⟩);(rintro ⟨v,rfl,rfl,h⟩;exact ⟨rfl,h⟩)
 | .agg fs,cs,F=>by simp only [Rep,fl];exact ZmC
 | .sl es,cs,F=>by
  simp only [Rep,fl,ZhL,Rp,Zf3];constructor
  ·rintro ⟨A,c,rfl,h1,h2,⟨rfl,rfl⟩| ⟨b,off,xs,Fs,e1,e2,e3,e4,e5⟩⟩
   ·exact ⟨_,rfl,A,c,rfl,h1,h2,.inl ⟨by simp [flE],rfl⟩⟩
   ·exact ⟨_,rfl,A,c,rfl,h1,h2,.inr ⟨b,off,xs,Fs,e1,e2,e3,e4,Zkd.1 e5⟩⟩
  ·rintro ⟨v,rfl,A,c,rfl,h1,h2,⟨h3,rfl⟩| ⟨b,off,xs,Fs,e1,e2,e3,e4,e5⟩⟩
   ·refine ⟨A,c,rfl,h1,h2,.inl ⟨?_,rfl⟩⟩;have:=Zf3 es;rw [h3] at this
    simpa using this.symm
   ·exact ⟨A,c,rfl,h1,h2,.inr ⟨b,off,xs,Fs,e1,e2,e3,e4,Zkd.2 e5⟩⟩
theorem ZmC {w:World}:∀{ds:List D} {cs:List Value} {F:List Nat},Zpk w ds cs F↔RpL w (flL ds) cs F
 | [],cs,F=>by simp only [Zpk,flL,RpL]
 | d::ds,cs,F=>by
  simp only [Zpk,flL];constructor
  ·rintro ⟨c1,c2,F1,F2,rfl,rfl,h1,h2⟩;exact Zjc (ZgI.1 h1) (ZmC.1 h2)
  ·intro h;obtain ⟨c1,c2,F1,F2,rfl,rfl,h1,h2⟩:=Zly h;exact ⟨c1,c2,F1,F2,rfl,rfl,ZgI.2 h1,ZmC.2 h2⟩
theorem Zkd {w:World}:∀{ds:List D} {cs:List Value} {F:List Nat},Zpk w ds cs F↔RpE w (flE ds) cs F
 | [],cs,F=>by simp only [Zpk,flE,RpE]
 | d::ds,cs,F=>by
  simp only [Zpk,flE,RpE];constructor
  ·rintro ⟨c1,c2,F1,F2,rfl,rfl,h1,h2⟩;exact ⟨c1,c2,F1,F2,rfl,rfl,ZgI.1 h1,Zkd.1 h2⟩
  ·rintro ⟨c1,c2,F1,F2,rfl,rfl,h1,h2⟩;exact ⟨c1,c2,F1,F2,rfl,rfl,ZgI.2 h1,Zkd.2 h2⟩
end
theorem ZoV {α:Type} {c:α->List L} (es:List D) (h:∀x∈es,∃y:α,fl x=c y):∃ys:List α,flE es=ys.map c:=by
 induction es with
 | nil=>exact ⟨[],rfl⟩
 | cons e es ih=>
  obtain ⟨y,hy⟩:=h e (by simp);obtain ⟨ys,hys⟩:=ih (fun x hx=>h x (by simp [hx]));exact ⟨y::ys,by simp only [flE,List.map_cons,hy,hys]⟩
theorem Zr {P:Program} {n t e:Nat} {α:Type} {c:α->List L} {d:D} (hu:P.underlying t=some (.slice e)) (hi:∀m,m<n->∀x,has P m e x->∃y:α,fl x=c y) (h:has P n t d):∃ys:List α,fl d=[.sl (ys.map c)]:=by
 cases n with
 | zero=>exact h.elim
 | succ n=>
  simp only [has,hu] at h;obtain ⟨es,rfl,hf⟩:=h;obtain ⟨ys,hys⟩:=ZoV (c:=c) es fun x hx=>hi n (by omega) x (hf x hx);exact ⟨ys,by simp only [fl,hys]⟩
theorem Zk {P:Program} {n t:Nat} {d:D} (hu:P.underlying t=some (.int .i64)) (h:has P n t d):∃y:Int,fl d=[.int .i64 y]:=by
 cases n with
 | zero=>exact h.elim
 | succ n=>
  simp only [has,hu] at h;obtain ⟨y,rfl⟩:=h;exact ⟨y,by simp only [fl]⟩
theorem Zhg {P:Program} {n t:Nat} {d:D} (hu:P.underlying t=some .bool) (h:has P n t d):∃y:Bool,fl d=[.bool y]:=by
 cases n with
 | zero=>exact h.elim
 | succ n=>
  simp only [has,hu] at h;obtain ⟨y,rfl⟩:=h;exact ⟨y,by simp only [fl]⟩
theorem Y2 {P:Program} {n t:Nat} {d:D} (hu:P.underlying t=some .string) (h:has P n t d):∃y:ByteArray,fl d=[.str y]:=by
 cases n with
 | zero=>exact h.elim
 | succ n=>
  simp only [has,hu] at h;obtain ⟨y,rfl⟩:=h;exact ⟨y,by simp only [fl]⟩
theorem ZcQ {w:World} {d:DV} {ds:List DV} {v:Value} {vs:List Value} {F G:List Nat} (h:Zcl w d v F) (k:Yn w ds vs G):Yn w (d::ds) (v::vs) (F++G):=⟨v,vs,F,G,rfl,rfl,h,k⟩
theorem ZkA {w:World}:Yn w [] [] []:=⟨rfl,rfl⟩
theorem J1 {w:World} {ls:List L} {cl:List Value} {F:List Nat} (h:RpL w ls cl F):Zcl w (.agg ls) (.agg ⟨cl⟩) F:=⟨cl,rfl,h⟩
theorem ZsB {w:World} {n:Int} (h: -9223372036854775808<=n/\n<=9223372036854775807):Zcl w (.one (.int .i64 n)) (.int .i64 n) []/\DOk (.int .i64 n):=by
 have:InK .i64 n:=(Kd n).2 h;exact ⟨by simp only [Zcl,Rp];exact ⟨trivial,trivial,this⟩,by simp only [DOk];exact this⟩
theorem Zhc {P:Program} {f:Nat} {ds:List DV} {vs:List Value} {W:World} {FA:List Nat} (hc:Ctr P f ds true [.one (.bool true)]) (hg:∃G,Glb W G) (hd:Yn W ds vs FA):
  Calls P f vs.toArray W fun e w'=>e= .returned (.bool true)/\Below W.heap.size W w':=by
 refine (hc.2 W vs FA hg hd).mono fun e w' ⟨us,he,hr,hb⟩=> ?_;simp only [ZdF,if_true,ZdY,Zt2,Ow] at hr;obtain ⟨F,⟨v,vs',F1,F2,rfl,rfl,⟨rfl,_⟩,rfl,_⟩,_⟩:=hr;exact ⟨he,hb⟩
end Go.Proofs.YtpblakfidofgfaaGreatDoor
