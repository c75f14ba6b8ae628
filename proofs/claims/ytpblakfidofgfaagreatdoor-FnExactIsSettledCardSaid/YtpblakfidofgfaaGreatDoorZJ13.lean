import Derived.Test.YtpblakfidofgfaaGreatDoorZJ12
set_option linter.unusedSimpArgs false
set_option linter.unusedVariables false
namespace Go.Proofs.YtpblakfidofgfaaGreatDoor
open Go.RowKit Am
def tb {α:Type} (n:Nat) (f:Nat->α):List α:=(List.range n).map f
theorem ZgZ {α:Type} {n i:Nat} {f:Nat->α} (h:i<n):at? (tb n f) (i:Int)=some (f i):=by
 rw [Zit];unfold tb;rw [List.getElem?_map,List.getElem?_range h];rfl
theorem ZjX {α:Type} {n:Nat} {f g:Nat->α} (h:∀i,i<n->f i=g i):tb n f=tb n g:=
 List.map_congr_left fun i hi=>h i (List.mem_range.1 hi)
theorem Zsf {α:Type} {n i:Nat} {f:Nat->α} {v:α}:(tb n f).set i v=tb n fun j=>if j=i then v else f j:=by
 unfold tb;refine List.ext_getElem? fun j=> ?_;rw [List.getElem?_set,List.getElem?_map,List.getElem?_map]
 by_cases h:j<n
 ·rw [List.getElem?_range h]
  by_cases e:i=j
  ·subst e;simp [h]
  ·simp [e,Ne.symm e]
 ·have hn:(List.range n)[j]? =none:=by simp;omega
  rw [hn]
  by_cases e:i=j
  ·subst e;simp [h]
  ·simp [e]
theorem ZuO {α:Type} {n:Nat} {v:α}:List.replicate n v=tb n fun _=>v:=by
 unfold tb;refine List.ext_getElem? fun j=> ?_;rw [List.getElem?_map,List.getElem?_replicate]
 by_cases h:j<n
 ·rw [List.getElem?_range h,if_pos h];rfl
 ·have hn:(List.range n)[j]? =none:=by simp;omega
  rw [hn,if_neg h];rfl
def eix (e:Ze) (id:Int):Int:=Za9 (fun x:Zm=>decide (x.cell=id)) e.entries
theorem ZvO (e:Ze) (id:Int) (hl:e.entries.length<=4294967296) {k:Nat} (hk:e.entries.length<k):Z7 k e id=some (eix e id):=by
 unfold Z7 eix Za9
 rw [Zck e.entries (fun x=>decide (x.cell=id)) (Z9 e id) (fun i=>some (.inr (i:Int))) (some (.inl ()))
  (fun n i h hp=>by rw [Z9,if_pos (ZE h),ZJ h,Zz8,if_neg (by simpa using hp),wS i (by omega)])
  (fun n i h hp=>by rw [Z9,if_pos (ZE h),ZJ h,Zz8,if_pos hp])
  (fun n=>by rw [Z9,if_neg (Ql (ZAe _))]) hk]
 split<;>rfl
theorem ZxK (e:Ze) (id:Int) (hl:e.entries.length<=4294967296) {k:Nat} (hk:e.entries.length<k):Yz k e id=some (eix e id):=by
 rw [Zg1];exact ZvO e id hl hk
section
variable (e:Ze) (ps:List Zi) (fv:Nat->Za×Bool) (nm:Nat->List ByteArray) (rs:ByteArray->Int) (ev:Zm->Nat->Bool) (run:Nat->Bool) (r:List Int) (U:Int->List Int) (cb:Nat->Bool)
def en (j:Nat):Option Zm:=match e.notebook.cells[j]? with
 | some c=>if eix e c.id<0 then none else e.entries[(eix e c.id).toNat]?
 | none=>none
def Zhz (j:Nat):Int:=match en e j with | some x=>x.stamp| none=>0
def Zn1 (j:Nat):Bool:=match ps[j]? with
 | some p=>if p.kind=1 then true else match en e j with | some x=>x.has&&ev x j| none=>false
 | none=>false
def scan (fr:Nat->Bool):List ByteArray->Option (List Int)
 | []=>some []
 | s::l=>if rs s<0 then (scan fr l).map (rs s:: ·) else if fr (rs s).toNat=true then (scan fr l).map (Zhz e (rs s).toNat:: ·) else none
def Zg2 (i:Nat) (L:List Int):Bool:=match en e i,e.notebook.cells[i]? with
 | some x,some c=>decide (x.version=c.version)&&WV (fun a b=>decide (a=b)) x.inputs L
 | _,_=>false
structure StS:Prop where
 nb:ps.length<=e.notebook.cells.length
 nl:ps.length<=1048576
 el:e.entries.length<=1048576
 rsb:∀i,i<ps.length->∀s∈nm i,rs s<ps.length
 rsU:∀i,i<ps.length->∀s∈nm i,0<=rs s->rs s∈U (i:Int)
 rsk:∀i,i<ps.length->∀s∈nm i,0<=rs s->∀p,ps[(rs s).toNat]? =some p->¬p.kind=1
 nml:∀i,i<ps.length->(nm i).length<=2097153
 opn:∀i (h:i<ps.length),(fv i).2=false->run i=true/\ps[i].kind=2
 rnd:r.Nodup
 rin:∀x∈r,(0<=x/\x<ps.length)/\run x.toNat=true
 ord:Zum U run r
 all:∀i,i<ps.length->run i=true->(i:Int)∈r
structure StK (k:Nat):Prop where
 fxS:∀i,i<ps.length->YE k ps (i:Int) (cb i)=some (fv i)
 fxI:∀i,i<ps.length->ZI k ps (i:Int)=some (fv i)
 usS:∀i (h:i<ps.length),Wu k ps[i]=some (nm i)
 usI:∀i (h:i<ps.length),WB k ps[i]=some (nm i)
 rsS:∀i,i<ps.length->∀s∈nm i,Qk k ps s=some (rs s)
 rsI:∀i,i<ps.length->∀s∈nm i,XC k ps s=some (rs s)
 eqS:∀i,i<ps.length->∀x∈e.entries,Xi k x.value (fv i).1=some (ev x i)
 eqI:∀i,i<ps.length->∀x∈e.entries,Xn k x.value (fv i).1=some (ev x i)
 ixS:∀id,Z7 k e id=some (eix e id)
 ixI:∀id,Yz k e id=some (eix e id)
 inS:∀x∈e.entries,∀L,WQ k x.inputs L=some (WV (fun a b=>decide (a=b)) x.inputs L)
 inI:∀x∈e.entries,∀L,Ua k x.inputs L=some (WV (fun a b=>decide (a=b)) x.inputs L)
 big:2097200<=k
structure Sol (fr kn:Nat->Bool) (inp:Nat->List Int):Prop where
 fxd:∀i,i<ps.length->(fv i).2=true->fr i=Zn1 e ps ev i/\kn i=true/\inp i=[]
 opn:∀i,i<ps.length->(fv i).2=false->match scan e rs fr (nm i) with
  | some L=>kn i=true/\inp i=L/\fr i=Zg2 e i L
  | none=>kn i=false/\inp i=[]/\fr i=false
end
section
variable {e:Ze} {ps:List Zi} {fv:Nat->Za×Bool} {nm:Nat->List ByteArray} {rs:ByteArray->Int} {ev:Zm->Nat->Bool} {run:Nat->Bool} {r:List Int} {U:Int->List Int} {cb:Nat->Bool}
theorem ZqC (id:Int): -1<=eix e id/\eix e id<e.entries.length:=ZrN _ _
theorem ZvN {j:Nat} {c:Zs} (hc:e.notebook.cells[j]? =some c):en e j=if eix e c.id<0 then none else e.entries[(eix e c.id).toNat]? :=by unfold en;rw [hc]
theorem Zf4 {j:Nat} {c:Zs} (hc:e.notebook.cells[j]? =some c) (h:¬eix e c.id<0):∃x,en e j=some x/\x∈e.entries/\at? e.entries (eix e c.id)=some x:=by
 have hb:=ZqC (e:=e) c.id;have hl:(eix e c.id).toNat<e.entries.length:=by omega
 refine ⟨e.entries[(eix e c.id).toNat], ?_,List.getElem_mem hl, ?_⟩
 ·rw [ZvN hc,if_neg h,ZAg hl]
 ·have:=ZJ hl
  rwa [show (((eix e c.id).toNat:Nat):Int)=eix e c.id by omega] at this
theorem Zf5 {j:Nat} {c:Zs} (hc:e.notebook.cells[j]? =some c) (h:eix e c.id<0):en e j=none:=by rw [ZvN hc,if_pos h]
theorem Zi8 {fr gr:Nat->Bool}:∀{l:List ByteArray},(∀s∈l,0<=rs s->fr (rs s).toNat=gr (rs s).toNat)->scan e rs fr l=scan e rs gr l
 | [],_=>rfl
 | s::l,h=>by
  have ih:=Zi8 (l:=l) fun x hx=>h x (List.mem_cons_of_mem _ hx);unfold scan;rw [ih]
  by_cases h0:rs s<0
  ·rw [if_pos h0,if_pos h0]
  ·rw [if_neg h0,if_neg h0,h s (by simp) (by omega)]
theorem Zj3 {fr:Nat->Bool}:∀{l:List ByteArray} {L:List Int},scan e rs fr l=some L->L.length=l.length
 | [],_,h=>by cases h;rfl
 | s::l,L,h=>by
  unfold scan at h
  split at h
  ·obtain ⟨L',h1,h2⟩:=Option.map_eq_some_iff.1 h;subst h2;simp [Zj3 h1]
  ·split at h
   ·obtain ⟨L',h1,h2⟩:=Option.map_eq_some_iff.1 h;subst h2;simp [Zj3 h1]
   ·cases h
def Hv (e:Ze) (ps:List Zi) (fr:Nat->Bool):Prop:=∀j (h:j<ps.length),fr j=true->¬ps[j].kind=1->∃x,en e j=some x
theorem ZlQ {j:Nat} (hj:j<ps.length) (hk:¬ps[j].kind=1) (h:Zn1 e ps ev j=true):∃x,en e j=some x:=by
 unfold Zn1 at h;rw [ZAg hj] at h;simp only [hk,if_false] at h;cases hx:en e j with
 | none=>rw [hx] at h;cases h
 | some x=>exact ⟨x,rfl⟩
theorem Zjt {j:Nat} {L:List Int} (h:Zg2 e j L=true):∃x,en e j=some x:=by
 unfold Zg2 at h;cases hx:en e j with
 | none=>rw [hx] at h;cases h
 | some x=>exact ⟨x,rfl⟩
theorem Sol.have (hS:StS e ps fv nm rs run r U) {fr kn:Nat->Bool} {inp:Nat->List Int} (h:Sol e ps fv nm rs ev fr kn inp):Hv e ps fr:=fun j hj hf hk=>by
 cases hv:(fv j).2
 ·have:=h.opn j hj hv
  split at this
  ·exact Zjt (this.2.2▸hf)
  ·rw [this.2.2] at hf;cases hf
 ·exact ZlQ hj hk ((h.fxd j hj hv).1▸hf)
theorem ZtV (hS:StS e ps fv nm rs run r U) {k:Nat} (hK:StK e ps fv nm rs ev cb k) {i:Nat} (hi:i<ps.length):Kt k e ps (i:Int) (fv i).1=some (Zn1 e ps ev i):=by
 have hc:i<e.notebook.cells.length:=Nat.lt_of_lt_of_le hi hS.nb;have hc':=ZAg hc;unfold Kt Zn1;rw [ZJ hi,ZAg hi,Zz8]
 by_cases k1:ps[i].kind=1
 ·simp [k1]
 ·rw [decide_eq_false k1,ZJ hc,Zz8,hK.ixS,Zz8];simp only [ZAf,if_false,k1]
  by_cases h0:eix e e.notebook.cells[i].id<0
  ·rw [Zf5 hc' h0,decide_eq_false (show ¬0<=eix e e.notebook.cells[i].id by omega)];rfl
  ·obtain ⟨x,h1,h2,h3⟩:=Zf4 hc' h0;rw [h1,decide_eq_true (show 0<=eix e e.notebook.cells[i].id by omega),h3];simp only [if_true,Zz8];cases x.has
   ·rfl
   ·simp only [if_true,hK.eqS i hi x h2,Zz8,Bool.true_and]
theorem Zu1 (hS:StS e ps fv nm rs run r U) {k:Nat} (hK:StK e ps fv nm rs ev cb k) {i:Nat} (hi:i<ps.length) (fr:Nat->Bool) (hH:Hv e ps fr) (A B:List Bool) (C:List (List Int)):∀(m p n:Nat) (out:List Int),p+m=(nm i).length->m<n->out.length<=p->
  Y5 k e (nm i) ps A (tb ps.length fr) B C n out (p:Int)=some (match scan e rs fr ((nm i).drop p) with | some L=>.inl (out++L)| none=>.inr (A,tb ps.length fr,B,C)):=by
 intro m
 induction m with
 | zero=>
  intro p n out hp hn _;obtain ⟨n,rfl⟩:∃q,n=q+1:=⟨n-1,by omega⟩;rw [Y5,if_neg (Ql (by omega)),List.drop_of_length_le (by omega)];simp [scan]
 | succ m ih=>
  intro p n out hp hn ho;obtain ⟨n,rfl⟩:∃q,n=q+1:=⟨n-1,by omega⟩;have hlt:p<(nm i).length:=by omega
  have hnl:=hS.nml i hi;have hm:=List.getElem_mem hlt;rw [Y5,if_pos (ZE hlt),ZJ hlt,Zz8,hK.rsS i hi _ hm,Zz8,List.drop_eq_getElem_cons hlt,wS p (by omega)];unfold scan
  by_cases h0:rs (nm i)[p]<0
  ·rw [decide_eq_true h0,if_pos rfl,if_pos h0,XG (by simp;omega) (by omega)];simp only [Zz8];rw [ih (p+1) n _ (by omega) (by omega) (by simp;omega)];cases scan e rs fr ((nm i).drop (p+1))<;>simp
  ·have hb:=hS.rsb i hi _ hm;have hz:(((rs (nm i)[p]).toNat:Nat):Int)=rs (nm i)[p]:=by omega
   have hq:(rs (nm i)[p]).toNat<ps.length:=by omega
   have hat:=ZgZ (f:=fr) hq;rw [hz] at hat;rw [decide_eq_false h0,if_neg (by simp),if_neg h0,hat];simp only [Zz8];cases hf:fr (rs (nm i)[p]).toNat
   ·simp
   ·have hcl:(rs (nm i)[p]).toNat<e.notebook.cells.length:=Nat.lt_of_lt_of_le hq hS.nb;have hca:=ZJ hcl;rw [hz] at hca;obtain ⟨x,hx⟩:=hH _ hq hf (hS.rsk i hi _ hm (by omega) _ (ZAg hq));have hc':=ZAg hcl;have hge:¬eix e e.notebook.cells[(rs (nm i)[p]).toNat].id<0:=fun h=>by rw [Zf5 hc' h] at hx;cases hx
    obtain ⟨y,h1,_,h3⟩:=Zf4 hc' hge;rw [hca];simp only [Bool.not_true,ZAf,if_false,Zz8,hK.ixS,h3];rw [XG (by simp;omega) (by omega)];simp only [Zz8];rw [ih (p+1) n _ (by omega) (by omega) (by simp;omega)];have hst:Zhz e (rs (nm i)[p]).toNat=y.stamp:=by unfold Zhz;rw [h1]
    rw [hst];cases scan e rs fr ((nm i).drop (p+1))<;>simp
def opF (e:Ze) (nm:Nat->List ByteArray) (rs:ByteArray->Int) (F:(Nat->Bool)×(Nat->Bool)×(Nat->List Int)) (i:Nat):(Nat->Bool)×(Nat->Bool)×(Nat->List Int):=
 match scan e rs F.1 (nm i) with
 | some L=>(fun j=>if j=i then Zg2 e i L else F.1 j,fun j=>if j=i then true else F.2.1 j,fun j=>if j=i then L else F.2.2 j)
 | none=>F
theorem Zvh (hS:StS e ps fv nm rs run r U) {k:Nat} (hK:StK e ps fv nm rs ev cb k) {i:Nat} (hi:i<ps.length) (F:(Nat->Bool)×(Nat->Bool)×(Nat->List Int)) (hH:Hv e ps F.1) (A:List Bool):
  ZbJ k e (i:Int) ps A (tb ps.length F.1) (tb ps.length F.2.1) (tb ps.length F.2.2)=some (A,tb ps.length (opF e nm rs F i).1,tb ps.length (opF e nm rs F i).2.1,tb ps.length (opF e nm rs F i).2.2):=by
 have hc:i<e.notebook.cells.length:=Nat.lt_of_lt_of_le hi hS.nb;have hc':=ZAg hc;have hnl:=hS.nml i hi;have hb:=hK.big;unfold ZbJ;have hsc:=Zu1 hS hK hi F.1 hH A (tb ps.length F.2.1) (tb ps.length F.2.2) (nm i).length 0 k [] (by omega) (by omega) (by simp);rw [ZJ hi,Zz8,hK.usS i hi,Zz8,show Y5 k e (nm i) ps A (tb ps.length F.1) (tb ps.length F.2.1) (tb ps.length F.2.2) k [] 0=_ from hsc,List.drop_zero];unfold opF;cases hs:scan e rs F.1 (nm i) with
 | none=>rfl
 | some L=>
  simp only [Zz8,List.nil_append,ZgZ hi,ZJ hc,hK.ixS,Int.toNat_natCast,Zsf]
  by_cases h0:eix e e.notebook.cells[i].id<0
  ·have hch:Zg2 e i L=false:=by unfold Zg2;rw [Zf5 hc' h0]
   rw [decide_eq_false (show ¬0<=eix e e.notebook.cells[i].id by omega),hch];rfl
  ·obtain ⟨x,h1,h2,h3⟩:=Zf4 hc' h0;have hch:Zg2 e i L=(decide (x.version=e.notebook.cells[i].version)&&WV (fun a b=>decide (a=b)) x.inputs L):=by unfold Zg2;rw [h1,hc']
   rw [decide_eq_true (show 0<=eix e e.notebook.cells[i].id by omega),h3,hch];simp only [if_true,Zz8];cases decide (x.version=e.notebook.cells[i].version)
   ·rfl
   ·simp only [if_true,hK.inS x h2,Zz8,Bool.true_and]
theorem Zvi {F:(Nat->Bool)×(Nat->Bool)×(Nat->List Int)} (hH:Hv e ps F.1) (i:Nat):Hv e ps (opF e nm rs F i).1:=fun j hj hf hk=>by
 unfold opF at hf
 split at hf
 ·rename_i L _;simp only at hf
  split at hf
  ·rename_i hji;subst hji;exact Zjt hf
  ·exact hH j hj hf hk
 ·exact hH j hj hf hk
def F0 (e:Ze) (ps:List Zi) (fv:Nat->Za×Bool) (ev:Zm->Nat->Bool):(Nat->Bool)×(Nat->Bool)×(Nat->List Int):=(fun j=>(fv j).2&&Zn1 e ps ev j,fun j=>(fv j).2,fun _=>[])
def FS1 (e:Ze) (fv:Nat->Za×Bool) (nm:Nat->List ByteArray) (rs:ByteArray->Int) (F:(Nat->Bool)×(Nat->Bool)×(Nat->List Int)) (x:Int):(Nat->Bool)×(Nat->Bool)×(Nat->List Int):=if (fv x.toNat).2=true then F else opF e nm rs F x.toNat
def FF (e:Ze) (ps:List Zi) (fv:Nat->Za×Bool) (nm:Nat->List ByteArray) (rs:ByteArray->Int) (ev:Zm->Nat->Bool) (r:List Int) (j:Nat):(Nat->Bool)×(Nat->Bool)×(Nat->List Int):=(r.take j).foldl (FS1 e fv nm rs) (F0 e ps fv ev)
theorem Znm {j:Nat} (h:j<r.length):FF e ps fv nm rs ev r (j+1)=FS1 e fv nm rs (FF e ps fv nm rs ev r j) r[j]:=by
 unfold FF;rw [List.take_succ_eq_append_getElem h,List.foldl_append];rfl
theorem Zyp:Hv e ps (F0 e ps fv ev).1:=fun j hj hf hk=>by
 simp only [F0,ZAd] at hf;exact ZlQ hj hk hf.2
theorem Zuo:∀j,j<=r.length->Hv e ps (FF e ps fv nm rs ev r j).1
 | 0,_=>by unfold FF;rw [List.take_zero];exact Zyp
 | j+1,h=>by
  rw [Znm (by omega)];unfold FS1
  split
  ·exact Zuo j (by omega)
  ·exact Zvi (Zuo j (by omega)) _
theorem Zjh {q j:Nat} (hn:r.Nodup) (hj:j<r.length) (hq:q<=j):r[j]∉r.take q:=fun h=>by
 obtain ⟨i,hi,he⟩:=List.getElem_of_mem h;rw [List.length_take] at hi;rw [List.getElem_take] at he;exact List.pairwise_iff_getElem.1 hn i j (by omega) hj (by omega) he
theorem Zse (hS:StS e ps fv nm rs run r U) {i j q:Nat} (hi:i<ps.length) (hq:q<r.length) (hqi:r[q]=(i:Int)) (hj:j<r.length) (hqj:q<=j):∀s∈nm i,0<=rs s->¬(rs s).toNat=(r[j]).toNat:=fun s hs h0 he=>by
 have hu:=hS.rsU i hi s hs h0;have hb:=(hS.rin _ (List.getElem_mem hj));have e:rs s=r[j]:=by omega
 have:=hS.ord q hq (rs s) (by rw [hqi];exact hu) (by rw [e];exact hb.2);rw [e] at this;exact Zjh hS.rnd hj hqj this
structure Inv (e:Ze) (ps:List Zi) (fv:Nat->Za×Bool) (nm:Nat->List ByteArray) (rs:ByteArray->Int) (ev:Zm->Nat->Bool) (r:List Int) (j:Nat) (F:(Nat->Bool)×(Nat->Bool)×(Nat->List Int)):Prop where
 a:∀i,i<ps.length->(fv i).2=true->F.1 i=Zn1 e ps ev i/\F.2.1 i=true/\F.2.2 i=[]
 b:∀i,i<ps.length->(fv i).2=false->(i:Int)∈r.take j->match scan e rs F.1 (nm i) with
  | some L=>F.2.1 i=true/\F.2.2 i=L/\F.1 i=Zg2 e i L
  | none=>F.2.1 i=false/\F.2.2 i=[]/\F.1 i=false
 c:∀i,i<ps.length->(fv i).2=false->(i:Int)∉r.take j->F.1 i=false/\F.2.1 i=false/\F.2.2 i=[]
theorem Zqp (hS:StS e ps fv nm rs run r U):∀j,j<=r.length->Inv e ps fv nm rs ev r j (FF e ps fv nm rs ev r j)
 | 0,_=>by
  unfold FF;rw [List.take_zero];refine ⟨fun i _ h=> ?_,fun i _ _ hm=>by simp at hm,fun i _ h _=> ?_⟩
  ·simp [F0,h]
  ·simp [F0,h]
 | j+1,hj=>by
  have ih:=Zqp hS j (by omega);have hjl:j<r.length:=by omega
  obtain ⟨⟨x0,x1⟩,xr⟩:=hS.rin _ (List.getElem_mem hjl);rw [Znm hjl];generalize FF e ps fv nm rs ev r j=F at ih ⊢
  have htk:∀i:Nat,(i:Int)∈r.take (j+1)↔(i:Int)∈r.take j\/i=(r[j]).toNat:=fun i=>by
   rw [List.take_succ_eq_append_getElem hjl,List.mem_append,List.mem_singleton];constructor
   ·rintro (h| h)
    ·exact .inl h
    ·exact .inr (by omega)
   ·rintro (h| h)
    ·exact .inl h
    ·exact .inr (by omega)
  unfold FS1;cases hv:(fv (r[j]).toNat).2
  ·rw [if_neg (by simp)];have hxn:(r[j]).toNat<ps.length:=by omega
   have hself:∀s∈nm (r[j]).toNat,0<=rs s->¬(rs s).toNat=(r[j]).toNat:=Zse hS hxn hjl (by omega) hjl (ZAe _)
   have hne:∀i:Nat,i≠(r[j]).toNat->(opF e nm rs F (r[j]).toNat).1 i=F.1 i/\(opF e nm rs F (r[j]).toNat).2.1 i=F.2.1 i/\(opF e nm rs F (r[j]).toNat).2.2 i=F.2.2 i:=fun i hi=>by
    unfold opF
    split
    ·simp only [if_neg hi,and_self]
    ·simp
   have hsc:∀i,(∀s∈nm i,0<=rs s->¬(rs s).toNat=(r[j]).toNat)->scan e rs (opF e nm rs F (r[j]).toNat).1 (nm i)=scan e rs F.1 (nm i):=fun i hi=>Zi8 fun s hs h0=>(hne _ (hi s hs h0)).1;refine ⟨fun i hi h=> ?_,fun i hi h hm=> ?_,fun i hi h hm=> ?_⟩
   ·have hix:i≠(r[j]).toNat:=fun g=>by rw [g,hv] at h;cases h
    obtain ⟨q1,q2,q3⟩:=hne i hix;rw [q1,q2,q3];exact ih.a i hi h
   ·by_cases hix:i=(r[j]).toNat
    ·subst hix;rw [hsc _ hself];have hc:=ih.c _ hxn hv (by rw [show (((r[j]).toNat:Nat):Int)=r[j] by omega];exact Zjh hS.rnd hjl (ZAe _));unfold opF;cases hs:scan e rs F.1 (nm (r[j]).toNat) with
     | none=>exact ⟨hc.2.1,hc.2.2,hc.1⟩
     | some L=>simp
    ·have hmj:(i:Int)∈r.take j:=((htk i).1 hm).resolve_right hix;obtain ⟨q,hq,hqe⟩:=List.getElem_of_mem hmj;rw [List.length_take] at hq;rw [List.getElem_take] at hqe;obtain ⟨q1,q2,q3⟩:=hne i hix;rw [q1,q2,q3,hsc i (Zse hS hi (by omega) hqe hjl (by omega))];exact ih.b i hi h hmj
   ·rw [htk] at hm;obtain ⟨q1,q2,q3⟩:=hne i fun g=>hm (.inr g);rw [q1,q2,q3];exact ih.c i hi h fun g=>hm (.inl g)
  ·rw [if_pos rfl];refine ⟨ih.a,fun i hi h hm=> ?_,fun i hi h hm=> ?_⟩
   ·have hix:i≠(r[j]).toNat:=fun g=>by rw [g,hv] at h;cases h
    exact ih.b i hi h (((htk i).1 hm).resolve_right hix)
   ·exact ih.c i hi h fun g=>hm ((htk i).2 (.inl g))
theorem ZuW (hS:StS e ps fv nm rs run r U):Sol e ps fv nm rs ev (FF e ps fv nm rs ev r r.length).1 (FF e ps fv nm rs ev r r.length).2.1 (FF e ps fv nm rs ev r r.length).2.2:=by
 have h:=Zqp (ev:=ev) hS r.length (ZAe _);exact ⟨h.a,fun i hi hv=>h.b i hi hv (by rw [List.take_length];exact hS.all i hi (hS.opn i hi hv).1)⟩
theorem Zs3 (hS:StS e ps fv nm rs run r U) {k:Nat} (hK:StK e ps fv nm rs ev cb k) {T:List (List Int)} (hc:Wc k e.notebook=some ps) (ht:V1 k ps=some T) (hy:X5 k T=some (tb ps.length cb)) (ho:U1 k ps T (tb ps.length cb)=some r):
  UO k e=some (ZT.mk ps (tb ps.length fun j=>(fv j).2) (tb ps.length (FF e ps fv nm rs ev r r.length).1) (tb ps.length (FF e ps fv nm rs ev r r.length).2.1) (tb ps.length (FF e ps fv nm rs ev r r.length).2.2)):=by
 have hn:=hS.nl;have hbg:=hK.big;have hrl:r.length<=ps.length:=Q9 hS.rnd fun x hx=>(hS.rin x hx).1
 have h1:QQ k e ps (tb ps.length cb) k (tb ps.length fun _=>false) (tb ps.length fun _=>false) (tb ps.length fun _=>false) (tb ps.length fun _=>[]) 0=some (tb ps.length fun j=>(fv j).2,tb ps.length (F0 e ps fv ev).1,tb ps.length (F0 e ps fv ev).2.1,tb ps.length (F0 e ps fv ev).2.2):=by
  have:=ZiS (fun m (s:List Bool×List Bool×List Bool×List (List Int)) i=>QQ k e ps (tb ps.length cb) m s.1 s.2.1 s.2.2.1 s.2.2.2 i)
   (fun i=>(tb ps.length fun j=>decide (j<i)&&(fv j).2,tb ps.length fun j=>decide (j<i)&&((fv j).2&&Zn1 e ps ev j),tb ps.length fun j=>decide (j<i)&&(fv j).2,tb ps.length fun _=>[])) _ ps.length
   (fun m i hi=>by
    have hg:∀(f g:Nat->Bool),(∀j,j<ps.length->j≠i->f j=g j)->∀v,g i=v->(tb ps.length fun j=>if j=i then v else f j)=tb ps.length g:=fun f g h v hv=>ZjX fun j hj=>by
     by_cases e:j=i
     ·subst e;simp [hv]
     ·simp only [if_neg e];exact h j hj e
    have hd:∀j,j≠i->decide (j<i)=decide (j<i+1):=fun j hj=>decide_eq_decide.2 (by omega);have hdi:decide (i<i+1)=true:=decide_eq_true (by omega)
    try simp only
    rw [QQ,if_pos (ZE hi),ZgZ hi,Zz8,hK.fxS i hi,Zz8,ZgZ hi,Zz8,ZgZ hi,Zz8,ZgZ hi,Zz8,wS i (by omega)];simp only [Zz8,Int.toNat_natCast,Zsf,ite_self];cases hv:(fv i).2
    ·simp only [ZAf,if_false,Zz8];rw [hg _ (fun j=>decide (j<i+1)&&(fv j).2) (fun j _ hj=>by rw [hd j hj]) false (by rw [hv,Bool.and_false]),hg _ (fun j=>decide (j<i+1)&&((fv j).2&&Zn1 e ps ev j)) (fun j _ hj=>by rw [hd j hj]) false (by rw [hv];simp)]
    ·simp only [if_true,ZtV hS hK hi,Zz8];rw [hg _ (fun j=>decide (j<i+1)&&(fv j).2) (fun j _ hj=>by rw [hd j hj]) true (by rw [hv,hdi];rfl),hg _ (fun j=>decide (j<i+1)&&((fv j).2&&Zn1 e ps ev j)) (fun j _ hj=>by rw [hd j hj]) (Zn1 e ps ev i) (by rw [hv,hdi];simp)])
   (fun m=>by
    try simp only
    rw [QQ,if_neg (Ql (ZAe _))]) (k:=k) (by omega)
  simp only [Nat.not_lt_zero,decide_false,Bool.false_and] at this;rw [this];have e1:(tb ps.length fun j=>decide (j<ps.length)&&(fv j).2)=tb ps.length fun j=>(fv j).2:=ZjX fun j hj=>by simp [hj]
  have e2:(tb ps.length fun j=>decide (j<ps.length)&&((fv j).2&&Zn1 e ps ev j))=tb ps.length (F0 e ps fv ev).1:=ZjX fun j hj=>by simp [hj,F0]
  rw [e1,e2];rfl
 have h2:QP k e ps r k (tb ps.length fun j=>(fv j).2) (tb ps.length (F0 e ps fv ev).1) (tb ps.length (F0 e ps fv ev).2.1) (tb ps.length (F0 e ps fv ev).2.2) 0=some (tb ps.length fun j=>(fv j).2,tb ps.length (FF e ps fv nm rs ev r r.length).1,tb ps.length (FF e ps fv nm rs ev r r.length).2.1,tb ps.length (FF e ps fv nm rs ev r r.length).2.2):=by
  have:=ZiS (fun m (s:List Bool×List Bool×List Bool×List (List Int)) i=>QP k e ps r m s.1 s.2.1 s.2.2.1 s.2.2.2 i)
   (fun j=>(tb ps.length fun j=>(fv j).2,tb ps.length (FF e ps fv nm rs ev r j).1,tb ps.length (FF e ps fv nm rs ev r j).2.1,tb ps.length (FF e ps fv nm rs ev r j).2.2)) _ r.length
   (fun m j hj=>by
    obtain ⟨⟨x0,x1⟩,xr⟩:=hS.rin _ (List.getElem_mem hj);have hx:r[j].toNat<ps.length:=by omega
    have hz:((r[j].toNat:Nat):Int)=r[j]:=by omega
    try simp only
    rw [QP,if_pos (ZE hj),ZJ hj,Zz8,wS j (by omega),Znm hj];have hat:=ZgZ (f:=fun j=>(fv j).2) hx;rw [hz] at hat;rw [hat,Zz8];unfold FS1;cases hv:(fv r[j].toNat).2
    ·have ho:=Zvh hS hK hx (FF e ps fv nm rs ev r j) (Zuo j (by omega)) (tb ps.length fun j=>(fv j).2);rw [hz] at ho;simp only [Bool.not_false,if_true,ho,Zz8,ZAf,if_false]
    ·simp only [Bool.not_true,ZAf,if_false,Zz8,if_true])
   (fun m=>by
    try simp only
    rw [QP,if_neg (Ql (ZAe _))]) (k:=k) (by omega)
  exact this
 unfold UO;rw [hc,Zz8,ht,Zz8,hy,Zz8,Zp9 (by omega) (by omega),Zz8,Zp9 (by omega) (by omega)];simp only [Zz8,ZuO,h1,ho,h2]
theorem ZlH (x z:Int) (b:Bool):∀M:List (Int×Bool),Ze8 (Zg9 M x b) z=if z=x then some b else Ze8 M z
 | []=>by simp [Zg9,Ze8]
 | p::M=>by
  have ih:=ZlH x z b M;unfold Zg9
  split
  ·rename_i h;subst h;simp only [Ze8]
   by_cases hz:z=p.1<;>simp [hz]
  ·rename_i h;simp only [Ze8]
   by_cases hz:z=p.1
   ·have:¬z=x:=fun g=>h (by rw [<-g,hz]);simp [hz,this];intro g;exact absurd g.symm h
   ·simp only [hz,if_false,ih]
def Con (n:Nat) (fr:Nat->Bool) (M:List (Int×Bool)):Prop:=∀i,i<n->∀b,Ze8 M (i:Int)=some b->b=fr i
theorem Con.nil {n:Nat} {fr:Nat->Bool}:Con n fr []:=fun i _ b h=>by simp [Ze8] at h
theorem Con.put {n:Nat} {fr:Nat->Bool} {M:List (Int×Bool)} (h:Con n fr M) (i:Nat):Con n fr (Zg9 M (i:Int) (fr i)):=fun j hj b hb=>by
 rw [ZlH] at hb
 split at hb
 ·rename_i e;obtain rfl:j=i:=by omega
  exact (Zz9 hb).symm
 ·exact h j hj b hb
section
variable {fr kn:Nat->Bool} {inp:Nat->List Int}
theorem Ztz (hS:StS e ps fv nm rs run r U) {k:Nat} (hK:StK e ps fv nm rs ev cb k) {i:Nat} (hi:i<ps.length) (hv:(fv i).2=true) (M:List (Int×Bool)):Y0 (k+1) (i:Int) e ps M=some (Zn1 e ps ev i,M):=by
 have hc:i<e.notebook.cells.length:=Nat.lt_of_lt_of_le hi hS.nb;have hc':=ZAg hc;rw [Y0,ZJ hi,Zz8];unfold Zn1;rw [ZAg hi]
 by_cases k1:ps[i].kind=1
 ·simp [k1]
 ·rw [decide_eq_false k1,ZJ hc,Zz8,hK.ixI,Zz8];simp only [ZAf,if_false,k1]
  by_cases h0:eix e e.notebook.cells[i].id<0
  ·rw [Zf5 hc' h0,decide_eq_true h0];rfl
  ·obtain ⟨x,h1,h2,h3⟩:=Zf4 hc' h0;rw [h1,decide_eq_false h0,h3,hK.fxI i hi];simp only [ZAf,if_false,Zz8,hv,if_true];cases x.has
   ·rfl
   ·simp only [if_true,hK.eqI i hi x h2,Zz8,Bool.true_and]
theorem Zmt (hS:StS e ps fv nm rs run r U) {k:Nat} (hK:StK e ps fv nm rs ev cb k) {i:Nat} (hi:i<ps.length) (hH:Hv e ps fr) (R:Int->Ze->List Zi->List (Int×Bool)->Option (Bool×List (Int×Bool)))
  (hR:∀s∈nm i,0<=rs s->∀M,Con ps.length fr M->∃M',Con ps.length fr M'/\R (rs s) e ps M=some (fr (rs s).toNat,M')):∀(m p n:Nat) (out:List Int) (M:List (Int×Bool)),p+m=(nm i).length->m<n->out.length<=p->Con ps.length fr M->∃M',Con ps.length fr M'/\
  ZO R k (nm i) e ps n M out (p:Int)=some (match scan e rs fr ((nm i).drop p) with | some L=>.inl (out++L,M')| none=>.inr ([],false,M')):=by
 intro m
 induction m with
 | zero=>
  intro p n out M hp hn _ hM;obtain ⟨n,rfl⟩:∃q,n=q+1:=⟨n-1,by omega⟩;refine ⟨M,hM, ?_⟩;rw [ZO,if_neg (Ql (by omega)),List.drop_of_length_le (by omega)];simp [scan]
 | succ m ih=>
  intro p n out M hp hn ho hM;obtain ⟨n,rfl⟩:∃q,n=q+1:=⟨n-1,by omega⟩;have hlt:p<(nm i).length:=by omega
  have hnl:=hS.nml i hi;have hm:=List.getElem_mem hlt;rw [ZO,if_pos (ZE hlt),ZJ hlt,Zz8,hK.rsI i hi _ hm,Zz8,List.drop_eq_getElem_cons hlt,wS p (by omega)];unfold scan
  by_cases h0:rs (nm i)[p]<0
  ·rw [decide_eq_true h0,if_pos rfl,if_pos h0,XG (by simp;omega) (by omega)];simp only [Zz8];obtain ⟨M',c,q⟩:=ih (p+1) n (out++[rs (nm i)[p]]) M (by omega) (by omega) (by simp;omega) hM;refine ⟨M',c, ?_⟩;rw [q];cases scan e rs fr ((nm i).drop (p+1))<;>simp
  ·have hb:=hS.rsb i hi _ hm;have hz:(((rs (nm i)[p]).toNat:Nat):Int)=rs (nm i)[p]:=by omega
   have hq:(rs (nm i)[p]).toNat<ps.length:=by omega
   obtain ⟨M1,c1,q1⟩:=hR _ hm (by omega) M hM;rw [decide_eq_false h0,if_neg (by simp),if_neg h0,q1];simp only [Zz8];cases hf:fr (rs (nm i)[p]).toNat
   ·exact ⟨M1,c1,by simp⟩
   ·have hcl:(rs (nm i)[p]).toNat<e.notebook.cells.length:=Nat.lt_of_lt_of_le hq hS.nb;have hca:=ZJ hcl;rw [hz] at hca;obtain ⟨x,hx⟩:=hH _ hq hf (hS.rsk i hi _ hm (by omega) _ (ZAg hq));have hc':=ZAg hcl;have hge:¬eix e e.notebook.cells[(rs (nm i)[p]).toNat].id<0:=fun h=>by rw [Zf5 hc' h] at hx;cases hx
    obtain ⟨y,h1,_,h3⟩:=Zf4 hc' hge;have hst:Zhz e (rs (nm i)[p]).toNat=y.stamp:=by unfold Zhz;rw [h1]
    obtain ⟨M',c,q⟩:=ih (p+1) n (out++[y.stamp]) M1 (by omega) (by omega) (by simp;omega) c1;refine ⟨M',c, ?_⟩;rw [hca];simp only [Bool.not_true,ZAf,if_false,Zz8,hK.ixI,h3];rw [XG (by simp;omega) (by omega)];simp only [Zz8];rw [q,hst];cases scan e rs fr ((nm i).drop (p+1))<;>simp
def IsF (e:Ze) (ps:List Zi) (fr:Nat->Bool) (k i:Nat):Prop:=∀M,Con ps.length fr M->∃M',Con ps.length fr M'/\Zx k (i:Int) e ps M=some (fr i,M')
def IsS (e:Ze) (ps:List Zi) (fr kn:Nat->Bool) (inp:Nat->List Int) (k i:Nat):Prop:=∀M,Con ps.length fr M->∃M',Con ps.length fr M'/\Yr k (i:Int) e ps M=some (inp i,kn i,M')
theorem Zlm (hS:StS e ps fv nm rs run r U) (hL:Sol e ps fv nm rs ev fr kn inp) {k:Nat} (hK:StK e ps fv nm rs ev cb k) {i:Nat} (hi:i<ps.length) (hv:(fv i).2=false) (hR:∀s∈nm i,0<=rs s->IsF e ps fr k (rs s).toNat):IsS e ps fr kn inp (k+1) i:=fun M hM=>by
 have hbg:=hK.big;have hnl:=hS.nml i hi
 obtain ⟨M',c,q⟩:=Zmt hS hK hi (hL.have hS) (Zx k) (fun s hs h0 M hM=>by
  have:=hR s hs h0 M hM
  rwa [show (((rs s).toNat:Nat):Int)=rs s by omega] at this) (nm i).length 0 k [] M (by omega) (by omega) (by simp) hM
 refine ⟨M',c, ?_⟩;rw [Yr,hK.fxI i hi,Zz8,hv,ZJ hi];simp only [ZAf,if_false,Zz8,hK.usI i hi];rw [show ZO (Zx k) k (nm i) e ps k M [] 0=_ from q,List.drop_zero];have ho:=hL.opn i hi hv;cases hs:scan e rs fr (nm i) with
 | none=>rw [hs] at ho;simp only at ho;rw [ho.1,ho.2.1];rfl
 | some L=>rw [hs] at ho;simp only at ho;rw [ho.1,ho.2.1];rfl
theorem ZpG (hL:Sol e ps fv nm rs ev fr kn inp) {k:Nat} (hK:StK e ps fv nm rs ev cb k) {i:Nat} (hi:i<ps.length) (hv:(fv i).2=true):IsS e ps fr kn inp (k+1) i:=fun M hM=>by
 refine ⟨M,hM, ?_⟩;obtain ⟨_,h2,h3⟩:=hL.fxd i hi hv;rw [Yr,hK.fxI i hi,Zz8,hv,h2,h3];rfl
theorem Zty (hS:StS e ps fv nm rs run r U) (hL:Sol e ps fv nm rs ev fr kn inp) {k:Nat} (hK:StK e ps fv nm rs ev cb k) {i:Nat} (hi:i<ps.length) (hv:(fv i).2=false) (hR:IsS e ps fr kn inp k i) (M:List (Int×Bool)) (hM:Con ps.length fr M):∃M',Con ps.length fr M'/\Y0 (k+1) (i:Int) e ps M=some (fr i,M'):=by
 have hc:i<e.notebook.cells.length:=Nat.lt_of_lt_of_le hi hS.nb;have hc':=ZAg hc;have k2:=(hS.opn i hi hv).2;have ho:=hL.opn i hi hv;rw [Y0,ZJ hi,Zz8,decide_eq_false (show ¬ps[i].kind=1 by omega),ZJ hc,Zz8,hK.ixI,Zz8];simp only [ZAf,if_false]
 by_cases h0:eix e e.notebook.cells[i].id<0
 ·refine ⟨M,hM, ?_⟩;rw [decide_eq_true h0,if_pos rfl]
  have hf:fr i=false:=by
   split at ho
   ·rw [ho.2.2];unfold Zg2;rw [Zf5 hc' h0]
   ·exact ho.2.2
  rw [hf]
 ·obtain ⟨x,h1,h2,h3⟩:=Zf4 hc' h0;obtain ⟨M',c,q⟩:=hR M hM;refine ⟨M',c, ?_⟩;rw [decide_eq_false h0,if_neg (by simp),h3,Zz8,hK.fxI i hi,Zz8,hv,if_neg (by simp),q];simp only [Zz8];have hch:∀L,Zg2 e i L=(decide (x.version=e.notebook.cells[i].version)&&WV (fun a b=>decide (a=b)) x.inputs L):=fun L=>by unfold Zg2;rw [h1,hc']
  cases hs:scan e rs fr (nm i) with
  | none=>rw [hs] at ho;simp only at ho;rw [ho.1,ho.2.2];rfl
  | some L=>
   rw [hs] at ho;simp only at ho;rw [ho.1,ho.2.2,hch,ho.2.1];simp only [if_true];cases decide (x.version=e.notebook.cells[i].version)
   ·rfl
   ·simp only [if_true,hK.inI x h2,Zz8,Bool.true_and]
theorem Zsx {k i:Nat} (hL:∀M,Con ps.length fr M->∃M',Con ps.length fr M'/\Y0 k (i:Int) e ps M=some (fr i,M')) (hi:i<ps.length):IsF e ps fr (k+1) i:=fun M hM=>by
 rw [Zx];cases hg:Ze8 M (i:Int) with
 | some b=>
  refine ⟨M,hM, ?_⟩;rw [hM i hi b hg];rfl
 | none=>
  obtain ⟨M',c,q⟩:=hL M hM;refine ⟨_,c.put i, ?_⟩;rw [q];rfl
theorem ZtT (hS:StS e ps fv nm rs run r U) (hL:Sol e ps fv nm rs ev fr kn inp) {B:Nat} (hK:∀k,B<=k->StK e ps fv nm rs ev cb k):∀j,j<=r.length->∀k,B+3*j+3<=k->∀i,i<ps.length->((fv i).2=true\/(i:Int)∈r.take j)->IsF e ps fr k i:=by
 have base:∀k,B+3<=k->∀i,i<ps.length->(fv i).2=true->IsF e ps fr k i:=fun k hk i hi hv=>by
  obtain ⟨k,rfl⟩:∃q,k=q+1+1:=⟨k-2,by omega⟩;refine Zsx (fun M hM=>⟨M,hM, ?_⟩) hi;rw [Ztz hS (hK k (by omega)) hi hv,(hL.fxd i hi hv).1]
 intro j
 induction j with
 | zero=>
  intro _ k hk i hi h;rcases h with h| h
  ·exact base k (by omega) i hi h
  ·simp at h
 | succ j ih=>
  intro hj k hk i hi h;have hjl:j<r.length:=by omega
  cases hv:(fv i).2
  ·have h:=h.resolve_left (by rw [hv];simp);rw [List.take_succ_eq_append_getElem hjl,List.mem_append,List.mem_singleton] at h;rcases h with h| h
   ·exact ih (by omega) k (by omega) i hi (.inr h)
   ·obtain ⟨k,rfl⟩:∃q,k=q+1+1+1:=⟨k-3,by omega⟩;refine Zsx (fun M hM=>Zty hS hL (hK _ (by omega)) hi hv (Zlm hS hL (hK k (by omega)) hi hv fun s hs h0=> ?_) M hM) hi;have hb:=hS.rsb i hi s hs;refine ih (by omega) k (by omega) _ (by omega) ?_;cases hv2:(fv (rs s).toNat).2
    ·refine .inr ?_;rw [show (((rs s).toNat:Nat):Int)=rs s by omega];exact hS.ord j hjl (rs s) (by rw [<-h];exact hS.rsU i hi s hs h0) (hS.opn _ (by omega) hv2).1
    ·exact .inl rfl
  ·exact base k (by omega) i hi hv
theorem Zvu (hS:StS e ps fv nm rs run r U) (hL:Sol e ps fv nm rs ev fr kn inp) (hK:Ev fun k=>StK e ps fv nm rs ev cb k):Ev fun k=>∀i,i<ps.length->IsF e ps fr k i/\IsS e ps fr kn inp k i:=by
 obtain ⟨B,hB⟩:=hK
 have hF:∀k,B+3*r.length+3<=k->∀i,i<ps.length->IsF e ps fr k i:=fun k hk i hi=>ZtT hS hL hB r.length (ZAe _) k hk i hi (by
  cases hv:(fv i).2
  ·exact .inr (by rw [List.take_length];exact hS.all i hi (hS.opn i hi hv).1)
  ·exact .inl rfl)
 refine ⟨B+3*r.length+4,fun k hk i hi=>⟨hF k (by omega) i hi, ?_⟩⟩;obtain ⟨k,rfl⟩:∃q,k=q+1:=⟨k-1,by omega⟩;cases hv:(fv i).2
 ·refine Zlm hS hL (hB k (by omega)) hi hv fun s hs h0=>hF k (by omega) _ ?_;have hb:=hS.rsb i hi s hs;omega
 ·exact ZpG hL (hB k (by omega)) hi hv
end
end
theorem ZqE (k:Nat) (ps:List Zi) (N:List ByteArray) (hN:N.length<=2097153):∀(n:Nat) (out:List Int) (j:Nat) (res:List Int),Zy k ps N n out (j:Int)=some res->(∀z∈out,z∈res)/\∀q,j<=q->∀(h:q<N.length) v,Qk k ps N[q]=some v->0<=v->v∈res
 | 0,_,_,_,h=>by rw [Zy] at h;cases h
 | n+1,out,j,res,h=>by
  rw [Zy] at h
  by_cases hj:j<N.length
  ·rw [if_pos (ZE hj),ZJ hj,Zz8,wS j (by omega)] at h;cases hr:Qk k ps N[j] with
   | none=>rw [hr] at h;simp at h
   | some v=>
    rw [hr] at h;simp only [Zz8] at h
    by_cases h0:0<=v
    ·rw [decide_eq_true h0,if_pos rfl] at h;cases ha:YH 8 out [v] with
     | none=>rw [ha] at h;simp at h
     | some out'=>
      rw [ha] at h;simp only [Zz8] at h;obtain ⟨e,_⟩:=WG ha;obtain ⟨q1,q2⟩:=ZqE k ps N hN n out' (j+1) res h;refine ⟨fun z hz=>q1 z (by rw [e];simp [hz]),fun q hq hql w hw hw0=> ?_⟩
      by_cases hqj:q=j
      ·subst hqj;rw [hr] at hw;cases hw;exact q1 v (by rw [e];simp)
      ·exact q2 q (by omega) hql w hw hw0
    ·rw [decide_eq_false h0,if_neg (by simp)] at h;simp only [Zz8] at h;obtain ⟨q1,q2⟩:=ZqE k ps N hN n out (j+1) res h;refine ⟨q1,fun q hq hql w hw hw0=> ?_⟩
     by_cases hqj:q=j
     ·subst hqj;rw [hr] at hw;cases hw;exact absurd hw0 h0
     ·exact q2 q (by omega) hql w hw hw0
  ·rw [if_neg (Ql (by omega))] at h;cases h;exact ⟨fun z hz=>hz,fun q hq hql=>absurd hql (by omega)⟩
theorem Zti (ps:List Zi) (s:ByteArray) (hl:ps.length<=1048576):∃v:Int,(v<ps.length/\(0<=v->∀p,ps[v.toNat]? =some p->¬p.kind=1))/\Ev fun k=>Qk k ps s=some v/\XC k ps s=some v:=by
 obtain ⟨ds,h1,h2,h3⟩:=ZqG ps s hl;refine ⟨VH ds,⟨(Zg8 h2).2.1,fun h0 p hp=> ?_⟩,h3.mono fun k h=>ZfM h⟩;obtain ⟨k,e,_⟩:=h3.get
 have hd:∀x∈ds,∀p,ps[x.toNat]? =some p->¬p.kind=1:=by
  unfold XR at e;cases hu:Yb ps s k [] 0 with
  | none=>rw [hu] at e;cases e
  | some ds'=>
   rw [hu] at e;cases e;exact Zhj ps s k [] 0 _ (fun x hx=>by simp at hx) hu
 match ds,h0,hp,hd with
 | [x],h0,hp,hd=>exact hd x (by simp) p hp
 | [],h0,_,_=>simp [VH] at h0
 | _::_::_,h0,_,_=>simp [VH] at h0
theorem Zyv {α β:Type} {p:α->β->Prop} (h:∀x,∃y,p x y):∃f:α->β,∀x,p x (f x):=⟨fun x=>(h x).choose,fun x=>(h x).choose_spec⟩
structure Kn (e:Ze) (ps:List Zi) (fx fr kn:Nat->Bool) (inp:Nat->List Int):Prop where
 nb:ps.length<=e.notebook.cells.length
 nl:ps.length<=1048576
 el:e.entries.length<=1048576
 inl:∀i,i<ps.length->(inp i).length<=2097153
 ini:∀i,i<ps.length->kn i=false->inp i=[]
 fxs:∀i (h:i<ps.length),ps[i].kind=1->fx i=true
 have_:Hv e ps fr
 ev:Ev fun k=>UO k e=some (ZT.mk ps (tb ps.length fx) (tb ps.length fr) (tb ps.length kn) (tb ps.length inp))/\Wf k e=some (e,ps,[])/\(∀i,i<ps.length->IsF e ps fr k i/\IsS e ps fr kn inp k i)/\(∀i,i<ps.length->∃v,ZI k ps (i:Int)=some (v,fx i))/\(∀id,Z7 k e id=some (eix e id)/\Yz k e id=some (eix e id))/\(∀id,YR k e.notebook id=some (cix e.notebook id)/\Qn k e.notebook id=some (cix e.notebook id))/\2097200<=k
theorem Zhd (e:Ze) (hb:e.bk<=1048576):∃(ps:List Zi) (fx fr kn:Nat->Bool) (inp:Nat->List Int),Kn e ps fx fr kn inp:=by
 have ebk:=e.ZB;have hel:=ZL (f:=Zm.bk) (xs:=e.entries);have hnbl:=Zso e.notebook;obtain ⟨ps,⟨hl,hlen⟩,hp2,hcomp⟩:=Zm3 e.notebook (by omega);have hp:=fun p h=>(hp2 p h).1.1;have hkd:=fun p h=>(hp2 p h).2;obtain ⟨U,hU⟩:=ZrL ps hl hp;obtain ⟨run,hrun⟩:=Zs9 hl hU;obtain ⟨r,⟨⟨hr1,hr2⟩,hr3,hr4⟩,hord⟩:=Zp4 hl hU hrun
 have hcl:ps.length<=e.notebook.cells.length:=by
  rcases hlen with ⟨rfl,_⟩| ⟨_,h⟩
  ·simp
  ·omega
 have mr:∀{i},i<ps.length->i∈List.range ps.length:=fun h=>List.mem_range.2 h
 obtain ⟨cb,hcb⟩:=YO (p:=fun (i:Nat) (b:Bool)=>b=true↔Reach U i i) (List.range ps.length) fun i _=>by
  obtain ⟨b,h,_⟩:=ZqL hl hU i;exact ⟨b,h⟩
 have hcy:=ZqK hl (fun i=>Zag (hU.asc i)) hU.bd cb fun i hi=>hcb i (mr hi);have htab:=Zsh hl hU;haveI:Inhabited Za:=⟨Za.mk 0 0 0 ⟨#[]⟩ [] [] []⟩
 obtain ⟨fv,hfv⟩:=YO (p:=fun (i:Nat) (v:Za×Bool)=>∀hi:i<ps.length,((v.2=false->run i=true/\ps[i].kind=2)/\v.1.bk<=2097152)/\Ev fun k=>YE k ps (i:Int) (cb i)=some v/\ZI k ps (i:Int)=some v) (List.range ps.length) fun i hi=>by
  obtain ⟨v,h⟩:=Zqz hl hp hkd hU hrun i (List.mem_range.1 hi) (cb i) (hcb i hi);exact ⟨v,fun _=>h⟩
 obtain ⟨nm,hnm⟩:=YO (p:=fun (i:Nat) (N:List ByteArray)=>∀hi:i<ps.length,N.length<=2097153/\∃r:List Int,U (i:Int)=ZoA r/\Ev fun k=>(Wu k ps[i]=some N/\WB k ps[i]=some N)/\Zy k ps N k [] 0=some r) (List.range ps.length) fun i hi=>by
  obtain ⟨N,r,h1,h2,h3⟩:=hU.src i (List.mem_range.1 hi);exact ⟨N,fun _=>⟨h2,r,h1,h3⟩⟩
 obtain ⟨rs,hrs⟩:=Zyv fun s=>Zti ps s hl
 obtain ⟨ev,hev⟩:=YO (p:=fun (x:Zm) (f:Nat->Bool)=>∀i,Ev fun k=>Xi k x.value (fv i).1=some (f i)/\Xn k x.value (fv i).1=some (f i)) e.entries fun x hx=>Zyv fun i=>ZqB x.value (fv i).1 (by
  have h1:=Yl (f:=Zm.bk) hx;have h2:=x.ZB;omega)
 have hS:StS e ps fv nm rs run r U:={
  nb:=hcl,nl:=hl,el:=by omega
  rsb:=fun i _ s _=>(hrs s).1.1
  rsU:=fun i hi s hs h0=>by
   obtain ⟨h1,rl,h2,h3⟩:=hnm i (mr hi) hi;obtain ⟨k,⟨_,e1⟩,e2,_⟩:=(h3.and (hrs s).2).get;obtain ⟨q,hq,rfl⟩:=List.getElem_of_mem hs;rw [h2,ZeD];exact (ZqE k ps (nm i) h1 k [] 0 rl e1).2 q (by omega) hq _ e2 h0
  rsk:=fun i _ s _ h0=>(hrs s).1.2 h0
  nml:=fun i hi=>(hnm i (mr hi) hi).1
  opn:=fun i hi h=>((hfv i (mr hi) hi).1.1 h)
  rnd:=hr1,rin:=hr2,ord:=hr3,all:=hr4}
 have hF:=Ev.all (p:=fun i k=>i<ps.length->YE k ps (i:Int) (cb i)=some (fv i)/\ZI k ps (i:Int)=some (fv i)) (List.range ps.length) fun i hi=>(hfv i hi (List.mem_range.1 hi)).2.mono fun k h _=>h
 have hN:=Ev.all (p:=fun i k=>∀hi:i<ps.length,Wu k ps[i]=some (nm i)/\WB k ps[i]=some (nm i)) (List.range ps.length) fun i hi=>by
  obtain ⟨_,_,_,h⟩:=hnm i hi (List.mem_range.1 hi);exact h.mono fun k h _=>h.1
 have hR:=Ev.all (p:=fun i k=>∀s∈nm i,Qk k ps s=some (rs s)/\XC k ps s=some (rs s)) (List.range ps.length) fun i _=>Ev.all (nm i) fun s _=>(hrs s).2;have hE:=Ev.all (p:=fun i k=>∀x∈e.entries,Xi k x.value (fv i).1=some (ev x i)/\Xn k x.value (fv i).1=some (ev x i)) (List.range ps.length) fun i _=>Ev.all e.entries fun x hx=>hev x hx i
 have hK:Ev fun k=>StK e ps fv nm rs ev cb k:=(hF.and (hN.and (hR.and (hE.and (Ev.ge 2097200))))).mono fun k ⟨f1,f2,f3,f4,f5⟩=>{
  fxS:=fun i hi=>(f1 i (mr hi) hi).1,fxI:=fun i hi=>(f1 i (mr hi) hi).2
  usS:=fun i hi=>(f2 i (mr hi) hi).1,usI:=fun i hi=>(f2 i (mr hi) hi).2
  rsS:=fun i hi s hs=>(f3 i (mr hi) s hs).1,rsI:=fun i hi s hs=>(f3 i (mr hi) s hs).2
  eqS:=fun i hi x hx=>(f4 i (mr hi) x hx).1,eqI:=fun i hi x hx=>(f4 i (mr hi) x hx).2
  ixS:=fun id=>ZvO e id (by omega) (by omega),ixI:=fun id=>ZxK e id (by omega) (by omega)
  inS:=fun x hx L=>Zmm x.inputs L (by have h1:=Yl (f:=Zm.bk) hx;have h2:=x.ZB;have h3:=ZL (f:=fun _:Int=>0) (xs:=x.inputs);omega) (by have h1:=Yl (f:=Zm.bk) hx;have h2:=x.ZB;have h3:=ZL (f:=fun _:Int=>0) (xs:=x.inputs);omega)
  inI:=fun x hx L=>by rw [Zdp];exact Zmm x.inputs L (by have h1:=Yl (f:=Zm.bk) hx;have h2:=x.ZB;have h3:=ZL (f:=fun _:Int=>0) (xs:=x.inputs);omega) (by have h1:=Yl (f:=Zm.bk) hx;have h2:=x.ZB;have h3:=ZL (f:=fun _:Int=>0) (xs:=x.inputs);omega)
  big:=f5}
 have hL:=ZuW (ev:=ev) hS;refine ⟨ps,fun j=>(fv j).2,(FF e ps fv nm rs ev r r.length).1,(FF e ps fv nm rs ev r r.length).2.1,(FF e ps fv nm rs ev r r.length).2.2,hcl,hl,by omega,fun i hi=> ?_,fun i hi hk=> ?_,fun i hi hk=> ?_,hL.have hS, ?_⟩
 ·cases hv:(fv i).2
  ·have:=hL.opn i hi hv
   split at this
   ·rename_i L hs;rw [this.2.1,Zj3 hs];exact hS.nml i hi
   ·rw [this.2.1];simp
  ·rw [(hL.fxd i hi hv).2.2];simp
 ·cases hv:(fv i).2
  ·have:=hL.opn i hi hv
   split at this
   ·rw [this.1] at hk;cases hk
   ·exact this.2.1
  ·exact (hL.fxd i hi hv).2.2
 ·cases hv:(fv i).2
  ·have:=(hS.opn i hi hv).2;omega
  ·rfl
 ·refine ((hK.and (Zvu hS hL hK)).and ((hcomp.and htab).and (hcy.and (hord.and (Ev.ge 4194400))))).mono fun k ⟨⟨g1,g2⟩,⟨g3,g4⟩,g5,⟨g6,_⟩,g7⟩=>⟨?_, ?_,g2,fun i hi=>⟨_,g1.fxI i hi⟩,fun id=>⟨g1.ixS id,g1.ixI id⟩,fun id=>⟨Kc e.notebook id (by omega) (by omega),Zdy e.notebook id (by omega) (by omega)⟩,by omega⟩
  ·refine Zs3 hS g1 g3.1 g4 g5 ?_;unfold ZfL at g6;rw [g4,Zz8,g5,Zz8] at g6
   simpa [tb] using g6
  ·unfold Wf;rw [g3.2];rfl
end Go.Proofs.YtpblakfidofgfaaGreatDoor
