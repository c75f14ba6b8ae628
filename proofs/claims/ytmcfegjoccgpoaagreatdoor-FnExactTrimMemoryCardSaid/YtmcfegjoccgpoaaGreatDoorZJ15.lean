import Derived.Test.YtmcfegjoccgpoaaGreatDoorZJ14
set_option linter.unusedSimpArgs false
set_option linter.unusedVariables false
namespace Go.Proofs.YtmcfegjoccgpoaaGreatDoor
open Go.RowKit Am
def tb {α:Type} (n:Nat) (f:Nat->α):List α:=(List.range n).map f
theorem ZjA {α:Type} {n i:Nat} {f:Nat->α} (h:i<n):at? (tb n f) (i:Int)=some (f i):=by
 rw [Zkp];unfold tb;rw [HX,GK h];rfl
theorem Zl6 {α:Type} {n:Nat} {f g:Nat->α} (h:∀i,i<n->f i=g i):tb n f=tb n g:=
 List.map_congr_left λi j=>h i (HN.1 j)
theorem Zwk {α:Type} {n i:Nat} {f:Nat->α} {v:α}:(tb n f).set i v=tb n λj=>if j=i then v else f j:=by
 unfold tb;refine List.ext_getElem? λj=> ?_;rw [List.getElem?_set,HX,HX]
 by_cases h:j<n
 ·rw [GK h]
  by_cases e:i=j
  ·subst e;simp [h]
  ·simp [e,Ne.symm e]
 ·have k:(List.range n)[j]? =none:=by simp;omega
  rw [k]
  by_cases e:i=j
  ·subst e;simp [h]
  ·simp [e]
theorem Zy9 {α:Type} {n:Nat} {v:α}:List.replicate n v=tb n λ_=>v:=by
 unfold tb;refine List.ext_getElem? λj=> ?_;rw [HX,List.getElem?_replicate]
 by_cases h:j<n
 ·rw [GK h,if_pos h];rfl
 ·have k:(List.range n)[j]? =none:=by simp;omega
  rw [k,if_neg h];rfl
def eix (e:Za) (id:Int):Int:=ZbE (λx:Ze=>decide (x.cell=id)) e.entries
theorem ZAj (e:Za) (id:Int) (hl:e.entries.length<=4294967296) {k:Nat} (j:e.entries.length<k):ZX k e id=some (eix e id):=by
 unfold ZX eix ZbE
 rw [Zd3 e.entries (λx=>decide (x.cell=id)) (Ys e id) (λi=>some (.inr (i:Int))) (some (.inl ()))
  (λn i h hp=>by rw [Ys,if_pos (ZL h),ZQ h,ZEH,if_neg (by simpa using hp),wS i WF])
  (λn i h hp=>by rw [Ys,if_pos (ZL h),ZQ h,ZEH,if_pos hp])
  (λn=>by rw [Ys,if_neg (Qg (ZEN _))]) j]
 split<;>rfl
theorem ZCj (e:Za) (id:Int) (hl:e.entries.length<=4294967296) {k:Nat} (j:e.entries.length<k):Z6 k e id=some (eix e id):=by
 rw [Zi3];exact ZAj e id hl j
section
variable (e:Za) (ps:List Zl) (fv:Nat->Zb×Bool) (nm:Nat->List Ma) (rs:Ma->Int) (ev:Ze->Nat->Bool) (run:Nat->Bool) (r:List Int) (U:Int->List Int) (cb:Nat->Bool)
def en (j:Nat):Option Ze:=match e.notebook.cells[j]? with
 | some c=>if eix e c.id<0 then none else e.entries[(eix e c.id).toNat]?
 | none=>none
def ZjC (j:Nat):Int:=match en e j with | some x=>x.stamp| none=>0
def ZqW (j:Nat):Bool:=match ps[j]? with
 | some p=>if p.kind=1 then true else match en e j with | some x=>x.has&&ev x j| none=>false
 | none=>false
def scan (fr:Nat->Bool):List Ma->Option (List Int)
 | []=>some []
 | s::l=>if rs s<0 then (scan fr l).map (rs s:: ·) else if fr (rs s).toNat=true then (scan fr l).map (ZjC e (rs s).toNat:: ·) else none
def Zi4 (i:Nat) (L:List Int):Bool:=match en e i,e.notebook.cells[i]? with
 | some x,some c=>decide (x.version=c.version)&&VF (λa b=>decide (a=b)) x.inputs L
 | _,_=>false
structure StS:Prop where
 nb:ps.length<=e.notebook.cells.length
 nl:ps.length<=1048576
 el:e.entries.length<=1048576
 rsb:∀i,i<ps.length->∀s∈nm i,rs s<ps.length
 rsU:∀i,i<ps.length->∀s∈nm i,0<=rs s->rs s∈U (i:Int)
 rsk:∀i,i<ps.length->∀s∈nm i,0<=rs s->∀p,ps[(rs s).toNat]? =some p->¬p.kind=1
 nml:∀i,i<ps.length->(nm i).length<=2097153
 opn:∀i (h:i<ps.length),(fv i).2=false->run i=true/\ps[i].kind=2
 rnd:r.Nodup
 rin:∀x∈r,(0<=x/\x<ps.length)/\run x.toNat=true
 ord:ZyC U run r
 all:∀i,i<ps.length->run i=true->(i:Int)∈r
structure StK (k:Nat):Prop where
 fxS:∀i,i<ps.length->Y2 k ps (i:Int) (cb i)=some (fv i)
 fxI:∀i,i<ps.length->ZN k ps (i:Int)=some (fv i)
 usS:∀i (h:i<ps.length),W7 k ps[i]=some (nm i)
 usI:∀i (h:i<ps.length),Vf k ps[i]=some (nm i)
 rsS:∀i,i<ps.length->∀s∈nm i,QJ k ps s=some (rs s)
 rsI:∀i,i<ps.length->∀s∈nm i,X7 k ps s=some (rs s)
 eqS:∀i,i<ps.length->∀x∈e.entries,XL k x.value (fv i).1=some (ev x i)
 eqI:∀i,i<ps.length->∀x∈e.entries,XQ k x.value (fv i).1=some (ev x i)
 ixS:∀id,ZX k e id=some (eix e id)
 ixI:∀id,Z6 k e id=some (eix e id)
 inS:∀x∈e.entries,∀L,Vx k x.inputs L=some (VF (λa b=>decide (a=b)) x.inputs L)
 inI:∀x∈e.entries,∀L,U7 k x.inputs L=some (VF (λa b=>decide (a=b)) x.inputs L)
 big:2097200<=k
structure Sol (fr kn:Nat->Bool) (inp:Nat->List Int):Prop where
 fxd:∀i,i<ps.length->(fv i).2=true->fr i=ZqW e ps ev i/\kn i=true/\inp i=[]
 opn:∀i,i<ps.length->(fv i).2=false->match scan e rs fr (nm i) with
  | some L=>kn i=true/\inp i=L/\fr i=Zi4 e i L
  | none=>kn i=false/\inp i=[]/\fr i=false
end
section
variable {e:Za} {ps:List Zl} {fv:Nat->Zb×Bool} {nm:Nat->List Ma} {rs:Ma->Int} {ev:Ze->Nat->Bool} {run:Nat->Bool} {r:List Int} {U:Int->List Int} {cb:Nat->Bool}
theorem Zoj (id:Int): -1<=eix e id/\eix e id<e.entries.length:=ZvM _ _
theorem ZAi {j:Nat} {c:Zo} (hc:e.notebook.cells[j]? =some c):en e j=if eix e c.id<0 then none else e.entries[(eix e c.id).toNat]? :=by unfold en;rw [hc]
theorem Zh4 {j:Nat} {c:Zo} (hc:e.notebook.cells[j]? =some c) (h:¬eix e c.id<0):∃x,en e j=some x/\x∈e.entries/\at? e.entries (eix e c.id)=some x:=by
 have k:=Zoj (e:=e) c.id;have hl:(eix e c.id).toNat<e.entries.length:=WF
 refine ⟨e.entries[(eix e c.id).toNat], ?_,Hl hl, ?_⟩
 ·rw [ZAi hc,if_neg h,ZEP hl]
 ·have:=ZQ hl
  rwa [show (((eix e c.id).toNat:Nat):Int)=eix e c.id from WF] at this
theorem Zh5 {j:Nat} {c:Zo} (hc:e.notebook.cells[j]? =some c) (h:eix e c.id<0):en e j=none:=by rw [ZAi hc,if_pos h]
theorem Zld {fr k:Nat->Bool}:∀{l:List Ma},(∀s∈l,0<=rs s->fr (rs s).toNat=k (rs s).toNat)->scan e rs fr l=scan e rs k l
 | [],_=>rfl
 | s::l,h=>by
  have o:=Zld (l:=l) λx m=>h x (Hz _ m);unfold scan;rw [o]
  by_cases j:rs s<0
  ·rw [if_pos j,if_pos j]
  ·rw [if_neg j,if_neg j,h s Ha WF]
theorem Zmc {fr:Nat->Bool}:∀{l:List Ma} {L:List Int},scan e rs fr l=some L->L.length=l.length
 | [],_,h=>by cases h;rfl
 | s::l,L,h=>by
  unfold scan at h
  split at h
  ·obtain ⟨m,j,k⟩:=Hf.1 h;subst k;simp [Zmc j]
  ·split at h
   ·obtain ⟨m,j,k⟩:=Hf.1 h;subst k;simp [Zmc j]
   ·cases h
def Hv (e:Za) (ps:List Zl) (fr:Nat->Bool):Prop:=∀j (h:j<ps.length),fr j=true->¬ps[j].kind=1->∃x,en e j=some x
theorem Zoe {j:Nat} (hj:j<ps.length) (k:¬ps[j].kind=1) (h:ZqW e ps ev j=true):∃x,en e j=some x:=by
 unfold ZqW at h;rw [ZEP hj] at h;simp only [k,if_false] at h;cases l:en e j with
 | none=>rw [l] at h;cases h
 | some x=>exact ⟨x,rfl⟩
theorem ZlA {j:Nat} {L:List Int} (h:Zi4 e j L=true):∃x,en e j=some x:=by
 unfold Zi4 at h;cases k:en e j with
 | none=>rw [k] at h;cases h
 | some x=>exact ⟨x,rfl⟩
theorem Sol.have (m:StS e ps fv nm rs run r U) {fr kn:Nat->Bool} {inp:Nat->List Int} (h:Sol e ps fv nm rs ev fr kn inp):Hv e ps fr:=λj hj hf l=>by
 cases k:(fv j).2
 ·have:=h.opn j hj k
  split at this
  ·exact ZlA (this.2.2▸hf)
  ·rw [this.2.2] at hf;cases hf
 ·exact Zoe hj l ((h.fxd j hj k).1▸hf)
theorem Zya (w:StS e ps fv nm rs run r U) {k:Nat} (hK:StK e ps fv nm rs ev cb k) {i:Nat} (hi:i<ps.length):Za1 k e ps (i:Int) (fv i).1=some (ZqW e ps ev i):=by
 have o:i<e.notebook.cells.length:=HM hi w.nb;have j:=ZEP o;unfold Za1 ZqW;rw [ZQ hi,ZEP hi,ZEH]
 by_cases l:ps[i].kind=1
 ·simp [l]
 ·rw [decide_eq_false l,ZQ o,ZEH,hK.ixS,ZEH];simp only [ZEO,if_false,l]
  by_cases m:eix e e.notebook.cells[i].id<0
  ·rw [Zh5 j m,decide_eq_false (show ¬0<=eix e e.notebook.cells[i].id from WF)];rfl
  ·obtain ⟨x,p,s,t⟩:=Zh4 j m;rw [p,decide_eq_true (show 0<=eix e e.notebook.cells[i].id from WF),t];simp only [if_true,ZEH];cases x.has
   ·rfl
   ·simp only [if_true,hK.eqS i hi x s,ZEH,Gt]
theorem Zzm (z:StS e ps fv nm rs run r U) {k:Nat} (hK:StK e ps fv nm rs ev cb k) {i:Nat} (hi:i<ps.length) (fr:Nat->Bool) (R:Hv e ps fr) (A B:List Bool) (C:List (List Int)):∀(m p n:Nat) (out:List Int),p+m=(nm i).length->m<n->out.length<=p->
  Qt k e (nm i) ps A (tb ps.length fr) B C n out (p:Int)=some (match scan e rs fr ((nm i).drop p) with | some L=>.inl (out++L)| none=>.inr (A,tb ps.length fr,B,C)):=by
 intro m
 induction m with
 | zero=>
  intro p n out hp S _;obtain ⟨n,rfl⟩:∃q,n=q+1:=⟨n-1,WF⟩;rw [Qt,if_neg (Qg WF),Gp WF];simp [scan]
 | succ m O=>
  intro p n out hp S ho;obtain ⟨n,rfl⟩:∃q,n=q+1:=⟨n-1,WF⟩;have j:p<(nm i).length:=WF
  have T:=z.nml i hi;have G:=Hl j;rw [Qt,if_pos (ZL j),ZQ j,ZEH,hK.rsS i hi _ G,ZEH,Ho j,wS p WF];unfold scan
  by_cases w:rs (nm i)[p]<0
  ·rw [decide_eq_true w,if_pos rfl,if_pos w,Wa (by simp;omega) WF];simp only [ZEH];rw [O (p+1) n _ WF WF (by simp;omega)];cases scan e rs fr ((nm i).drop (p+1))<;>simp
  ·have W:=z.rsb i hi _ G;have M:(((rs (nm i)[p]).toNat:Nat):Int)=rs (nm i)[p]:=by omega
   have hq:(rs (nm i)[p]).toNat<ps.length:=WF
   have l:=ZjA (f:=fr) hq;rw [M] at l;rw [decide_eq_false w,if_neg Ha,if_neg w,l];simp only [ZEH];cases hf:fr (rs (nm i)[p]).toNat
   ·simp
   ·have t:(rs (nm i)[p]).toNat<e.notebook.cells.length:=HM hq z.nb;have s:=ZQ t;rw [M] at s;obtain ⟨x,J⟩:=R _ hq hf (z.rsk i hi _ G WF _ (ZEP hq));have o:=ZEP t;have E:¬eix e e.notebook.cells[(rs (nm i)[p]).toNat].id<0:=λh=>by rw [Zh5 o h] at J;cases J
    obtain ⟨y,P,_,Q⟩:=Zh4 o E;rw [s];simp only [Hr,ZEO,if_false,ZEH,hK.ixS,Q];rw [Wa (by simp;omega) WF];simp only [ZEH];rw [O (p+1) n _ WF WF (by simp;omega)];have I:ZjC e (rs (nm i)[p]).toNat=y.stamp:=by unfold ZjC;rw [P]
    rw [I];cases scan e rs fr ((nm i).drop (p+1))<;>simp
def opF (e:Za) (nm:Nat->List Ma) (rs:Ma->Int) (F:(Nat->Bool)×(Nat->Bool)×(Nat->List Int)) (i:Nat):(Nat->Bool)×(Nat->Bool)×(Nat->List Int):=
 match scan e rs F.1 (nm i) with
 | some L=>(λj=>if j=i then Zi4 e i L else F.1 j,λj=>if j=i then true else F.2.1 j,λj=>if j=i then L else F.2.2 j)
 | none=>F
theorem ZzF (m:StS e ps fv nm rs run r U) {k:Nat} (hK:StK e ps fv nm rs ev cb k) {i:Nat} (hi:i<ps.length) (F:(Nat->Bool)×(Nat->Bool)×(Nat->List Int)) (B:Hv e ps F.1) (A:List Bool):
  Zdl k e (i:Int) ps A (tb ps.length F.1) (tb ps.length F.2.1) (tb ps.length F.2.2)=some (A,tb ps.length (opF e nm rs F i).1,tb ps.length (opF e nm rs F i).2.1,tb ps.length (opF e nm rs F i).2.2):=by
 have s:i<e.notebook.cells.length:=HM hi m.nb;have j:=ZEP s;have C:=m.nml i hi;have E:=hK.big;unfold Zdl;have o:=Zzm m hK hi F.1 B A (tb ps.length F.2.1) (tb ps.length F.2.2) (nm i).length 0 k [] WF WF Ha;rw [ZQ hi,ZEH,hK.usS i hi,ZEH,show Qt k e (nm i) ps A (tb ps.length F.1) (tb ps.length F.2.1) (tb ps.length F.2.2) k [] 0=_ from o,Gd];unfold opF;cases G:scan e rs F.1 (nm i) with
 | none=>rfl
 | some L=>
  simp only [ZEH,Hs,ZjA hi,ZQ s,hK.ixS,Gb,Zwk]
  by_cases p:eix e e.notebook.cells[i].id<0
  ·have l:Zi4 e i L=false:=by unfold Zi4;rw [Zh5 j p]
   rw [decide_eq_false (show ¬0<=eix e e.notebook.cells[i].id from WF),l];rfl
  ·obtain ⟨x,t,w,z⟩:=Zh4 j p;have l:Zi4 e i L=(decide (x.version=e.notebook.cells[i].version)&&VF (λa b=>decide (a=b)) x.inputs L):=by unfold Zi4;rw [t,j]
   rw [decide_eq_true (show 0<=eix e e.notebook.cells[i].id from WF),z,l];simp only [if_true,ZEH];cases decide (x.version=e.notebook.cells[i].version)
   ·rfl
   ·simp only [if_true,hK.inS x w,ZEH,Gt]
theorem ZzG {F:(Nat->Bool)×(Nat->Bool)×(Nat->List Int)} (l:Hv e ps F.1) (i:Nat):Hv e ps (opF e nm rs F i).1:=λj hj hf m=>by
 unfold opF at hf
 split at hf
 ·rename_i L _;simp only at hf
  split at hf
  ·rename_i k;subst k;exact ZlA hf
  ·exact l j hj hf m
 ·exact l j hj hf m
def F0 (e:Za) (ps:List Zl) (fv:Nat->Zb×Bool) (ev:Ze->Nat->Bool):(Nat->Bool)×(Nat->Bool)×(Nat->List Int):=(λj=>(fv j).2&&ZqW e ps ev j,λj=>(fv j).2,λ_=>[])
def FS1 (e:Za) (fv:Nat->Zb×Bool) (nm:Nat->List Ma) (rs:Ma->Int) (F:(Nat->Bool)×(Nat->Bool)×(Nat->List Int)) (x:Int):(Nat->Bool)×(Nat->Bool)×(Nat->List Int):=if (fv x.toNat).2=true then F else opF e nm rs F x.toNat
def FF (e:Za) (ps:List Zl) (fv:Nat->Zb×Bool) (nm:Nat->List Ma) (rs:Ma->Int) (ev:Ze->Nat->Bool) (r:List Int) (j:Nat):(Nat->Bool)×(Nat->Bool)×(Nat->List Int):=(r.take j).foldl (FS1 e fv nm rs) (F0 e ps fv ev)
theorem Zqa {j:Nat} (h:j<r.length):FF e ps fv nm rs ev r (j+1)=FS1 e fv nm rs (FF e ps fv nm rs ev r j) r[j]:=by
 unfold FF;rw [Gm h,List.foldl_append];rfl
theorem ZCX:Hv e ps (F0 e ps fv ev).1:=λj hj hf k=>by
 simp only [F0,ZEM] at hf;exact Zoe hj k hf.2
theorem ZyF:∀j,j<=r.length->Hv e ps (FF e ps fv nm rs ev r j).1
 | 0,_=>by unfold FF;rw [Gi];exact ZCX
 | j+1,h=>by
  rw [Zqa WF];unfold FS1
  split
  ·exact ZyF j WF
  ·exact ZzG (ZyF j WF) _
theorem Zlm {q j:Nat} (m:r.Nodup) (hj:j<r.length) (hq:q<=j):r[j]∉r.take q:=λh=>by
 obtain ⟨i,l,k⟩:=List.getElem_of_mem h;rw [Hg] at l;rw [List.getElem_take] at k;exact List.pairwise_iff_getElem.1 m i j WF hj WF k
theorem Zwj (k:StS e ps fv nm rs run r U) {i j q:Nat} (hi:i<ps.length) (hq:q<r.length) (l:r[q]=(i:Int)) (hj:j<r.length) (m:q<=j):∀s∈nm i,0<=rs s->¬(rs s).toNat=(r[j]).toNat:=λs t o z=>by
 have w:=k.rsU i hi s t o;have p:=(k.rin _ (Hl hj));have e:rs s=r[j]:=WF
 have:=k.ord q hq (rs s) (by rw [l];exact w) (by rw [e];exact p.2);rw [e] at this;exact Zlm k.rnd hj m this
structure Inv (e:Za) (ps:List Zl) (fv:Nat->Zb×Bool) (nm:Nat->List Ma) (rs:Ma->Int) (ev:Ze->Nat->Bool) (r:List Int) (j:Nat) (F:(Nat->Bool)×(Nat->Bool)×(Nat->List Int)):Prop where
 a:∀i,i<ps.length->(fv i).2=true->F.1 i=ZqW e ps ev i/\F.2.1 i=true/\F.2.2 i=[]
 b:∀i,i<ps.length->(fv i).2=false->(i:Int)∈r.take j->match scan e rs F.1 (nm i) with
  | some L=>F.2.1 i=true/\F.2.2 i=L/\F.1 i=Zi4 e i L
  | none=>F.2.1 i=false/\F.2.2 i=[]/\F.1 i=false
 c:∀i,i<ps.length->(fv i).2=false->(i:Int)∉r.take j->F.1 i=false/\F.2.1 i=false/\F.2.2 i=[]
theorem ZtP (A:StS e ps fv nm rs run r U):∀j,j<=r.length->Inv e ps fv nm rs ev r j (FF e ps fv nm rs ev r j)
 | 0,_=>by
  unfold FF;rw [Gi];refine ⟨λi _ h=> ?_,λi _ _ o=>by simp at o,λi _ h _=> ?_⟩
  ·simp [F0,h]
  ·simp [F0,h]
 | j+1,hj=>by
  have w:=ZtP A j WF;have l:j<r.length:=WF
  obtain ⟨⟨S,T⟩,W⟩:=A.rin _ (Hl l);rw [Zqa l];generalize FF e ps fv nm rs ev r j=F at w ⊢
  have t:∀i:Nat,(i:Int)∈r.take (j+1)↔(i:Int)∈r.take j\/i=(r[j]).toNat:=λi=>by
   rw [Gm l,He,Hu];constructor
   ·rintro (h| h)
    ·exact .inl h
    ·exact .inr WF
   ·rintro (h| h)
    ·exact .inl h
    ·exact .inr WF
  unfold FS1;cases P:(fv (r[j]).toNat).2
  ·rw [if_neg Ha];have G:(r[j]).toNat<ps.length:=by omega
   have z:∀s∈nm (r[j]).toNat,0<=rs s->¬(rs s).toNat=(r[j]).toNat:=Zwj A G l WF l (ZEN _)
   have p:∀i:Nat,i≠(r[j]).toNat->(opF e nm rs F (r[j]).toNat).1 i=F.1 i/\(opF e nm rs F (r[j]).toNat).2.1 i=F.2.1 i/\(opF e nm rs F (r[j]).toNat).2.2 i=F.2.2 i:=λi m=>by
    unfold opF
    split
    ·simp only [if_neg m,and_self]
    ·simp
   have E:∀i,(∀s∈nm i,0<=rs s->¬(rs s).toNat=(r[j]).toNat)->scan e rs (opF e nm rs F (r[j]).toNat).1 (nm i)=scan e rs F.1 (nm i):=λi m=>Zld λs Q R=>(p _ (m s Q R)).1;refine ⟨λi m h=> ?_,λi m h o=> ?_,λi m h o=> ?_⟩
   ·have k:i≠(r[j]).toNat:=λg=>by rw [g,P] at h;cases h
    obtain ⟨I,J,M⟩:=p i k;rw [I,J,M];exact w.a i m h
   ·by_cases k:i=(r[j]).toNat
    ·subst k;rw [E _ z];have O:=w.c _ G P (by rw [show (((r[j]).toNat:Nat):Int)=r[j] from WF];exact Zlm A.rnd l (ZEN _));unfold opF;cases Q:scan e rs F.1 (nm (r[j]).toNat) with
     | none=>exact ⟨O.2.1,O.2.2,O.1⟩
     | some L=>simp
    ·have B:(i:Int)∈r.take j:=((t i).1 o).resolve_right k;obtain ⟨q,hq,C⟩:=List.getElem_of_mem B;rw [Hg] at hq;rw [List.getElem_take] at C;obtain ⟨I,J,M⟩:=p i k;rw [I,J,M,E i (Zwj A m WF C l WF)];exact w.b i m h B
   ·rw [t] at o;obtain ⟨I,J,M⟩:=p i λg=>o (.inr g);rw [I,J,M];exact w.c i m h λg=>o (.inl g)
  ·rw [if_pos rfl];refine ⟨w.a,λi m h o=> ?_,λi m h o=> ?_⟩
   ·have k:i≠(r[j]).toNat:=λg=>by rw [g,P] at h;cases h
    exact w.b i m h (((t i).1 o).resolve_right k)
   ·exact w.c i m h λg=>o ((t i).2 (.inl g))
theorem Zzh (j:StS e ps fv nm rs run r U):Sol e ps fv nm rs ev (FF e ps fv nm rs ev r r.length).1 (FF e ps fv nm rs ev r r.length).2.1 (FF e ps fv nm rs ev r r.length).2.2:=by
 have h:=ZtP (ev:=ev) j r.length (ZEN _);exact ⟨h.a,λi k l=>h.b i k l (by rw [Gh];exact j.all i k (j.opn i k l).1)⟩
theorem Zxd (p:StS e ps fv nm rs run r U) {k:Nat} (hK:StK e ps fv nm rs ev cb k) {T:List (List Int)} (hc:WJ k e.notebook=some ps) (O:US k ps=some T) (P:WB k T=some (tb ps.length cb)) (ho:Kh k ps T (tb ps.length cb)=some r):
  Jn k e=some (Yb.mk ps (tb ps.length λj=>(fv j).2) (tb ps.length (FF e ps fv nm rs ev r r.length).1) (tb ps.length (FF e ps fv nm rs ev r r.length).2.1) (tb ps.length (FF e ps fv nm rs ev r r.length).2.2)):=by
 have Q:=p.nl;have J:=hK.big;have M:r.length<=ps.length:=XA p.rnd λx A=>(p.rin x A).1
 have G:Xg k e ps (tb ps.length cb) k (tb ps.length λ_=>false) (tb ps.length λ_=>false) (tb ps.length λ_=>false) (tb ps.length λ_=>[]) 0=some (tb ps.length λj=>(fv j).2,tb ps.length (F0 e ps fv ev).1,tb ps.length (F0 e ps fv ev).2.1,tb ps.length (F0 e ps fv ev).2.2):=by
  have:=ZhR (λm (s:List Bool×List Bool×List Bool×List (List Int)) i=>Xg k e ps (tb ps.length cb) m s.1 s.2.1 s.2.2.1 s.2.2.2 i)
   (λi=>(tb ps.length λj=>decide (j<i)&&(fv j).2,tb ps.length λj=>decide (j<i)&&((fv j).2&&ZqW e ps ev j),tb ps.length λj=>decide (j<i)&&(fv j).2,tb ps.length λ_=>[])) _ ps.length
   (λm i l=>by
    have z:∀(f g:Nat->Bool),(∀j,j<ps.length->j≠i->f j=g j)->∀v,g i=v->(tb ps.length λj=>if j=i then v else f j)=tb ps.length g:=λf g h v o=>Zl6 λj hj=>by
     by_cases e:j=i
     ·subst e;simp [o]
     ·simp only [if_neg e];exact h j hj e
    have hd:∀j,j≠i->decide (j<i)=decide (j<i+1):=λj hj=>decide_eq_decide.2 WF;have w:decide (i<i+1)=true:=decide_eq_true WF
    try simp only
    rw [Xg,if_pos (ZL l),ZjA l,ZEH,hK.fxS i l,ZEH,ZjA l,ZEH,ZjA l,ZEH,ZjA l,ZEH,wS i WF];simp only [ZEH,Gb,Zwk,ite_self];cases o:(fv i).2
    ·simp only [ZEO,if_false,ZEH];rw [z _ (λj=>decide (j<i+1)&&(fv j).2) (λj _ hj=>by rw [hd j hj]) false (by rw [o,Bool.and_false]),z _ (λj=>decide (j<i+1)&&((fv j).2&&ZqW e ps ev j)) (λj _ hj=>by rw [hd j hj]) false (by rw [o];simp)]
    ·simp only [if_true,Zya p hK l,ZEH];rw [z _ (λj=>decide (j<i+1)&&(fv j).2) (λj _ hj=>by rw [hd j hj]) true (by rw [o,w];rfl),z _ (λj=>decide (j<i+1)&&((fv j).2&&ZqW e ps ev j)) (λj _ hj=>by rw [hd j hj]) (ZqW e ps ev i) (by rw [o,w];simp)])
   (λm=>by
    try simp only
    rw [Xg,if_neg (Qg (ZEN _))]) (k:=k) WF
  simp only [Nat.not_lt_zero,decide_false,Bool.false_and] at this;rw [this];have C:(tb ps.length λj=>decide (j<ps.length)&&(fv j).2)=tb ps.length λj=>(fv j).2:=Zl6 λj hj=>by simp [hj]
  have E:(tb ps.length λj=>decide (j<ps.length)&&((fv j).2&&ZqW e ps ev j))=tb ps.length (F0 e ps fv ev).1:=Zl6 λj hj=>by simp [hj,F0]
  rw [C,E];rfl
 have I:Xf k e ps r k (tb ps.length λj=>(fv j).2) (tb ps.length (F0 e ps fv ev).1) (tb ps.length (F0 e ps fv ev).2.1) (tb ps.length (F0 e ps fv ev).2.2) 0=some (tb ps.length λj=>(fv j).2,tb ps.length (FF e ps fv nm rs ev r r.length).1,tb ps.length (FF e ps fv nm rs ev r r.length).2.1,tb ps.length (FF e ps fv nm rs ev r r.length).2.2):=by
  have:=ZhR (λm (s:List Bool×List Bool×List Bool×List (List Int)) i=>Xf k e ps r m s.1 s.2.1 s.2.2.1 s.2.2.2 i)
   (λj=>(tb ps.length λj=>(fv j).2,tb ps.length (FF e ps fv nm rs ev r j).1,tb ps.length (FF e ps fv nm rs ev r j).2.1,tb ps.length (FF e ps fv nm rs ev r j).2.2)) _ r.length
   (λm j hj=>by
    obtain ⟨⟨R,S⟩,W⟩:=p.rin _ (Hl hj);have A:r[j].toNat<ps.length:=WF
    have B:((r[j].toNat:Nat):Int)=r[j]:=WF
    try simp only
    rw [Xf,if_pos (ZL hj),ZQ hj,ZEH,wS j WF,Zqa hj];have t:=ZjA (f:=λj=>(fv j).2) A;rw [B] at t;rw [t,ZEH];unfold FS1;cases o:(fv r[j].toNat).2
    ·have ho:=ZzF p hK A (FF e ps fv nm rs ev r j) (ZyF j WF) (tb ps.length λj=>(fv j).2);rw [B] at ho;simp only [HK,if_true,ho,ZEH,ZEO,if_false]
    ·simp only [Hr,ZEO,if_false,ZEH,if_true])
   (λm=>by
    try simp only
    rw [Xf,if_neg (Qg (ZEN _))]) (k:=k) WF
  exact this
 unfold Jn;rw [hc,ZEH,O,ZEH,P,ZEH,Zty WF WF,ZEH,Zty WF WF];simp only [ZEH,Zy9,G,ho,I]
theorem Zn3 (x z:Int) (b:Bool):∀M:List (Int×Bool),ZgK (Zjd M x b) z=if z=x then some b else ZgK M z
 | []=>by simp [Zjd,ZgK]
 | p::M=>by
  have k:=Zn3 x z b M;unfold Zjd
  split
  ·rename_i h;subst h;simp only [ZgK]
   by_cases j:z=p.1<;>simp [j]
  ·rename_i h;simp only [ZgK]
   by_cases j:z=p.1
   ·have:¬z=x:=λg=>h (by rw [<-g,j]);simp [j,this];intro g;exact absurd g.symm h
   ·simp only [j,if_false,k]
def Con (n:Nat) (fr:Nat->Bool) (M:List (Int×Bool)):Prop:=∀i,i<n->∀b,ZgK M (i:Int)=some b->b=fr i
theorem Con.nil {n:Nat} {fr:Nat->Bool}:Con n fr []:=λi _ b h=>by simp [ZgK] at h
theorem Con.put {n:Nat} {fr:Nat->Bool} {M:List (Int×Bool)} (h:Con n fr M) (i:Nat):Con n fr (Zjd M (i:Int) (fr i)):=λj hj b k=>by
 rw [Zn3] at k
 split at k
 ·rename_i e;obtain rfl:j=i:=by omega
  exact (ZEI k).symm
 ·exact h j hj b k
section
variable {fr kn:Nat->Bool} {inp:Nat->List Int}
theorem ZxM (w:StS e ps fv nm rs run r U) {k:Nat} (hK:StK e ps fv nm rs ev cb k) {i:Nat} (hi:i<ps.length) (z:(fv i).2=true) (M:List (Int×Bool)):Qo (k+1) (i:Int) e ps M=some (ZqW e ps ev i,M):=by
 have o:i<e.notebook.cells.length:=HM hi w.nb;have j:=ZEP o;rw [Qo,ZQ hi,ZEH];unfold ZqW;rw [ZEP hi]
 by_cases m:ps[i].kind=1
 ·simp [m]
 ·rw [decide_eq_false m,ZQ o,ZEH,hK.ixI,ZEH];simp only [ZEO,if_false,m]
  by_cases l:eix e e.notebook.cells[i].id<0
  ·rw [Zh5 j l,decide_eq_true l];rfl
  ·obtain ⟨x,p,s,t⟩:=Zh4 j l;rw [p,decide_eq_false l,t,hK.fxI i hi];simp only [ZEO,if_false,ZEH,z,if_true];cases x.has
   ·rfl
   ·simp only [if_true,hK.eqI i hi x s,ZEH,Gt]
theorem Zo2 (A:StS e ps fv nm rs run r U) {k:Nat} (hK:StK e ps fv nm rs ev cb k) {i:Nat} (hi:i<ps.length) (S:Hv e ps fr) (R:Int->Za->List Zl->List (Int×Bool)->Option (Bool×List (Int×Bool)))
  (hR:∀s∈nm i,0<=rs s->∀M,Con ps.length fr M->∃j,Con ps.length fr j/\R (rs s) e ps M=some (fr (rs s).toNat,j)):∀(m p n:Nat) (out:List Int) (M:List (Int×Bool)),p+m=(nm i).length->m<n->out.length<=p->Con ps.length fr M->∃j,Con ps.length fr j/\
  Z4 R k (nm i) e ps n M out (p:Int)=some (match scan e rs fr ((nm i).drop p) with | some L=>.inl (out++L,j)| none=>.inr ([],false,j)):=by
 intro m
 induction m with
 | zero=>
  intro p n out M hp T _ hM;obtain ⟨n,rfl⟩:∃q,n=q+1:=⟨n-1,WF⟩;refine ⟨M,hM, ?_⟩;rw [Z4,if_neg (Qg WF),Gp WF];simp [scan]
 | succ m O=>
  intro p n out M hp T ho hM;obtain ⟨n,rfl⟩:∃q,n=q+1:=⟨n-1,WF⟩;have l:p<(nm i).length:=WF
  have W:=A.nml i hi;have B:=Hl l;rw [Z4,if_pos (ZL l),ZQ l,ZEH,hK.rsI i hi _ B,ZEH,Ho l,wS p WF];unfold scan
  by_cases z:rs (nm i)[p]<0
  ·rw [decide_eq_true z,if_pos rfl,if_pos z,Wa (by simp;omega) WF];simp only [ZEH];obtain ⟨j,c,q⟩:=O (p+1) n (out++[rs (nm i)[p]]) M WF WF (by simp;omega) hM;refine ⟨j,c, ?_⟩;rw [q];cases scan e rs fr ((nm i).drop (p+1))<;>simp
  ·have Z:=A.rsb i hi _ B;have X:(((rs (nm i)[p]).toNat:Nat):Int)=rs (nm i)[p]:=by omega
   have hq:(rs (nm i)[p]).toNat<ps.length:=WF
   obtain ⟨G,I,Y⟩:=hR _ B WF M hM;rw [decide_eq_false z,if_neg Ha,if_neg z,Y];simp only [ZEH];cases hf:fr (rs (nm i)[p]).toNat
   ·exact ⟨G,I,Ha⟩
   ·have w:(rs (nm i)[p]).toNat<e.notebook.cells.length:=HM hq A.nb;have t:=ZQ w;rw [X] at t;obtain ⟨x,J⟩:=S _ hq hf (A.rsk i hi _ B WF _ (ZEP hq));have o:=ZEP w;have C:¬eix e e.notebook.cells[(rs (nm i)[p]).toNat].id<0:=λh=>by rw [Zh5 o h] at J;cases J
    obtain ⟨y,P,_,Q⟩:=Zh4 o C;have E:ZjC e (rs (nm i)[p]).toNat=y.stamp:=by unfold ZjC;rw [P]
    obtain ⟨j,c,q⟩:=O (p+1) n (out++[y.stamp]) G WF WF (by simp;omega) I;refine ⟨j,c, ?_⟩;rw [t];simp only [Hr,ZEO,if_false,ZEH,hK.ixI,Q];rw [Wa (by simp;omega) WF];simp only [ZEH];rw [q,E];cases scan e rs fr ((nm i).drop (p+1))<;>simp
def IsF (e:Za) (ps:List Zl) (fr:Nat->Bool) (k i:Nat):Prop:=∀M,Con ps.length fr M->∃j,Con ps.length fr j/\ZV k (i:Int) e ps M=some (fr i,j)
def IsS (e:Za) (ps:List Zl) (fr kn:Nat->Bool) (inp:Nat->List Int) (k i:Nat):Prop:=∀M,Con ps.length fr M->∃j,Con ps.length fr j/\YP k (i:Int) e ps M=some (inp i,kn i,j)
theorem Znz (l:StS e ps fv nm rs run r U) (hL:Sol e ps fv nm rs ev fr kn inp) {k:Nat} (hK:StK e ps fv nm rs ev cb k) {i:Nat} (hi:i<ps.length) (m:(fv i).2=false) (hR:∀s∈nm i,0<=rs s->IsF e ps fr k (rs s).toNat):IsS e ps fr kn inp (k+1) i:=λM hM=>by
 have t:=hK.big;have w:=l.nml i hi
 obtain ⟨o,c,q⟩:=Zo2 l hK hi (hL.have l) (ZV k) (λs j p M hM=>by
  have:=hR s j p M hM
  rwa [show (((rs s).toNat:Nat):Int)=rs s from WF] at this) (nm i).length 0 k [] M WF WF Ha hM
 refine ⟨o,c, ?_⟩;rw [YP,hK.fxI i hi,ZEH,m,ZQ hi];simp only [ZEO,if_false,ZEH,hK.usI i hi];rw [show Z4 (ZV k) k (nm i) e ps k M [] 0=_ from q,Gd];have ho:=hL.opn i hi m;cases j:scan e rs fr (nm i) with
 | none=>rw [j] at ho;simp only at ho;rw [ho.1,ho.2.1];rfl
 | some L=>rw [j] at ho;simp only at ho;rw [ho.1,ho.2.1];rfl
theorem ZsX (hL:Sol e ps fv nm rs ev fr kn inp) {k:Nat} (hK:StK e ps fv nm rs ev cb k) {i:Nat} (hi:i<ps.length) (j:(fv i).2=true):IsS e ps fr kn inp (k+1) i:=λM hM=>by
 refine ⟨M,hM, ?_⟩;obtain ⟨_,l,m⟩:=hL.fxd i hi j;rw [YP,hK.fxI i hi,ZEH,j,l,m];rfl
theorem ZxL (s:StS e ps fv nm rs run r U) (hL:Sol e ps fv nm rs ev fr kn inp) {k:Nat} (hK:StK e ps fv nm rs ev cb k) {i:Nat} (hi:i<ps.length) (p:(fv i).2=false) (hR:IsS e ps fr kn inp k i) (M:List (Int×Bool)) (hM:Con ps.length fr M):∃l,Con ps.length fr l/\Qo (k+1) (i:Int) e ps M=some (fr i,l):=by
 have t:i<e.notebook.cells.length:=HM hi s.nb;have j:=ZEP t;have C:=(s.opn i hi p).2;have ho:=hL.opn i hi p;rw [Qo,ZQ hi,ZEH,decide_eq_false (show ¬ps[i].kind=1 from WF),ZQ t,ZEH,hK.ixI,ZEH];simp only [ZEO,if_false]
 by_cases m:eix e e.notebook.cells[i].id<0
 ·refine ⟨M,hM, ?_⟩;rw [decide_eq_true m,if_pos rfl]
  have hf:fr i=false:=by
   split at ho
   ·rw [ho.2.2];unfold Zi4;rw [Zh5 j m]
   ·exact ho.2.2
  rw [hf]
 ·obtain ⟨x,z,A,B⟩:=Zh4 j m;obtain ⟨l,c,q⟩:=hR M hM;refine ⟨l,c, ?_⟩;rw [decide_eq_false m,if_neg Ha,B,ZEH,hK.fxI i hi,ZEH,p,if_neg Ha,q];simp only [ZEH];have o:∀L,Zi4 e i L=(decide (x.version=e.notebook.cells[i].version)&&VF (λa b=>decide (a=b)) x.inputs L):=λL=>by unfold Zi4;rw [z,j]
  cases w:scan e rs fr (nm i) with
  | none=>rw [w] at ho;simp only at ho;rw [ho.1,ho.2.2];rfl
  | some L=>
   rw [w] at ho;simp only at ho;rw [ho.1,ho.2.2,o,ho.2.1];simp only [if_true];cases decide (x.version=e.notebook.cells[i].version)
   ·rfl
   ·simp only [if_true,hK.inI x A,ZEH,Gt]
theorem ZwE {k i:Nat} (hL:∀M,Con ps.length fr M->∃j,Con ps.length fr j/\Qo k (i:Int) e ps M=some (fr i,j)) (hi:i<ps.length):IsF e ps fr (k+1) i:=λM hM=>by
 rw [ZV];cases l:ZgK M (i:Int) with
 | some b=>
  refine ⟨M,hM, ?_⟩;rw [hM i hi b l];rfl
 | none=>
  obtain ⟨j,c,q⟩:=hL M hM;refine ⟨_,c.put i, ?_⟩;rw [q];rfl
theorem Zx8 (m:StS e ps fv nm rs run r U) (hL:Sol e ps fv nm rs ev fr kn inp) {B:Nat} (hK:∀k,B<=k->StK e ps fv nm rs ev cb k):∀j,j<=r.length->∀k,B+3*j+3<=k->∀i,i<ps.length->((fv i).2=true\/(i:Int)∈r.take j)->IsF e ps fr k i:=by
 have base:∀k,B+3<=k->∀i,i<ps.length->(fv i).2=true->IsF e ps fr k i:=λk w i l o=>by
  obtain ⟨k,rfl⟩:∃q,k=q+1+1:=⟨k-2,WF⟩;refine ZwE (λM hM=>⟨M,hM, ?_⟩) l;rw [ZxM m (hK k WF) l o,(hL.fxd i l o).1]
 intro j
 induction j with
 | zero=>
  intro _ k w i l h;rcases h with h| h
  ·exact base k WF i l h
  ·simp at h
 | succ j A=>
  intro hj k w i l h;have p:j<r.length:=WF
  cases o:(fv i).2
  ·have h:=h.resolve_left (by rw [o];simp);rw [Gm p,He,Hu] at h;rcases h with h| h
   ·exact A WF k WF i l (.inr h)
   ·obtain ⟨k,rfl⟩:∃q,k=q+1+1+1:=⟨k-3,WF⟩;refine ZwE (λM hM=>ZxL m hL (hK _ WF) l o (Znz m hL (hK k WF) l o λs z C=> ?_) M hM) l;have E:=m.rsb i l s z;refine A WF k WF _ WF ?_;cases t:(fv (rs s).toNat).2
    ·refine .inr ?_;rw [show (((rs s).toNat:Nat):Int)=rs s from WF];exact m.ord j p (rs s) (by rw [<-h];exact m.rsU i l s z C) (m.opn _ WF t).1
    ·exact .inl rfl
  ·exact base k WF i l o
theorem ZzU (l:StS e ps fv nm rs run r U) (hL:Sol e ps fv nm rs ev fr kn inp) (hK:Ev λk=>StK e ps fv nm rs ev cb k):Ev λk=>∀i,i<ps.length->IsF e ps fr k i/\IsS e ps fr kn inp k i:=by
 obtain ⟨B,o⟩:=hK
 have p:∀k,B+3*r.length+3<=k->∀i,i<ps.length->IsF e ps fr k i:=λk t i j=>Zx8 l hL o r.length (ZEN _) k t i j (by
  cases m:(fv i).2
  ·exact .inr (by rw [Gh];exact l.all i j (l.opn i j m).1)
  ·exact .inl rfl)
 refine ⟨B+3*r.length+4,λk t i j=>⟨p k WF i j, ?_⟩⟩;obtain ⟨k,rfl⟩:∃q,k=q+1:=⟨k-1,WF⟩;cases m:(fv i).2
 ·refine Znz l hL (o k WF) j m λs w z=>p k WF _ ?_;have A:=l.rsb i j s w;omega
 ·exact ZsX hL (o k WF) j m
end
end
theorem Zt9 (k:Nat) (ps:List Zl) (N:List Ma) (J:N.length<=2097153):∀(n:Nat) (out:List Int) (j:Nat) (l:List Int),ZK k ps N n out (j:Int)=some l->(∀z∈out,z∈l)/\∀q,j<=q->∀(h:q<N.length) v,QJ k ps N[q]=some v->0<=v->v∈l
 | 0,_,_,_,h=>by rw [ZK] at h;cases h
 | n+1,out,j,l,h=>by
  rw [ZK] at h
  by_cases hj:j<N.length
  ·rw [if_pos (ZL hj),ZQ hj,ZEH,wS j WF] at h;cases A:QJ k ps N[j] with
   | none=>rw [A] at h;simp at h
   | some v=>
    rw [A] at h;simp only [ZEH] at h
    by_cases C:0<=v
    ·rw [decide_eq_true C,if_pos rfl] at h;cases E:YJ 8 out [v] with
     | none=>rw [E] at h;simp at h
     | some t=>
      rw [E] at h;simp only [ZEH] at h;obtain ⟨e,_⟩:=Vm E;obtain ⟨B,I⟩:=Zt9 k ps N J n t (j+1) l h;refine ⟨λz G=>B z (by rw [e];simp [G]),λq hq m w s o=> ?_⟩
      by_cases p:q=j
      ·subst p;rw [A] at s;cases s;exact B v (by rw [e];simp)
      ·exact I q WF m w s o
    ·rw [decide_eq_false C,if_neg Ha] at h;simp only [ZEH] at h;obtain ⟨B,I⟩:=Zt9 k ps N J n out (j+1) l h;refine ⟨B,λq hq m w s o=> ?_⟩
     by_cases p:q=j
     ·subst p;rw [A] at s;cases s;exact absurd o C
     ·exact I q WF m w s o
  ·rw [if_neg (Qg WF)] at h;cases h;exact ⟨λz G=>G,λq hq m=>absurd m WF⟩
theorem Zxt (ps:List Zl) (s:Ma) (hl:ps.length<=1048576):∃v:Int,(v<ps.length/\(0<=v->∀p,ps[v.toNat]? =some p->¬p.kind=1))/\Ev λk=>QJ k ps s=some v/\X7 k ps s=some v:=by
 obtain ⟨l,A,w,o⟩:=Zud ps s hl;refine ⟨UB l,⟨(Zjc w).2.1,λj p hp=> ?_⟩,o.mono λk h=>ZhC h⟩;obtain ⟨k,e,_⟩:=o.get
 have hd:∀x∈l,∀p,ps[x.toNat]? =some p->¬p.kind=1:=by
  unfold Wl at e;cases m:Yw ps s k [] 0 with
  | none=>rw [m] at e;cases e
  | some t=>
   rw [m] at e;cases e;exact Zjl ps s k [] 0 _ (λx z=>by simp at z) m
 match l,j,hp,hd with
 | [x],j,hp,hd=>exact hd x Ha p hp
 | [],j,_,_=>simp [UB] at j
 | _::_::_,j,_,_=>simp [UB] at j
theorem ZC5 {α β:Type} {p:α->β->Prop} (h:∀x,∃y,p x y):∃f:α->β,∀x,p x (f x):=⟨λx=>(h x).choose,λx=>(h x).choose_spec⟩
structure Kn (e:Za) (ps:List Zl) (fx fr kn:Nat->Bool) (inp:Nat->List Int):Prop where
 nb:ps.length<=e.notebook.cells.length
 nl:ps.length<=1048576
 el:e.entries.length<=1048576
 inl:∀i,i<ps.length->(inp i).length<=2097153
 ini:∀i,i<ps.length->kn i=false->inp i=[]
 fxs:∀i (h:i<ps.length),ps[i].kind=1->fx i=true
 have_:Hv e ps fr
 ev:Ev λk=>Jn k e=some (Yb.mk ps (tb ps.length fx) (tb ps.length fr) (tb ps.length kn) (tb ps.length inp))/\X0 k e=some (e,ps,[])/\(∀i,i<ps.length->IsF e ps fr k i/\IsS e ps fr kn inp k i)/\(∀i,i<ps.length->∃v,ZN k ps (i:Int)=some (v,fx i))/\(∀id,ZX k e id=some (eix e id)/\Z6 k e id=some (eix e id))/\(∀id,YD k e.notebook id=some (cix e.notebook id)/\YR k e.notebook id=some (cix e.notebook id))/\2097200<=k
theorem Zjg (e:Za) (hb:e.bk<=1048576):∃(ps:List Zl) (fx fr kn:Nat->Bool) (inp:Nat->List Int),Kn e ps fx fr kn inp:=by
 have b7:=e.Zz;have b8:=ZE (f:=Ze.bk) (xs:=e.entries);have b6:=Ztt e.notebook;obtain ⟨ps,⟨hl,Q⟩,S,C⟩:=ZpQ e.notebook WF;have hp:=λp h=>(S p h).1.1;have b1:=λp h=>(S p h).2;obtain ⟨U,hU⟩:=ZvK ps hl hp;obtain ⟨run,A⟩:=Zxk hl hU;obtain ⟨r,⟨⟨b2,b3⟩,b4,b5⟩,R⟩:=Ztp hl hU A
 have O:ps.length<=e.notebook.cells.length:=by
  rcases Q with ⟨rfl,_⟩| ⟨_,h⟩
  ·simp
  ·omega
 have o:∀{i},i<ps.length->i∈List.range ps.length:=λh=>HN.2 h
 obtain ⟨cb,M⟩:=YI (p:=λ(i:Nat) (b:Bool)=>b=true↔Reach U i i) (List.range ps.length) λi _=>by
  obtain ⟨b,h,_⟩:=Zui hl hU i;exact ⟨b,h⟩
 have Z:=Zuh hl (λi=>ZbG (hU.asc i)) hU.bd cb λi l=>M i (o l);have T:=Zwm hl hU;haveI:Inhabited Zb:=⟨Zb.mk 0 0 0 ⟨#[]⟩ [] [] []⟩
 obtain ⟨fv,P⟩:=YI (p:=λ(i:Nat) (v:Zb×Bool)=>∀l:i<ps.length,((v.2=false->run i=true/\ps[i].kind=2)/\v.1.bk<=2097152)/\Ev λk=>Y2 k ps (i:Int) (cb i)=some v/\ZN k ps (i:Int)=some v) (List.range ps.length) λi l=>by
  obtain ⟨v,h⟩:=Zt4 hl hp b1 hU A i (HN.1 l) (cb i) (M i l);exact ⟨v,λ_=>h⟩
 obtain ⟨nm,E⟩:=YI (p:=λ(i:Nat) (N:List Ma)=>∀l:i<ps.length,N.length<=2097153/\∃r:List Int,U (i:Int)=ZrB r/\Ev λk=>(W7 k ps[i]=some N/\Vf k ps[i]=some N)/\ZK k ps N k [] 0=some r) (List.range ps.length) λi l=>by
  obtain ⟨N,r,w,z,B⟩:=hU.src i (HN.1 l);exact ⟨N,λ_=>⟨z,r,w,B⟩⟩
 obtain ⟨rs,t⟩:=ZC5 λs=>Zxt ps s hl
 obtain ⟨ev,b0⟩:=YI (p:=λ(x:Ze) (f:Nat->Bool)=>∀i,Ev λk=>XL k x.value (fv i).1=some (f i)/\XQ k x.value (fv i).1=some (f i)) e.entries λx m=>ZC5 λi=>Zt6 x.value (fv i).1 (by
  have w:=Z1 (f:=Ze.bk) m;have z:=x.Zz;omega)
 have J:StS e ps fv nm rs run r U:={
  nb:=O,nl:=hl,el:=WF
  rsb:=λi _ s _=>(t s).1.1
  rsU:=λi l s G Y=>by
   obtain ⟨w,rl,z,B⟩:=E i (o l) l;obtain ⟨k,⟨_,e1⟩,e2,_⟩:=(B.and (t s).2).get;obtain ⟨q,hq,rfl⟩:=List.getElem_of_mem G;rw [z,Zgb];exact (Zt9 k ps (nm i) w k [] 0 rl e1).2 q WF hq _ e2 Y
  rsk:=λi _ s _ Y=>(t s).1.2 Y
  nml:=λi l=>(E i (o l) l).1
  opn:=λi l h=>((P i (o l) l).1.1 h)
  rnd:=b2,rin:=b3,ord:=b4,all:=b5}
 have hF:=Ev.all (p:=λi k=>i<ps.length->Y2 k ps (i:Int) (cb i)=some (fv i)/\ZN k ps (i:Int)=some (fv i)) (List.range ps.length) λi l=>(P i l (HN.1 l)).2.mono λk h _=>h
 have hN:=Ev.all (p:=λi k=>∀l:i<ps.length,W7 k ps[i]=some (nm i)/\Vf k ps[i]=some (nm i)) (List.range ps.length) λi l=>by
  obtain ⟨_,_,_,h⟩:=E i l (HN.1 l);exact h.mono λk h _=>h.1
 have hR:=Ev.all (p:=λi k=>∀s∈nm i,QJ k ps s=some (rs s)/\X7 k ps s=some (rs s)) (List.range ps.length) λi _=>Ev.all (nm i) λs _=>(t s).2;have hE:=Ev.all (p:=λi k=>∀x∈e.entries,XL k x.value (fv i).1=some (ev x i)/\XQ k x.value (fv i).1=some (ev x i)) (List.range ps.length) λi _=>Ev.all e.entries λx m=>b0 x m i
 have hK:Ev λk=>StK e ps fv nm rs ev cb k:=(hF.and (hN.and (hR.and (hE.and (Ev.ge 2097200))))).mono λk ⟨f1,f2,f3,f4,f5⟩=>{
  fxS:=λi l=>(f1 i (o l) l).1,fxI:=λi l=>(f1 i (o l) l).2
  usS:=λi l=>(f2 i (o l) l).1,usI:=λi l=>(f2 i (o l) l).2
  rsS:=λi l s G=>(f3 i (o l) s G).1,rsI:=λi l s G=>(f3 i (o l) s G).2
  eqS:=λi l x m=>(f4 i (o l) x m).1,eqI:=λi l x m=>(f4 i (o l) x m).2
  ixS:=λid=>ZAj e id WF WF,ixI:=λid=>ZCj e id WF WF
  inS:=λx m L=>ZoT x.inputs L (by have w:=Z1 (f:=Ze.bk) m;have z:=x.Zz;have B:=ZE (f:=λ_:Int=>0) (xs:=x.inputs);omega) (by have w:=Z1 (f:=Ze.bk) m;have z:=x.Zz;have B:=ZE (f:=λ_:Int=>0) (xs:=x.inputs);omega)
  inI:=λx m L=>by rw [Ze5];exact ZoT x.inputs L (by have w:=Z1 (f:=Ze.bk) m;have z:=x.Zz;have B:=ZE (f:=λ_:Int=>0) (xs:=x.inputs);omega) (by have w:=Z1 (f:=Ze.bk) m;have z:=x.Zz;have B:=ZE (f:=λ_:Int=>0) (xs:=x.inputs);omega)
  big:=f5}
 have hL:=Zzh (ev:=ev) J;refine ⟨ps,λj=>(fv j).2,(FF e ps fv nm rs ev r r.length).1,(FF e ps fv nm rs ev r r.length).2.1,(FF e ps fv nm rs ev r r.length).2.2,O,hl,WF,λi l=> ?_,λi l hk=> ?_,λi l hk=> ?_,hL.have J, ?_⟩
 ·cases I:(fv i).2
  ·have:=hL.opn i l I
   split at this
   ·rename_i L G;rw [this.2.1,Zmc G];exact J.nml i l
   ·rw [this.2.1];simp
  ·rw [(hL.fxd i l I).2.2];simp
 ·cases I:(fv i).2
  ·have:=hL.opn i l I
   split at this
   ·rw [this.1] at hk;cases hk
   ·exact this.2.1
  ·exact (hL.fxd i l I).2.2
 ·cases I:(fv i).2
  ·have:=(J.opn i l I).2;omega
  ·rfl
 ·refine ((hK.and (ZzU J hL hK)).and ((C.and T).and (Z.and (R.and (Ev.ge 4194400))))).mono λk ⟨⟨W,g2⟩,⟨g3,g4⟩,g5,⟨X,_⟩,g7⟩=>⟨?_, ?_,g2,λi l=>⟨_,W.fxI i l⟩,λid=>⟨W.ixS id,W.ixI id⟩,λid=>⟨ZaF e.notebook id WF WF,Zfe e.notebook id WF WF⟩,WF⟩
  ·refine Zxd J W g3.1 g4 g5 ?_;unfold ZhB at X;rw [g4,ZEH,g5,ZEH] at X
   simpa [tb] using X
  ·unfold X0;rw [g3.2];rfl
end Go.Proofs.YtmcfegjoccgpoaaGreatDoor
