import Derived.Test.YtmcfegjoccgpoaaGreatDoorZJ10
import Derived.Test.YtmcfegjoccgpoaaGreatDoorZJ18
set_option linter.unusedSimpArgs false
set_option linter.unusedVariables false
namespace Go.Proofs.YtmcfegjoccgpoaaGreatDoor
open Go.RowKit Am
theorem ZbR {α:Type} (f:α->Nat) (xs:List α) (i:Nat) (h:i<xs.length):ZU f (xs.take (i+1))=ZU f (xs.take i)+f xs[i]:=by
 unfold ZU;rw [Gm h,GD,List.sum_append];simp
theorem Zfk {α:Type} (f:α->Nat) (xs:List α) (i:Nat):ZU f (xs.take i)<=ZU f xs:=by
 have h:ZU f xs=ZU f (xs.take i)+ZU f (xs.drop i):=by
  unfold ZU
  conv=>lhs;rw [<-Hn i xs]
  rw [GD,List.sum_append]
 omega
theorem Zny {α:Type} {f g:α->Nat}:∀{xs:List α},(∀x∈xs,f x<=g x)->ZU f xs<=ZU g xs
 | [],_=>ZEN _
 | x::xs,h=>by
  have l:=h x Ha;have j:=Zny (f:=f) (g:=g) (xs:=xs) λy k=>h y (by simp [k]);simp only [ZU,Hi,HV] at j ⊢;omega
theorem ZoZ {α:Type} {f:α->Nat} (xs:List α):ZU (λx=>f x+1) xs=ZU f xs+xs.length:=by
 induction xs with
 | nil=>rfl
 | cons x xs j=>simp only [ZU,Hi,HV,HL] at j ⊢;omega
theorem ZP.ZAC (r:ZP):r.cells.length+r.from_.length<=r.bk:=by
 rw [ZP.Zz];have j:=ZE (f:=λ_:Int=>0) (xs:=r.cells);have k:=ZE (f:=λ_:Zk=>0) (xs:=r.from_);omega
def ZuM (r:ZP):Nat:=r.cells.length+r.from_.length
theorem ZlI:∀v:Zb,v.bk<=1073741824->∃n:Nat,(1<=n/\n<=v.bk+1)/\Ev λk=>Y0 k v=some (n:Int):=by
 refine Zb.ind λv w B=> ?_;have e:=v.Zz;have l1:=ZE (f:=Zb.bk) (xs:=v.list);have l2:=ZE (f:=ByteArray.size) (xs:=v.columns);have l3:=ZE (f:=ZP.bk) (xs:=v.rows)
 obtain ⟨f,hf⟩:=YI (p:=λy n=>n<=y.bk+1/\Ev λk=>Y0 k y=some ((n:Nat):Int)) v.list λy l=>by
  obtain ⟨n,m,o⟩:=w y l (by have:=Z1 (f:=Zb.bk) l;omega);exact ⟨n,m.2,o⟩
 have G:ZU f v.list<=bkS Zb.bk v.list:=by
  have:=Zny (f:=f) (g:=λy=>y.bk+1) (xs:=v.list) λy l=>(hf y l).1;rw [ZoZ] at this;unfold bkS;omega
 have E:ZU ZuM v.rows<=bkS ZP.bk v.rows:=by
  have:=Zny (f:=ZuM) (g:=ZP.bk) (xs:=v.rows) λy _=>y.ZAC;unfold bkS;omega
 refine ⟨1+v.text.size+v.columns.length+ZU f v.list+ZU ZuM v.rows,⟨WF,WF⟩, ?_⟩;refine ((Ev.all v.list λy l=>(hf y l).2).and (Ev.ge (v.list.length+v.rows.length+2))).pred ?_;rintro k ⟨t,C⟩;rw [Y0,w64 (n:=1+(v.text.size:Int)) WF WF,w64 WF WF]
 have z:Xh (Y0 k) v k (1+(v.text.size:Int)+(v.columns.length:Int)) 0=some (((1+v.text.size+v.columns.length+ZU f v.list:Nat)):Int):=by
  have:=ZhR (λn (s:Nat) i=>Xh (Y0 k) v n (s:Int) i) (λi=>1+v.text.size+v.columns.length+ZU f (v.list.take i)) (some ((1+v.text.size+v.columns.length+ZU f v.list:Nat):Int)) v.list.length
   (λn i j=>by
    have m:=ZbR f v.list i j;have o:=Zfk f v.list (i+1)
    try simp only
    rw [Xh,if_pos (ZL j),ZQ j,ZEH,t _ (Hl j),ZEH,wS i WF,w64 WF WF,m]
    congr 1;omega)
   (λn=>by
    try simp only
    rw [Xh,if_neg (Qg (ZEN _)),Gl (ZEN _)]) (k:=k) WF
  simp only [Gi] at this;rw [<-this];congr 1;try simp [ZU]
 rw [z,ZEH]
 have p:=ZhR (λn (s:Nat) i=>XW v n (s:Int) i) (λi=>1+v.text.size+v.columns.length+ZU f v.list+ZU ZuM (v.rows.take i)) (some ((1+v.text.size+v.columns.length+ZU f v.list+ZU ZuM v.rows:Nat):Int)) v.rows.length
   (λn i j=>by
    have m:=ZbR ZuM v.rows i j;have o:=Zfk ZuM v.rows (i+1);have A:ZuM v.rows[i]=v.rows[i].cells.length+v.rows[i].from_.length:=rfl
    try simp only
    rw [XW,if_pos (ZL j),ZQ j,ZEH,wS i WF,w64 (n:=((1+v.text.size+v.columns.length+ZU f v.list+ZU ZuM (v.rows.take i):Nat):Int)+(v.rows[i].cells.length:Int)) WF WF,w64 WF WF,m]
    congr 1;omega)
   (λn=>by
    try simp only
    rw [XW,if_neg (Qg (ZEN _)),Gl (ZEN _)]) (k:=k) WF
 simp only [Gi] at p;have r:ZU ZuM ([]:List ZP)=0:=rfl;rw [r,Gr] at p;rw [p];rfl
theorem ZuH (v:Zb) (h:v.bk<=1073741824):∃n:Nat,n<=v.bk+1/\Ev λk=>Y0 k v=some (n:Int):=by
 obtain ⟨n,j,l⟩:=ZlI v h;exact ⟨n,j.2,l⟩
structure ZyG (sz:Int->Int) (S:Int->Prop) (x:Int):Prop where
 mem:S x
 top:∀y,S y->sz y<sz x\/(sz y=sz x/\x<=y)
theorem ZyG.one {j:Int->Int} {S:Int->Prop} {x y:Int} (h:ZyG j S x) (g:ZyG j S y):x=y:=by
 have k:=h.top y g.mem;have l:=g.top x h.mem;omega
section
variable {e:Za} {ps:List Zl} {fx fr kn:Nat->Bool} {inp:Nat->List Int}
def Zxf (f:Ze->Nat) (e:Za) (id:Int):Int:=match e.entries[(eix e id).toNat]? with | some x=>(f x:Int)| none=>0
theorem ZmO {id:Int} (h:Zfg e ps fx fr id=true):∃j:Nat,eix e id=(j:Int)/\j<e.entries.length:=by
 unfold Zfg at h;simp only [ZEM,decide_eq_true_eq] at h;have k:=Zoj (e:=e) id;exact ⟨(eix e id).toNat,WF,WF⟩
theorem Zum {id:Int} (h:Zfg e ps fx fr id=true):∃j:Nat,cix e.notebook id=(j:Int)/\j<ps.length:=by
 unfold Zfg at h;simp only [ZEM,decide_eq_true_eq] at h;exact ⟨(cix e.notebook id).toNat,WF,WF⟩
theorem ZwJ {id:Int} {i:Nat} (h:eix e id=(i:Int)):∃hi:i<e.entries.length,e.entries[i].cell=id:=by
 obtain ⟨hi,j⟩:=ZqY h;exact ⟨hi,by simpa using j⟩
theorem ZoY {f:Ze->Nat} {id:Int} {j:Nat} (h:eix e id=(j:Int)) (hj:j<e.entries.length):Zxf f e id=(f e.entries[j]:Int):=by
 unfold Zxf;rw [h,Gb,ZEP hj]
def PS (f:Ze->Nat) (e:Za) (ps:List Zl) (fx fr:Nat->Bool) (i:Nat) (b:Int):Prop:=
 (b= -1/\∀id,Zfg e ps fx fr id=true->∀j:Nat,eix e id=(j:Int)->¬j<i)\/
 ∃(j:Nat) (hj:j<e.entries.length),b=(j:Int)/\eix e e.entries[j].cell=(j:Int)/\ZyG (Zxf f e) (λid=>Zfg e ps fx fr id=true/\∃q:Nat,eix e id=(q:Int)/\q<i) e.entries[j].cell
theorem PS.skip {f:Ze->Nat} {i:Nat} {b:Int} (hi:i<e.entries.length) (h:PS f e ps fx fr i b) (s:eix e e.entries[i].cell=(i:Int)->Zfg e ps fx fr e.entries[i].cell=false):PS f e ps fx fr (i+1) b:=by
 have o:∀id,Zfg e ps fx fr id=true->∀q:Nat,eix e id=(q:Int)->q<i+1->q<i:=λid k q hq m=>by
  refine Classical.byContradiction λw=> ?_;obtain rfl:q=i:=WF
  obtain ⟨_,l⟩:=ZwJ hq;rw [<-l] at hq k;rw [s hq] at k;cases k
 rcases h with ⟨p,l⟩| ⟨j,hj,p,l,r⟩
 ·exact .inl ⟨p,λid k q hq m=>l id k q hq (o id k q hq m)⟩
 ·refine .inr ⟨j,hj,p,l,⟨?_,λy t=> ?_⟩⟩
  ·obtain ⟨a1,q,a2,a3⟩:=r.mem;exact ⟨a1,q,a2,WF⟩
  ·obtain ⟨a1,q,a2,a3⟩:=t;exact r.top y ⟨a1,q,a2,o y a1 q a2 a3⟩
theorem ZAl (K:Kn e ps fx fr kn inp) {f:Ze->Nat} {k:Nat} (hf:∀x∈e.entries,Y0 k x.value=some (f x:Int)) (W:∀id,ZX k e id=some (eix e id)/\Z6 k e id=some (eix e id)) (X:∀id,YD k e.notebook id=some (cix e.notebook id)/\YR k e.notebook id=some (cix e.notebook id)):
  ∀(m n i:Nat) (b:Int),i+m=e.entries.length->m<n->PS f e ps fx fr i b->∃l,PS f e ps fx fr e.entries.length l/\Yv k e n ps (tb ps.length fx) (tb ps.length fr) (tb ps.length kn) (tb ps.length inp) b (i:Int)=some l:=by
 intro m
 induction m with
 | zero=>
  intro n i b Z hn A;obtain ⟨n,rfl⟩:∃q,n=q+1:=⟨n-1,WF⟩;obtain rfl:i=e.entries.length:=WF
  exact ⟨b,A,by rw [Yv,if_neg (Qg (ZEN _))]⟩
 | succ m G=>
  intro n i b Z hn A;obtain ⟨n,rfl⟩:∃q,n=q+1:=⟨n-1,WF⟩;have o:i<e.entries.length:=WF
  have Y:=K.el;rw [Yv,if_pos (ZL o),ZQ o,wS i WF];simp only [ZEH,(W _).1]
  by_cases hq:eix e e.entries[i].cell=(i:Int)
  case neg=>
   obtain ⟨l,t,r⟩:=G n (i+1) b WF WF (A.skip o λh=>absurd h hq);refine ⟨l,t, ?_⟩;rw [decide_eq_false hq];simp only [HK,if_true,ZEH];exact r
  rw [decide_eq_true hq];simp only [Hr,ZEO,if_false,ZAx K W X,ZEH];cases P:Zfg e ps fx fr e.entries[i].cell
  ·obtain ⟨l,t,r⟩:=G n (i+1) b WF WF (A.skip o λ_=>P);refine ⟨l,t, ?_⟩;simp only [HK,if_true,ZEH];exact r
  simp only [Hr,ZEO,if_false];have B:=ZoY (f:=f) hq o
  have z:∀y:Int,(Zfg e ps fx fr y=true/\∃q:Nat,eix e y=(q:Int)/\q<i+1)->(Zfg e ps fx fr y=true/\∃q:Nat,eix e y=(q:Int)/\q<i)\/y=e.entries[i].cell:=λy ⟨a1,q,a2,a3⟩=>by
   by_cases S:q<i
   ·exact .inl ⟨a1,q,a2,S⟩
   ·obtain rfl:q=i:=by omega
    obtain ⟨_,r⟩:=ZwJ a2;exact .inr r.symm
  rcases A with ⟨t,r⟩| ⟨j,hj,t,r,M⟩
  ·subst t
   obtain ⟨l,s,p⟩:=G n (i+1) (i:Int) WF WF (.inr ⟨i,o,rfl,hq,⟨⟨P,i,hq,WF⟩,λy E=>by
    rcases z y E with ⟨a1,q,a2,a3⟩| rfl
    ·exact absurd a3 (r y a1 q a2)
    ·exact .inr ⟨rfl,WF⟩⟩⟩)
   refine ⟨l,s, ?_⟩;simp only [show decide ((-1:Int)<0)=true from rfl,if_true,ZEH];exact p
  ·subst t;have C:=ZoY (f:=f) r hj;have Q:=hf _ (Hl o);have R:=hf _ (Hl hj);rw [decide_eq_false (show ¬(j:Int)<0 from WF)];simp only [ZEO,if_false,ZEH,Q,ZQ hj,R]
   have O:∀w:Bool,(w=true↔(f e.entries[j]:Int)<f e.entries[i]\/((f e.entries[i]:Int)=f e.entries[j]/\e.entries[i].cell<e.entries[j].cell))->∃l,PS f e ps fx fr e.entries.length l/\Yv k e n ps (tb ps.length fx) (tb ps.length fr) (tb ps.length kn) (tb ps.length inp) (if w=true then (i:Int) else (j:Int)) ((i+1:Nat):Int)=some l:=λw I=>by
    cases w
    ·have I:¬((f e.entries[j]:Int)<f e.entries[i]\/((f e.entries[i]:Int)=f e.entries[j]/\e.entries[i].cell<e.entries[j].cell)):=λh=>by have:=I.2 h;cases this
     refine G n (i+1) (j:Int) WF WF (.inr ⟨j,hj,rfl,r,⟨?_,λy E=> ?_⟩⟩)
     ·obtain ⟨a1,q,a2,a3⟩:=M.mem;exact ⟨a1,q,a2,WF⟩
     ·rcases z y E with g| rfl
      ·exact M.top y g
      ·rw [B,C];omega
    ·have I:=I.1 rfl;refine G n (i+1) (i:Int) WF WF (.inr ⟨i,o,rfl,hq,⟨⟨P,i,hq,WF⟩,λy E=> ?_⟩⟩);rcases z y E with g| rfl
     ·have:=M.top y g;rw [C] at this;rw [B];omega
     ·exact .inr ⟨rfl,WF⟩
   by_cases J:(f e.entries[j]:Int)<f e.entries[i]
   ·obtain ⟨l,s,p⟩:=O true ⟨λ_=>.inl J,λ_=>rfl⟩;exact ⟨l,s,by rw [decide_eq_true J];simpa using p⟩
   ·rw [decide_eq_false J];simp only [ZEO,if_false]
    by_cases T:(f e.entries[i]:Int)=f e.entries[j]
    ·obtain ⟨l,s,p⟩:=O (decide (e.entries[i].cell<e.entries[j].cell)) (by rw [decide_eq_true_eq];omega);refine ⟨l,s, ?_⟩;rw [decide_eq_true T]
     by_cases U:e.entries[i].cell<e.entries[j].cell
     ·rw [decide_eq_true U] at p ⊢;simpa using p
     ·rw [decide_eq_false U] at p ⊢;simpa using p
    ·obtain ⟨l,s,p⟩:=O false ⟨λh=>(by cases h),λh=>WF⟩;refine ⟨l,s, ?_⟩;rw [decide_eq_false T]
     simpa using p
def PI (f:Ze->Nat) (e:Za) (ps:List Zl) (fx fr:Nat->Bool) (i:Nat) (b s:Int):Prop:=
 ((b=0/\s=0)/\∀id,Zfg e ps fx fr id=true->∀(j:Nat) (hj:j<e.notebook.cells.length),e.notebook.cells[j].id=id->¬j<i)\/
 (0<s/\s=Zxf f e b/\ZyG (Zxf f e) (λid=>Zfg e ps fx fr id=true/\∃(q:Nat) (hq:q<e.notebook.cells.length),e.notebook.cells[q].id=id/\q<i) b)
theorem ZAm (K:Kn e ps fx fr kn inp) (hn:e.notebook.cells.length<=1048576) {f:Ze->Nat} {k:Nat} (hp:∀x∈e.entries,1<=f x) (hf:∀x∈e.entries,Jr k x.value=some (f x:Int)) (e3:∀i,i<ps.length->IsF e ps fr k i/\IsS e ps fr kn inp k i) (e4:∀i,i<ps.length->∃v,ZN k ps (i:Int)=some (v,fx i)) (e5:∀id,ZX k e id=some (eix e id)/\Z6 k e id=some (eix e id)) (e6:∀id,YD k e.notebook id=some (cix e.notebook id)/\YR k e.notebook id=some (cix e.notebook id)):
  ∀(m n i:Nat) (M:List (Int×Bool)) (b s:Int),i+m=e.notebook.cells.length->m<n->Con ps.length fr M->PI f e ps fx fr i b s->∃l p,PI f e ps fx fr e.notebook.cells.length l p/\Ya k e (e,ps,[]) n M b s (i:Int)=some (l,p):=by
 intro m
 induction m with
 | zero=>
  intro n i M b s hi W _ I;obtain ⟨n,rfl⟩:∃q,n=q+1:=⟨n-1,WF⟩;obtain rfl:i=e.notebook.cells.length:=WF
  exact ⟨b,s,I,by rw [Ya,if_neg (Qg (ZEN _))]⟩
 | succ m Y=>
  intro n i M b s hi W hM I;obtain ⟨n,rfl⟩:∃q,n=q+1:=⟨n-1,WF⟩;have A:i<e.notebook.cells.length:=WF
  obtain ⟨P,c,q⟩:=ZAy K e3 e4 e5 e6 e.notebook.cells[i].id M hM;rw [Ya,if_pos (ZL A),ZQ A,wS i WF];simp only [ZEH];rw [q];simp only [ZEH]
  have E:∀y:Int,(Zfg e ps fx fr y=true/\∃(q:Nat) (hq:q<e.notebook.cells.length),e.notebook.cells[q].id=y/\q<i+1)->(Zfg e ps fx fr y=true/\∃(q:Nat) (hq:q<e.notebook.cells.length),e.notebook.cells[q].id=y/\q<i)\/y=e.notebook.cells[i].id:=λy ⟨a1,q,hq,a2,a3⟩=>by
   by_cases X:q<i
   ·exact .inl ⟨a1,q,hq,a2,X⟩
   ·obtain rfl:q=i:=by omega
    exact .inr a2.symm
  cases J:Zfg e ps fx fr e.notebook.cells[i].id
  ·simp only [HK,if_true,ZEH];refine Y n (i+1) P b s WF WF c ?_;rcases I with ⟨r,o⟩| ⟨Q,r,o⟩
   ·refine .inl ⟨r,λid O j hj hid b0=> ?_⟩
    by_cases U:j<i
    ·exact o id O j hj hid U
    ·obtain rfl:j=i:=by omega
     rw [hid,O] at J;cases J
   ·refine .inr ⟨Q,r,⟨?_,λy C=> ?_⟩⟩
    ·obtain ⟨a1,q,hq,a2,a3⟩:=o.mem;exact ⟨a1,q,hq,a2,WF⟩
    ·rcases E y C with g| rfl
     ·exact o.top y g
     ·rw [J] at C;cases C.1
  ·obtain ⟨j,hj,t⟩:=ZmO J;have B:=ZoY (f:=f) hj t;have b1:=hp _ (Hl t);simp only [Hr,ZEO,if_false,(e5 _).2,ZEH,hj,ZQ t,hf _ (Hl t)]
   have T:∀w:Bool,(w=true↔s<f e.entries[j]\/((f e.entries[j]:Int)=s/\e.notebook.cells[i].id<b))->∃l p,PI f e ps fx fr e.notebook.cells.length l p/\Ya k e (e,ps,[]) n P (if w=true then e.notebook.cells[i].id else b) (if w=true then (f e.entries[j]:Int) else s) ((i+1:Nat):Int)=some (l,p):=λw R=>by
    cases w
    ·have R:¬(s<f e.entries[j]\/((f e.entries[j]:Int)=s/\e.notebook.cells[i].id<b)):=λh=>by have:=R.2 h;cases this
     refine Y n (i+1) P b s WF WF c ?_;rcases I with ⟨⟨_,r⟩,_⟩| ⟨Q,r,o⟩
     ·omega
     ·refine .inr ⟨Q,r,⟨?_,λy C=> ?_⟩⟩
      ·obtain ⟨a1,q,hq,a2,a3⟩:=o.mem;exact ⟨a1,q,hq,a2,WF⟩
      ·rcases E y C with g| rfl
       ·exact o.top y g
       ·rw [B,<-r];omega
    ·have R:=R.1 rfl;refine Y n (i+1) P _ _ WF WF c (.inr ⟨by simp only [if_true];omega,by simp only [if_true];exact B.symm, ?_⟩);simp only [if_true];refine ⟨⟨J,i,A,rfl,WF⟩,λy C=> ?_⟩;rcases E y C with g| rfl
     ·rcases I with ⟨_,o⟩| ⟨Q,r,o⟩
      ·obtain ⟨a1,q,hq,a2,a3⟩:=g;exact absurd a3 (o y a1 q hq a2)
      ·have:=o.top y g;rw [<-r] at this;rw [B];omega
     ·exact .inr ⟨rfl,WF⟩
   by_cases S:s<f e.entries[j]
   ·obtain ⟨l,p,G,z⟩:=T true ⟨λ_=>.inl S,λ_=>rfl⟩;exact ⟨l,p,G,by rw [decide_eq_true S];simpa using z⟩
   ·rw [decide_eq_false S];simp only [ZEO,if_false]
    by_cases Z:(f e.entries[j]:Int)=s
    ·obtain ⟨l,p,G,z⟩:=T (decide (e.notebook.cells[i].id<b)) (by rw [decide_eq_true_eq];omega);refine ⟨l,p,G, ?_⟩;rw [decide_eq_true Z]
     by_cases c3:e.notebook.cells[i].id<b
     ·rw [decide_eq_true c3] at z ⊢;simpa using z
     ·rw [decide_eq_false c3] at z ⊢;simpa using z
    ·obtain ⟨l,p,G,z⟩:=T false ⟨λh=>(by cases h),λh=>WF⟩;refine ⟨l,p,G, ?_⟩;rw [decide_eq_false Z]
     simpa using z
end
theorem ZaJ (e:Za) (b:e.bk<=1048576):∃v:Za×Bool,(v.1.bk<=e.bk/\(v.2=true->ZvJ v.1<ZvJ e)/\(v.2=false->v.1=e))/\Ev λk=>Q6 k e=some v/\Qq k e=some v:=by
 obtain ⟨ps,fx,fr,kn,inp,K⟩:=Zjg e b;have b6:=e.Zz;have b9:=Ztt e.notebook;have b7:=ZE (f:=Ze.bk) (xs:=e.entries)
 obtain ⟨f,hf⟩:=YI (p:=λ(y:Ze) n=>(1<=n/\n<=y.bk+1)/\Ev λk=>Y0 k y.value=some ((n:Nat):Int)) e.entries λy z=>by
  have h1:=Z1 (f:=Ze.bk) z;have R:=y.bks;obtain ⟨n,B,C⟩:=ZlI y.value WF;exact ⟨n,⟨B.1,WF⟩,C⟩
 have hF:=Ev.all e.entries λy z=>(hf y z).2;have r:=K.ev.and hF
 have X:∀k,((Jn k e=some (Yb.mk ps (tb ps.length fx) (tb ps.length fr) (tb ps.length kn) (tb ps.length inp))/\X0 k e=some (e,ps,[])/\(∀i,i<ps.length->IsF e ps fr k i/\IsS e ps fr kn inp k i)/\(∀i,i<ps.length->∃v,ZN k ps (i:Int)=some (v,fx i))/\(∀id,ZX k e id=some (eix e id)/\Z6 k e id=some (eix e id))/\(∀id,YD k e.notebook id=some (cix e.notebook id)/\YR k e.notebook id=some (cix e.notebook id))/\2097200<=k)/\∀x∈e.entries,Y0 k x.value=some (f x:Int))->
   (∃p,PS f e ps fx fr e.entries.length p/\Yv k e k ps (tb ps.length fx) (tb ps.length fr) (tb ps.length kn) (tb ps.length inp) (-1) 0=some p)/\∃p J,PI f e ps fx fr e.notebook.cells.length p J/\Ya k e (e,ps,[]) k [] 0 0 0=some (p,J):=by
  rintro k ⟨⟨e1,e2,e3,e4,e5,e6,hk⟩,e7⟩;constructor
  ·exact ZAl K e7 e5 e6 e.entries.length k 0 (-1) WF WF (.inl ⟨rfl,λ_ _ _ _ h=>WF⟩)
  ·exact ZAm K WF (λx hx=>(hf x hx).1.1) (λx hx=>by rw [ZdS];exact e7 x hx) e3 e4 e5 e6 e.notebook.cells.length k 0 [] 0 0 WF WF Con.nil (.inl ⟨⟨rfl,rfl⟩,λ_ _ _ _ _ h=>WF⟩)
 by_cases M:∃id,Zfg e ps fx fr id=true
 ·obtain ⟨I,o⟩:=M
  have m:∀p,PS f e ps fx fr e.entries.length p->∃(j:Nat) (hj:j<e.entries.length),p=(j:Int)/\ZyG (Zxf f e) (λid=>Zfg e ps fx fr id=true) e.entries[j].cell:=by
   rintro p (⟨_,R⟩| ⟨j,hj,h1,_,B⟩)
   ·obtain ⟨q,C,A⟩:=ZmO o;exact absurd A (R I o q C)
   ·refine ⟨j,hj,h1,B.mem.1,λy z=> ?_⟩;obtain ⟨q,C,A⟩:=ZmO z;exact B.top y ⟨z,q,C,A⟩
  have w:∀p J,PI f e ps fx fr e.notebook.cells.length p J->0<J/\ZyG (Zxf f e) (λid=>Zfg e ps fx fr id=true) p:=by
   have t:∀id,Zfg e ps fx fr id=true->∃(q:Nat) (hq:q<e.notebook.cells.length),e.notebook.cells[q].id=id:=λid hc=>by
    obtain ⟨q,C,A⟩:=Zum hc;obtain ⟨h6,h7⟩:=ZqY C;exact ⟨q,h6,by simpa using h7⟩
   rintro p J (⟨_,R⟩| ⟨h0,_,B⟩)
   ·obtain ⟨q,hq,A⟩:=t I o;exact absurd hq (R I o q hq A)
   ·refine ⟨h0,B.mem.1,λy z=> ?_⟩;obtain ⟨q,hq,A⟩:=t y z;exact B.top y ⟨z,q,hq,A,hq⟩
  obtain ⟨k0,b5⟩:=r.get;obtain ⟨⟨b0,Y,_⟩,_⟩:=X k0 b5;obtain ⟨j0,b8,_,l⟩:=m b0 Y;have s:=l.mem;obtain ⟨jx,P,O⟩:=ZmO s;refine ⟨(Zok e (eix e e.entries[j0].cell).toNat,true),⟨Zq3 _ _,λ_=> ?_,λh=>by cases h⟩,(r.and (Zua e b K e.entries[j0].cell)).mono λk ⟨g,d1,d2⟩=> ?_⟩
  ·refine Zub e _ e.entries[jx] (by rw [P,Gb,ZEP O]) ?_;have:=s;unfold Zfg at this;rw [P,Gb,ZEP O] at this;simp only [ZEM] at this;exact this.1.1.2
  ·rw [if_pos s] at d1 d2;obtain ⟨⟨T,E,q1⟩,b2,S,G,q2⟩:=X k g;obtain ⟨j1,b4,rfl,U⟩:=m T E;obtain ⟨c0,W⟩:=w b2 S G;have Z:=U.one l;have b3:=W.one l;unfold Q6 Qq;rw [g.1.1,g.1.2.1];simp only [ZEH];rw [q1,q2];simp only [ZEH,decide_eq_false (show ¬(j1:Int)<0 from WF),decide_eq_false (show ¬S=0 from WF),ZEO,if_false,ZQ b4,Z,b3,d1,d2,and_self]
 ·have Q:∀id,¬Zfg e ps fx fr id=true:=λid h=>M ⟨id,h⟩;refine ⟨(e,false),⟨ZEN _,λh=>(by cases h),λ_=>rfl⟩,(r.and ((Zdp e WF).and (ZdJ e WF))).mono λk ⟨g,c1,c2⟩=> ?_⟩;obtain ⟨⟨T,E,q1⟩,b2,S,G,q2⟩:=X k g
  have r1:T= -1:=by
   rcases E with ⟨h,_⟩| ⟨j,hj,_,_,h⟩
   ·exact h
   ·exact absurd h.mem.1 (Q _)
  have r2:S=0:=by
   rcases G with ⟨⟨_,h⟩,_⟩| ⟨_,_,h⟩
   ·exact h
   ·exact absurd h.mem.1 (Q _)
  subst r1;subst r2;unfold Q6 Qq;rw [g.1.1,g.1.2.1];simp only [ZEH];rw [q1,q2];simp only [ZEH,show decide ((-1:Int)<0)=true from rfl,if_true,decide_true,c1,c2,and_self]
theorem Zic (e:Za) (l:ZcJ e.c) (b:e.bk<=1048576):∃v,v.1.bk<=1073741824/\Ev λk=>Q6 k e=some v/\Qq k e=some v:=by
 obtain ⟨v,m,j⟩:=ZaJ e b;exact ⟨v,WF,j⟩
end Go.Proofs.YtmcfegjoccgpoaaGreatDoor
