import Derived.Test.YtmcfegjoccgpoaaGreatDoorZMy
set_option linter.unusedSimpArgs false
set_option linter.unusedVariables false
namespace Go.Proofs.YtmcfegjoccgpoaaGreatDoor.Am
open Go.RowKit
def ZDa:List ResultVar->Bool
 | [.tmp 4]=>true
 | _=>false
def okS (P:Program) (f:Nat) (C:Cf) (B:Program->Cf->Code->Bool):Bool:=match P.funcs[f]? with
 | some fn=>match fn.body with
  | some c=>Y9 P f&&ZDa fn.results.toList&&decide (fn.ntmps=C.nt)&&decide (5<=C.nt)&&decide (C.W=C.ks.length\/C.live=false)&&B P C c
  | none=>false
 | none=>false
section
variable {P:Program} {f:Nat} {C:Cf} {B:Program->Cf->Code->Bool}
theorem ZhM (h:okS P f C B=true):Y9 P f=true/\∃fn c,P.funcs[f]? =some fn/\fn.body=some c/\fn.results= #[.tmp 4]/\fn.ntmps=C.nt/\5<=C.nt/\(C.W=C.ks.length\/C.live=false)/\B P C c=true:=by
 unfold okS at h
 split at h
 ·rename_i fn hf
  split at h
  ·rename_i c hc;simp only [ZEM,decide_eq_true_eq] at h;obtain ⟨⟨⟨⟨⟨l,j⟩,m⟩,o⟩,p⟩,r⟩:=h;refine ⟨l,fn,c,hf,hc, ?_,m,o,p,r⟩;unfold ZDa at j
   split at j
   ·rename_i s;rw [<-Array.toArray_toList (xs:=fn.results),s]
   ·cases j
  ·cases h
 ·cases h
def elC (X:Nat->List (List L)->Prop):Nat->List (Nat×MK)->List L->Prop
 | _,[],[]=>True
 | i,p::j,x::l=>p.1=i/\Ze4 X p.2 x/\elC X (i+1) j l
 | _,_,_=>False
theorem elC.out {X:Nat->List (List L)->Prop}:∀{j:List (Nat×MK)} {xs:List L} {m:Nat},elC X m j xs->xs.length=j.length/\∀(i o:Nat) (k:MK),j[i]? =some (o,k)->o=m+i/\∃x:L,xs[i]? =some x/\Ze4 X k x
 | [],[],_,_=>⟨rfl,λi o k h=>by simp at h⟩
 | [],_::_,_,h=>h.elim
 | _::_,[],_,h=>h.elim
 | p::j,x::xs,m,h=>by
  obtain ⟨t,w,A⟩:=h;obtain ⟨r,s⟩:=A.out;refine ⟨by simp [r],λi o k l=> ?_⟩;cases i with
  | zero=>
   simp only [List.getElem?_cons_zero,ZEK] at l;subst l;exact ⟨t,x,rfl,w⟩
  | succ i=>
   obtain ⟨G,E⟩:=s i o k (by simpa using l);exact ⟨WF,by simpa using E⟩
theorem elC.el {X:Nat->List (List L)->Prop} {e:List L} (h:elC X 0 C.ks e):Zt7 X C e:=
 ⟨h.out.1,λi o k j=>by have:=h.out.2 i o k j;rwa [HH] at this⟩
section
variable {α:Type} {c:α->List L}
theorem Jo (h:okS P f C Zm9=true) (hl:C.held=false/\C.live=true) (hm:MTx P C.mt) (s:∀x,elC (MOk P) 0 C.ks (c x)) (xs:List α):MOk P f (xs.map c):=by
 obtain ⟨_,fn,b,j,l,m,o,w,p,r⟩:=ZhM h;refine Zln j l m o WF r hl.1 (p.resolve_right (by simp [hl.2])) hm λe t=> ?_;obtain ⟨x,_,rfl⟩:=Hd.1 t;exact (s x).el
theorem Js (h:okS P f C Zm9=true) (hl:C.held=true/\C.live=true) (hm:MTx P C.mt) (s:∀x,elC (HOk P) 0 C.ks (c x)) (xs:List α):HOk P f (xs.map c):=by
 obtain ⟨_,fn,b,j,l,m,o,w,p,r⟩:=ZhM h;refine Zlu j l m o WF r hl.1 (p.resolve_right (by simp [hl.2])) hm λe t=> ?_;obtain ⟨x,_,rfl⟩:=Hd.1 t;exact (s x).el
theorem Zvr {sub:α->List α} (ind:∀p:α->Prop,(∀x,(∀y∈sub x,p y)->p x)->∀x,p x) (h:okS P f C Zm9=true) (hl:C.held=false/\C.live=true) (hm:MTx P C.mt) (w:∀x,MOk P f ((sub x).map c)->elC (MOk P) 0 C.ks (c x)) (xs:List α):MOk P f (xs.map c):=by
 obtain ⟨_,fn,b,l,m,o,r,I,s,t⟩:=ZhM h
 have j:∀x,elC (MOk P) 0 C.ks (c x):=ind _ λx G=>w x (Zln l m o r WF t hl.1 (s.resolve_right (by simp [hl.2])) hm λe A=>by
  obtain ⟨y,E,rfl⟩:=Hd.1 A;exact (G y E).el)
 exact Jo h hl hm j xs
theorem ZvI {sub:α->List α} (ind:∀p:α->Prop,(∀x,(∀y∈sub x,p y)->p x)->∀x,p x) (h:okS P f C Zm9=true) (hl:C.held=true/\C.live=true) (hm:MTx P C.mt) (w:∀x,HOk P f ((sub x).map c)->elC (HOk P) 0 C.ks (c x)) (xs:List α):HOk P f (xs.map c):=by
 obtain ⟨_,fn,b,l,m,o,r,I,s,t⟩:=ZhM h
 have j:∀x,elC (HOk P) 0 C.ks (c x):=ind _ λx G=>w x (Zlu l m o r WF t hl.1 (s.resolve_right (by simp [hl.2])) hm λe A=>by
  obtain ⟨y,E,rfl⟩:=Hd.1 A;exact (G y E).el)
 exact Js h hl hm j xs
end
def vC (X:Nat->List (List L)->Prop) (Y:Nat->List L->Prop) (C:Cf) (cs:List L):Nat->List (Nat×MK)->Prop
 | _,[]=>True
 | i,p::j=>(match p.2 with
  | .call f n g=>p.1+n<=cs.length/\qwR (cs.take (stV C cs (i+1)))=qwR (cs.take (p.1+n))/\(∀k,vmk C cs k (i+1)=qvR (cs.take (p.1+n)) k++cs.drop (p.1+n))/\(if g then Y f (cut cs p.1 n) else n=1/\match cut cs p.1 n with
   | [.sl l]=>X f l
   | _=>False)
  | _=>False)/\vC X Y C cs (i+1) j
theorem vC.out {X:Nat->List (List L)->Prop} {Y:Nat->List L->Prop} {cs:List L}:∀{p:List (Nat×MK)} {m:Nat},vC X Y C cs m p->∀(i o:Nat) (k:MK),p[i]? =some (o,k)->∃f n g,k= .call f n g/\o+n<=cs.length/\qwR (cs.take (stV C cs (m+i+1)))=qwR (cs.take (o+n))/\(∀k,vmk C cs k (m+i+1)=qvR (cs.take (o+n)) k++cs.drop (o+n))/\(g=true->Y f (cut cs o n))/\(g=false->n=1/\∃ys,cut cs o n=[.sl ys]/\X f ys)
 | [],_,_,i,o,k,j=>by simp at j
 | (M,J)::p,m,h,i,o,k,j=>by
  obtain ⟨s,G⟩:=h;cases i with
  | succ i=>
   have:=G.out i o k (by simpa using j)
   rwa [show m+1+i+1=m+(i+1)+1 from WF] at this
  | zero=>
   simp only [List.getElem?_cons_zero,ZEK,ZEL] at j;obtain ⟨rfl,rfl⟩:=j;cases J<;>first | exact s.elim| skip
   rename_i f n g;obtain ⟨t,w,A,r⟩:=s;refine ⟨f,n,g,rfl,t,w,A,λe=> ?_,λe=> ?_⟩
   ·subst e;exact r
   ·subst e;obtain ⟨E,l⟩:n=1/\_:=r;refine ⟨E, ?_⟩
    split at l
    ·rename_i ys I;exact ⟨ys,I,l⟩
    ·exact l.elim
theorem vC.ok {X:Nat->List (List L)->Prop} {Y:Nat->List L->Prop} {cs:List L} (s:qwR (cs.take (stV C cs 0))=0) (h:vC X Y C cs 0 C.ks):vOk X Y C cs:=by
 refine ⟨s,λi o k j=> ?_,λi o f n g j=> ?_⟩
 ·obtain ⟨f,n,g,rfl,_⟩:=h.out i o k j;rfl
 ·obtain ⟨E,I,G,e,t,l,_,w,A⟩:=h.out i o _ j;injection e with m p r
  subst m p r;rw [HH] at l;exact ⟨t,l,w,A⟩
theorem Ztz (h:okS P f C Zk4=true) (hl:C.held=false/\C.live=false) (hm:MTx P C.mt) {cs:List L} (G:qwR (cs.take (stV C cs 0))=0) (I:∀k,vmk C cs k 0=cs) (j:vC (MOk P) (ZwU P) C cs 0 C.ks):ZwU P f cs:=by
 obtain ⟨_,fn,b,r,s,t,w,A,S,E⟩:=ZhM h;refine Zps r s t w A E hl.1 hl.2 hm (j.ok G) I λk i o f n g M=> ?_;obtain ⟨Q,T,R,e,_,_,J,_⟩:=j.out i o _ M;injection e with l m p
 subst l m p;have:=J k
 rwa [HH] at this
theorem Zt0 (h:okS P f C Zk4=true) (hl:C.live=false) (hm:MTx P C.mt) {cs:List L} (s:qwR (cs.take (stV C cs 0))=0) (t:vC (HOk P) (ZwV P) C cs 0 C.ks):ZwV P f cs:=by
 obtain ⟨_,fn,b,j,l,m,o,p,w,r⟩:=ZhM h;exact ZpK j l m o p r hl hm (t.ok s)
end
def hd? (k:Int) (c:Nat):Option Int:=if 0<=k/\k+c<=1099511627776 then some (k+c) else none
theorem VM {k:Int} {c:Nat} {z:Int} (h:hd? k c=some z):z=k+c/\0<=k/\k+c<=1099511627776:=by
 unfold hd? at h
 split at h
 ·obtain rfl:=ZEI h;exact ⟨rfl,by assumption⟩
 ·cases h
theorem ZkV {k:Int} {c:Nat} (h:0<=k) (j:k+c<=1099511627776):hd? k c=some (k+c):=by unfold hd?;rw [if_pos ⟨h,j⟩]
def qsl {α:Type} (c:α->List L) (xs:List α) (k:Int):List (List L):=qmE (xs.map c) k
def qs {α:Type} (c:α->List L) (x:α) (k:Int) (i:Nat):List (List L):=match (qvR (c x) k)[i]? with
 | some (.sl es)=>es
 | _=>[]
theorem Zth {α:Type} (c:α->List L) (xs:List α) (k:Int):(qsl c xs k).length=xs.length:=by simp [qsl,KJ]
section
variable {P:Program} {f n:Nat} {k z:Int}
theorem Zt1 (h:hd? k n=some z):InK .i64 z:=by
 obtain ⟨j,l,m⟩:=VM h;unfold InK;simp [IntKind.wrap,IntKind.bits,IntKind.signed];omega
theorem ZzW {ys:List (List L)} (ok:Y9 P f=true) (h:MOk P f ys) (j:hd? k (qnE ys)=some z):ZyD P f (.one (.sl ys)) k (.one (.sl (qmE ys k))) z:=by
 obtain ⟨o,p,r⟩:=VM j;refine ⟨ok,λw v F t s hp=>(h w v F k t s hp p r).mono ?_⟩;rintro e A ⟨rfl,l,_,m⟩;exact ⟨by rw [o],Zt1 j,l,m⟩
theorem ZzV {cs:List L} (ok:Y9 P f=true) (h:ZwU P f cs) (l:hd? k (qwR cs)=some z):ZyD P f (.agg cs) k (.agg (qvR cs k)) z:=by
 obtain ⟨r,s,t⟩:=VM l;refine ⟨ok,λw v F j A hp=> ?_⟩;obtain ⟨m,rfl,j⟩:=j;refine (h w m F k j A hp s t).mono ?_;rintro e E ⟨rfl,o,_,p⟩;exact ⟨by rw [r],Zt1 l,⟨m,rfl,o⟩,p⟩
theorem Zq2 {w:World} {a b:DV} {vs:List Value} {F:List Nat} (h:Yu w [a,b] vs F):∃u v j l,vs=[u,v]/\Zad w a u j/\Zad w b v l:=by
 simp only [Yu] at h;obtain ⟨u,_,j,_,rfl,rfl,m,v,_,l,_,rfl,rfl,o,rfl,rfl⟩:=h;exact ⟨u,v,j,l,rfl,m,o⟩
theorem ZqV {N:Nat->Prop} {w:World} {j:List Nat} {n:Nat} (l:hd? k n=some z):ZdC true N w j [.one (.int .i64 z)] [.int .i64 z]:=by
 simp only [ZdC,if_true,ZeG,Zr3,Ow];exact ⟨[],⟨_,[],[],[],rfl,rfl,⟨rfl,rfl,Zt1 l⟩,rfl,rfl⟩,List.nodup_nil⟩
theorem Zz6 {ys:List (List L)} (ok:Y9 P f=true) (h:HOk P f ys) (m:hd? k (qnE ys)=some z):Ctr P f [.one (.sl (qmE ys k)),.one (.int .i64 k)] true [.one (.int .i64 z)]:=by
 obtain ⟨p,r,s⟩:=VM m;refine ⟨ok,λw I G _ A=> ?_⟩;obtain ⟨u,v,o,E,rfl,j,l⟩:=Zq2 A;simp only [Zad,Rp] at j l;obtain ⟨rfl,_⟩:=l;refine (h w u o k (by simp only [Rp];exact j) r s).mono ?_;rintro e J ⟨rfl,t⟩;exact ⟨[_],rfl,by rw [<-p];exact ZqV m,t⟩
theorem Zz5 {cs:List L} (ok:Y9 P f=true) (h:ZwV P f cs) (m:hd? k (qwR cs)=some z):Ctr P f [.agg (qvR cs k),.one (.int .i64 k)] true [.one (.int .i64 z)]:=by
 obtain ⟨p,r,s⟩:=VM m;refine ⟨ok,λw J I _ A=> ?_⟩;obtain ⟨u,v,o,G,rfl,j,l⟩:=Zq2 A;obtain ⟨E,rfl,j⟩:=j;simp only [Zad,Rp] at l;obtain ⟨rfl,_⟩:=l;refine (h w E o k j r s).mono ?_;rintro e M ⟨rfl,t⟩;exact ⟨[_],rfl,by rw [<-p];exact ZqV m,t⟩
end
theorem Zi1 {α:Type} {c:α->List L} {f:α->Nat} {C:Nat}:∀{xs:List α},(∀x∈xs,qnR (c x)<=C*(1+f x))->qnE (xs.map c)<=C*bkS f xs
 | [],_=>by simp [qnE]
 | x::xs,h=>by
  have m:=h x (GL ..);have j:=Zi1 λy l=>h y (Hz _ l);simp only [Hi,qnE,bkS,ZU,HL,HV] at j ⊢;rw [show xs.length+1+(f x+(xs.map f).sum)=(1+f x)+(xs.length+(xs.map f).sum) from WF,Nat.mul_add];omega
section
variable {P:Program} {ops:Array Oper} {post:List Oper} {O:St} {K:St->Prop}
def ZDt (P:Program) (f:Nat) (m:DV) (k:Int) (X:DV->Int->Prop):Prop:=∃j l,ZyD P f m k j l/\X j l
theorem ZkY {f:Nat} {d d0 j:DV} {k m l:Int} {X:DV->Int->Prop} (h:ZyD P f d k j l) (hd:d0=d) (o:m=k) (p:X j l):ZDt P f d0 m X:=⟨j,l,hd▸o▸h,p⟩
theorem ZuT {d f:Nat} {x:V} {k:Int} {l:DV} {τs:List Nat} {p:Prop}:wOp P ops post O K d f x k (some (l,τs,p))=(p/\τs.Nodup/\d<O.nt/\ZDt P f l k λj m=>ZCJ O τs (Zsu x j)/\Z9 P ops post (ZoM O d m (Zsu x j)) K):=rfl
theorem ZsG {d f:Nat} {x:V} {k:Int}:ZuV P ops post O K d f (some [x,.one (.l (.int .i64 k))])=wOp P ops post O K d f x k (wrV O x):=rfl
theorem Zrw {d f:Nat} {xs:Array Operand} {l:Array TypeId} {ty:Nat} {pos:String} {j:Array Edge}:ZuU P ops O K (⟨some d,.call { callee:=.value (.func f),args:=xs,argTypes:=l},ty,pos,j,none⟩::post)=ZuV P ops post O K d f (Xs O xs.toList):=rfl
end
def Zp5 {α:Type} (τs:List Nat):List (Nat×α)->Prop
 | []=>True
 | p::j=>p.1∈τs/\Zp5 τs j
theorem Zuz {α:Type} (τs:List Nat):Zp5 (α:=α) τs []=True:=rfl
theorem ZlH {α:Type} (τs:List Nat) (p:Nat×α) (j:List (Nat×α)):Zp5 τs (p::j)=(p.1∈τs/\Zp5 τs j):=rfl
theorem ZoE {α:Type} (τs:List Nat):∀j:List (Nat×α),Zp5 τs j↔∀p∈j,p.1∈τs
 | []=>by simp [Zp5]
 | p::j=>by rw [ZlH,ZoE τs j];simp
def ZDn (O:St) (m:List (Nat×List (List L))) (τ:Nat):Prop:=∃A es,O.ar.lookup τ=some (some A)/\m.lookup τ=some es/\A.es.length=es.length
def Zyz (p:Nat->Prop):List Nat->Prop
 | []=>True
 | x::j=>p x/\Zyz p j
theorem Zv5 (p:Nat->Prop):Zyz p []=True:=rfl
theorem ZoF (p:Nat->Prop) (x:Nat) (xs:List Nat):Zyz p (x::xs)=(p x/\Zyz p xs):=rfl
theorem Zrn (p:Nat->Prop):∀xs:List Nat,Zyz p xs↔∀x∈xs,p x
 | []=>by simp [Zyz]
 | x::xs=>by rw [ZoF,Zrn p xs];simp
theorem Zyn (O:St) (τs:List Nat) (m:List (Nat×List (List L))):ZCJ O τs m=(Zyz (ZDn O m) τs/\Zp5 τs m):=by
 rw [Zrn,ZoE];rfl
attribute [go_sem] ZuT ZsG Zrw wrV wrL wrC Zsu Zsv mkV mkC St.wrote ZoM Zyn Zv5 ZoF Zuz ZlH ZDn
end Go.Proofs.YtmcfegjoccgpoaaGreatDoor.Am
