import Derived.Test.YtmcfegjoccgpoaaGreatDoorZJ7
set_option linter.unusedSimpArgs false
set_option linter.unusedVariables false
namespace Go.Proofs.YtmcfegjoccgpoaaGreatDoor
theorem Zuw:∀{a b:List Int},a.Pairwise (· < ·)->b.Pairwise (· < ·)->(∀x,x∈a↔x∈b)->a=b
 | [],[],_,_,_=>rfl
 | [],y::b,_,_,h=>absurd ((h y).2 Ha) Ha
 | x::a,[],_,_,h=>absurd ((h x).1 Ha) Ha
 | x::a,y::b,t,w,h=>by
  obtain ⟨j,o⟩:=GA.1 t;obtain ⟨k,r⟩:=GA.1 w
  have s:x=y:=by
   rcases Hc.1 ((h x).1 Ha) with e| e
   ·exact e
   ·rcases Hc.1 ((h y).2 Ha) with m| m
    ·exact m.symm
    ·have A:=k x e;have B:=j y m;omega
  subst s;rw [Zuw o r λz=>⟨λl=> ?_,λl=> ?_⟩]
  ·rcases Hc.1 ((h z).1 (Hz _ l)) with e| e
   ·subst e;exact absurd (j z l) WF
   ·exact e
  ·rcases Hc.1 ((h z).2 (Hz _ l)) with e| e
   ·subst e;exact absurd (k z l) WF
   ·exact e
def ZtT (x:Int):List Int->List Int
 | []=>[x]
 | y::l=>if x<y then x::y::l else if x=y then y::l else y::ZtT x l
theorem Zmw {x z:Int}:∀{l:List Int},z∈ZtT x l↔z=x\/z∈l
 | []=>by simp [ZtT]
 | y::l=>by
  simp only [ZtT]
  split
  ·simp
  ·split
   ·rename_i h;subst h;simp
   ·simp only [Hc,Zmw (l:=l)];constructor
    ·rintro (h| h| h)<;>simp [h]
    ·rintro (h| h| h)<;>simp [h]
theorem ZqQ {x:Int}:∀{l:List Int},l.Pairwise (· < ·)->(ZtT x l).Pairwise (· < ·)
 | [],_=>by simp [ZtT]
 | y::l,h=>by
  obtain ⟨k,m⟩:=GA.1 h;simp only [ZtT]
  split
  ·rename_i o;refine GA.2 ⟨λz j=> ?_,h⟩;rcases Hc.1 j with rfl| j
   ·exact o
   ·have:=k z j;omega
  ·split
   ·exact h
   ·refine GA.2 ⟨λz j=> ?_,ZqQ m⟩;rcases Zmw.1 j with rfl| j
    ·omega
    ·exact k z j
def ZrB (xs:List Int):List Int:=xs.foldl (λs x=>ZtT x s) []
theorem ZjD:∀(xs s:List Int),s.Pairwise (· < ·)->(xs.foldl (λs x=>ZtT x s) s).Pairwise (· < ·)/\∀z,z∈xs.foldl (λs x=>ZtT x s) s↔z∈xs\/z∈s
 | [],s,h=>⟨h,λz=>Ha⟩
 | x::xs,s,h=>by
  obtain ⟨j,k⟩:=ZjD xs (ZtT x s) (ZqQ h);refine ⟨j,λz=> ?_⟩;rw [List.foldl_cons,k,Zmw,Hc];constructor
  ·rintro (h| h| h)<;>simp [h]
  ·rintro ((h| h)| h)<;>simp [h]
theorem Zi9 (xs:List Int):(ZrB xs).Pairwise (· < ·):=(ZjD xs [] List.Pairwise.nil).1
theorem Zgb {xs:List Int} {z:Int}:z∈ZrB xs↔z∈xs:=by
 have:=(ZjD xs [] List.Pairwise.nil).2 z;simp only [HS,or_false] at this;exact this
theorem Zs4 {xs r:List Int} (h:r.Pairwise (· < ·)) (hm:∀z,z∈r↔z∈xs):r=ZrB xs:=Zuw h (Zi9 xs) λz=>by rw [hm,Zgb]
theorem ZbG {l:List Int} (h:l.Pairwise (· < ·)):l.Nodup:=h.imp λh=>WF
theorem Zpn:∀{n:Nat} {l:List Nat},l.Nodup->(∀x∈l,x<n)->l.length<=n
 | 0,l,_,j=>by
  cases l with
  | nil=>simp
  | cons x l=>exact absurd (j x Ha) WF
 | n+1,l,m,j=>by
  by_cases h:n∈l
  ·have o:=Zpn (m.erase n) (n:=n) λx k=>by
    obtain ⟨s,r⟩:=(List.Nodup.mem_erase_iff m).1 k;have:=j x r;omega
   rw [List.length_erase_of_mem h] at o;omega
  ·have:=Zpn m (n:=n) λx k=>by
    have:=j x k;have:x≠n:=λe=>h (e▸k);omega
   omega
theorem XA {n:Nat}:∀{l:List Int},l.Nodup->(∀x∈l,0<=x/\x<n)->l.length<=n:=by
 intro l t j
 have o:(l.map Int.toNat).Nodup:=by
  rw [List.Nodup,List.pairwise_map];exact (List.Pairwise.imp_of_mem (λ{a b} s k m e=>m (by have:=j a s;have:=j b k;omega)) t)
 have r:=Zpn o λx w=>by
  obtain ⟨y,z,rfl⟩:=Hd.1 w;have:=j y z;show y.toNat<n;omega
 simpa using r
inductive Reach (U:Int->List Int) (i:Int):Int->Prop where
 | one {j:Int} (h:j∈U i):Reach U i j
 | more {j k:Int} (h:Reach U i j) (hk:k∈U j):Reach U i k
theorem ZiU {U:Int->List Int} {i:Int} {l:List Int} (j:∀x∈U i,x∈l) (k:∀y∈l,∀x∈U y,x∈l) (m:∀x∈l,Reach U i x) (z:Int):z∈l↔Reach U i z:=
 ⟨m z,λh=>by induction h with
  | one h=>exact j _ h
  | more _ h o=>exact k _ o _ h⟩
def iter (f:Int->Int):Nat->Int->Int
 | 0,x=>x
 | n+1,x=>f (iter f n x)
theorem Zlp {U:Int->List Int} {f:Int->Int} {S:Int->Prop} (hf:∀x,S x->f x∈U x/\S (f x)) {x:Int} (k:S x):∀n,S (iter f n x)/\∀m,m<n->Reach U (iter f m x) (iter f n x)
 | 0=>⟨k,λm h=>absurd h WF⟩
 | n+1=>by
  obtain ⟨j,l⟩:=Zlp hf k n;refine ⟨(hf _ j).2,λm o=> ?_⟩
  by_cases e:m=n
  ·subst e;exact .one (hf _ j).1
  ·exact .more (l m WF) (hf _ j).1
theorem ZvW {U:Int->List Int} {n:Nat} {S:Int->Prop} (t:∀x,S x->0<=x/\x<n) (r:∃x,S x) (j:∀x,S x->∃y,y∈U x/\S y):∃x,S x/\Reach U x x:=by
 obtain ⟨x,l⟩:=r
 classical
 have o:∃f:Int->Int,∀x,S x->f x∈U x/\S (f x):=by
  refine ⟨λx=>if h:S x then (j x h).choose else 0,λx l=> ?_⟩;simp only [dif_pos l];exact (j x l).choose_spec
 obtain ⟨f,hf⟩:=o;have hit:=Zlp (U:=U) hf l
 have:¬((List.range (n+1)).map λm=>iter f m x).Nodup:=λw=>by
  have:=XA w (n:=n) λy z=>by
   obtain ⟨m,_,rfl⟩:=Hd.1 z;exact t _ (hit m).1
  simp at this;omega
 have hp:∃a b,a<b/\iter f a x=iter f b x:=by
  refine Classical.byContradiction λs=>this ?_;rw [List.Nodup,List.pairwise_map];refine List.Pairwise.imp_of_mem (λ{a b} _ _ k e=>s ⟨a,b,k,e⟩) List.pairwise_lt_range
 obtain ⟨a,b,k,e⟩:=hp;exact ⟨iter f b x,(hit b).1,e▸(hit b).2 a k⟩
open Go.RowKit Am
def Tot {α:Type} (p:α->Prop) (f:Nat->Option α):Prop:=∃v,p v/\Ev λk=>f k=some v
section
variable {α β γ ε O:Type} {p:α->Prop} {q:β->Prop}
theorem Tot.ret {v:α} (h:p v):Tot p λ_=>some v:=⟨v,h,Ev.of λ_=>rfl⟩
theorem Tot.mono {j:α->Prop} {f:Nat->Option α} (h:Tot p f) (g:∀v,p v->j v):Tot j f:=by obtain ⟨v,k,l⟩:=h;exact ⟨v,g v k,l⟩
theorem Tot.bind {f:Nat->Option α} {g:Nat->α->Option β} (h:Tot p f) (t:∀v,p v->Tot q λk=>g k v):Tot q λk=>(f k).bind (g k):=by
 obtain ⟨v,m,o⟩:=h;obtain ⟨u,r,s⟩:=t v m;exact ⟨u,r,(o.and s).mono λk ⟨j,l⟩=>by simp only [j,ZEH,l]⟩
theorem Tot.ite {b:Prop} [Decidable b] {f g:Nat->Option β} (j:b->Tot q f) (l:¬b->Tot q g):Tot q λk=>if b then f k else g k:=by
 by_cases h:b
 ·simp only [if_pos h];exact j h
 ·simp only [if_neg h];exact l h
theorem Tot.of {f:Option α} {v:α} (e:f=some v) (h:p v):Tot p λ_=>f:=⟨v,h,Ev.of λ_=>e⟩
theorem Tot.at {xs:List α} {i:Int} (j:0<=i) (k:i<xs.length) (h:∀x,xs[i.toNat]? =some x->x∈xs->p x):Tot p λ_=>at? xs i:=by
 have hl:i.toNat<xs.length:=WF
 refine .of (v:=xs[i.toNat]) ?_ (h _ (ZEP hl) (Hl hl));unfold at?;rw [if_pos j,ZEP hl]
theorem Tot.bindAt {xs:List α} {i:Int} {g:Nat->α->Option β} (l:0<=i) (o:i<xs.length) (h:∀x,xs[i.toNat]? =some x->x∈xs->Tot q λk=>g k x):Tot q λk=>(at? xs i).bind (g k):=
 Tot.bind (p:=λx=>xs[i.toNat]? =some x/\x∈xs) (Tot.at l o λx e m=>⟨e,m⟩) λx j=>h x j.1 j.2
theorem Tot.bindApp {b:Nat} {xs ys:List α} {g:Nat->List α->Option β} (l:b<=128) (j:xs.length+ys.length<=1099511627776) (h:Tot q λk=>g k (xs++ys)):Tot q λk=>(YJ b xs ys).bind (g k):=by
 simp only [Wa j l,ZEH];exact h
def ZmU (Inv:O->Prop) (Post:ε->Prop) (U:Nat->Nat->O->Option ε) (f:Nat->Nat->Option ε):Prop:=
 (∃s,Inv s/\Ev λk=>∀m,f k m=U k m s)\/∃r,Post r/\Ev λk=>∀m,f k m=some r
variable {Inv:O->Prop} {Post:ε->Prop} {U:Nat->Nat->O->Option ε}
theorem ZmU.bind {f:Nat->Option α} {g:Nat->Nat->α->Option ε} (h:Tot p f) (A:∀v,p v->ZmU Inv Post U λk m=>g k m v):ZmU Inv Post U λk m=>(f k).bind (g k m):=by
 obtain ⟨v,z,w⟩:=h;rcases A v z with ⟨s,o,t⟩| ⟨r,o,t⟩
 ·exact .inl ⟨s,o,(w.and t).mono λk ⟨j,l⟩ m=>by simp only [j,ZEH,l]⟩
 ·exact .inr ⟨r,o,(w.and t).mono λk ⟨j,l⟩ m=>by simp only [j,ZEH,l]⟩
theorem ZmU.ite {b:Prop} [Decidable b] {f g:Nat->Nat->Option ε} (j:b->ZmU Inv Post U f) (l:¬b->ZmU Inv Post U g):ZmU Inv Post U λk m=>if b then f k m else g k m:=by
 by_cases h:b
 ·simp only [if_pos h];exact j h
 ·simp only [if_neg h];exact l h
theorem ZmU.ret {r:ε} (h:Post r):ZmU Inv Post U λ_ _=>some r:=.inr ⟨r,h,Ev.of λ_ _=>rfl⟩
theorem ZmU.next {s:O} (h:Inv s):ZmU Inv Post U λk m=>U k m s:=.inl ⟨s,h,Ev.of λ_ _=>rfl⟩
theorem ZmU.bindApp {b:Nat} {xs ys:List α} {g:Nat->Nat->List α->Option ε} (l:b<=128) (j:xs.length+ys.length<=1099511627776) (h:ZmU Inv Post U λk m=>g k m (xs++ys)):ZmU Inv Post U λk m=>(YJ b xs ys).bind (g k m):=by
 simp only [Wa j l,ZEH];exact h
theorem Tot.loop (U:Nat->Nat->O->Option ε) (Inv:O->Prop) (o:O->Nat) {Post:ε->Prop} {s0:O} (C:Inv s0)
  (step:∀s,Inv s->ZmU (λw=>Inv w/\o w<o s) Post U λk m=>U k (m+1) s):Tot Post λk=>U k k s0:=by
 have z:∀n s,o s=n->Inv s->∃r,Post r/\Ev λk=>∀j,o s<j->U k j s=some r:=by
  intro n
  induction n using Nat.strongRecOn with
  | _ n M=>
   intro s Q J;rcases step s J with ⟨w,⟨l,t⟩,E⟩| ⟨r,l,t⟩
   ·obtain ⟨r,G,I⟩:=M _ WF w rfl l;refine ⟨r,G,(E.and I).mono λk ⟨A,B⟩ j hj=> ?_⟩;obtain ⟨j,rfl⟩:∃i,j=i+1:=⟨j-1,WF⟩;exact (A j).trans (B j WF)
   ·refine ⟨r,l,t.mono λk e j hj=> ?_⟩;obtain ⟨j,rfl⟩:∃i,j=i+1:=⟨j-1,WF⟩;exact e j
 obtain ⟨r,l,t⟩:=z _ s0 rfl C;exact ⟨r,l,(t.and (Ev.ge (o s0+1))).mono λk ⟨e,P⟩=>e k WF⟩
end
theorem ZmU.next2 {A B ε:Type} {Inv:A×B->Prop} {Post:ε->Prop} {U:Nat->Nat->A×B->Option ε} {a:A} {b:B} (h:Inv (a,b)):ZmU Inv Post U λk m=>U k m (a,b):=.next h
theorem ZmU.next3 {A B C ε:Type} {Inv:A×B×C->Prop} {Post:ε->Prop} {U:Nat->Nat->A×B×C->Option ε} {a:A} {b:B} {c:C} (h:Inv (a,b,c)):ZmU Inv Post U λk m=>U k m (a,b,c):=.next h
theorem QH (s:Ma):s.data.toList.length=s.size:=Ha
theorem U5 (a lo hi:Int):JX a lo hi=some (decide (lo<=a)&&decide (a<=hi)):=by
 unfold JX;cases decide (lo<=a)<;>simp
theorem ZaM (a lo hi:Int):Ww a lo hi=some (decide (lo<=a)&&decide (a<=hi)):=by
 unfold Ww;cases decide (lo<=a)<;>simp
theorem Ztr (n:Int):Qa n=some (decide (-1000000000<=n)&&decide (n<=1000000000)):=by
 unfold Qa;simp only [U5,ZEH]
theorem Zpl (n:Int):Wm n=some (decide (-1000000000<=n)&&decide (n<=1000000000)):=by
 unfold Wm;simp only [ZaM,ZEH]
def Zm3 (c:UInt8):Bool:=decide (97<=(c.toNat:Int))&&decide ((c.toNat:Int)<=122)
def ZoJ (c:UInt8):Bool:=decide (48<=(c.toNat:Int))&&decide ((c.toNat:Int)<=57)
def Zkn (i:Nat) (c:UInt8):Bool:=!Zm3 c&&(decide (i=0)||!ZoJ c)
theorem Zu6 (s:Ma) (o:(s.size:Int)<=9223372036854775807) {k:Nat} (m:s.size<k):Zdk k s=some (!(anyI Zkn 0 s.data.toList)&&decide (0<(s.size:Int))):=by
 unfold Zdk
 rw [Ko s.data.toList Zkn (λi c=>(if (decide (97<=(c.toNat:Int)))=true then some (decide ((c.toNat:Int)<=122)) else some false:Option Bool).bind λr=>(if (decide (48<=(c.toNat:Int)))=true then some (decide ((c.toNat:Int)<=57)) else some false:Option Bool).bind λt=>
     (if (!r)=true then if (decide (i=0))=true then some true else some (!t) else some false:Option Bool)) false () (V0 s) (λj hj=> ?_) (λn i=> ?_) (by rw [QH];exact o) (by rw [QH];exact m)]
 ·cases anyI Zkn 0 s.data.toList<;>simp
 ·unfold Zkn Zm3 ZoJ;cases decide (97<=((s.data.toList[j]).toNat:Int))<;>cases decide (((s.data.toList[j]).toNat:Int)<=122)<;>cases decide (48<=((s.data.toList[j]).toNat:Int))<;>by_cases l:j=0<;>simp [l]
 ·rw [V0,QH];cases at? s.data.toList i with
  | none=>rfl
  | some c=>simp only [ZEH,HB]
theorem ZwX (s:Ma) (A:(s.size:Int)<=9223372036854775807) {k:Nat} (z:s.size<k):ZgY k s=some (!(anyI Zkn 0 s.data.toList)&&(decide (1<=(s.size:Int))&&decide ((s.size:Int)<=8))):=by
 unfold ZgY
 rw [Ko s.data.toList Zkn (λi c=>(if (decide (97<=(c.toNat:Int)))=true then some (decide ((c.toNat:Int)<=122)) else some false:Option Bool).bind λB=>
     (if (!B)=true then if (decide (i=0))=true then some true else (if (decide ((c.toNat:Int)<48))=true then some true else some (decide (57<(c.toNat:Int)))) else some false:Option Bool)) false () (U8 s) (λj hj=> ?_) (λn i=> ?_) (by rw [QH];exact A) (by rw [QH];exact z)]
 ·rw [ZaM];cases anyI Zkn 0 s.data.toList<;>simp
 ·unfold Zkn Zm3 ZoJ;obtain ⟨c,w⟩:∃c,c=s.data.toList[j]:=⟨_,rfl⟩;rw [<-w]
  by_cases l:j=0
  ·cases decide (97<=(c.toNat:Int))<;>cases decide ((c.toNat:Int)<=122)<;>simp [l]
  ·by_cases o:(c.toNat:Int)<48
   ·have m:¬(48<=(c.toNat:Int)):=by omega
    cases decide (97<=(c.toNat:Int))<;>cases decide ((c.toNat:Int)<=122)<;>simp [l,o,m]
   ·have m:48<=(c.toNat:Int):=by omega
    by_cases t:(c.toNat:Int)<=57
    ·have r:¬(57<(c.toNat:Int)):=by omega
     cases decide (97<=(c.toNat:Int))<;>cases decide ((c.toNat:Int)<=122)<;>simp [l,o,m,t,r]
    ·have r:57<(c.toNat:Int):=by omega
     cases decide (97<=(c.toNat:Int))<;>cases decide ((c.toNat:Int)<=122)<;>simp [l,o,m,t,r]
 ·rw [U8,QH];cases at? s.data.toList i with
  | none=>rfl
  | some c=>simp only [ZEH,HB]
def Xr:List Ma:=(Q0).getD []
theorem Zpd:Q0=some Xr:=rfl
theorem ZrF (a:Ma) {k:Nat} (j:24<k):JE k a=some (Xr.any λx=>decide (x=a)):=by
 unfold JE;rw [Zpd,ZEH];unfold ZbX;rw [Qi Xr (λx=>decide (x=a)) (λx=>some (decide (x=a))) true () (V3 Xr a) (λ_ _=>rfl) (λn i=>by rw [V3];rfl) (by decide) (show Xr.length<k from j)];cases Xr.any λx=>decide (x=a)<;>rfl
theorem ZrX (a:Ma):JM a=some (Xr.any λx=>decide (x=a)):=by
 by_cases h:a∈Xr
 ·have I:(Xr.any λx=>decide (x=a))=true:=GQ.2 ⟨a,h,Ha⟩;rw [I];simp only [Xr,Q0,Option.getD_some,Hc,HS,or_false] at h;rcases h with rfl| rfl| rfl| rfl| rfl| rfl| rfl| rfl| rfl| rfl| rfl| rfl| rfl| rfl| rfl| rfl| rfl| rfl| rfl| rfl| rfl| rfl| rfl| rfl<;>rfl
 ·have I:(Xr.any λx=>decide (x=a))=false:=by
   rw [GN];intro x Y;simp;rintro rfl;exact h Y
  rw [I];simp only [Xr,Q0,Option.getD_some,Hc,HS,or_false,not_or] at h;obtain ⟨J,M,P,Q,R,S,T,W,X,j,k,l,m,o,r,s,t,w,z,A,B,C,E,G⟩:=h;unfold JM ZS;simp [J,M,P,Q,R,S,T,W,X,j,k,l,m,o,r,s,t,w,z,A,B,C,E,G]
theorem Zhp (a:Ma):∃z,ZS a=some z:=by
 by_cases h:a∈Xr
 ·simp only [Xr,Q0,Option.getD_some,Hc,HS,or_false] at h;rcases h with rfl| rfl| rfl| rfl| rfl| rfl| rfl| rfl| rfl| rfl| rfl| rfl| rfl| rfl| rfl| rfl| rfl| rfl| rfl| rfl| rfl| rfl| rfl| rfl<;>exact ⟨_,rfl⟩
 ·simp only [Xr,Q0,Option.getD_some,Hc,HS,or_false,not_or] at h;obtain ⟨J,M,P,Q,R,S,T,W,X,j,k,l,m,o,r,s,t,w,A,B,C,E,G,I⟩:=h;unfold ZS;simp [J,M,P,Q,R,S,T,W,X,j,k,l,m,o,r,s,t,w,A,B,C,E,G,I]
def Vr (s:Ma):Bool:=!(anyI Zkn 0 s.data.toList)&&decide (0<(s.size:Int))&&decide ((s.size:Int)<=8)&&!(Xr.any λx=>decide (x=s))
theorem Kw (s:Ma) (m:(s.size:Int)<=9223372036854775807) {k:Nat} (l:s.size<k) (j:24<k):Z7 k s=some (Vr s)/\Z8 k s=some (Vr s):=by
 constructor
 ·unfold Z7 Vr;rw [Zu6 s m l,ZrF s j];cases anyI Zkn 0 s.data.toList<;>cases decide (0<(s.size:Int))<;>cases decide ((s.size:Int)<=8)<;>simp
 ·unfold Z8 Vr;rw [ZwX s m l,ZrX s];have e:decide (1<=(s.size:Int))=decide (0<(s.size:Int)):=by rw [decide_eq_decide];omega
  rw [e];cases anyI Zkn 0 s.data.toList<;>cases decide (0<(s.size:Int))<;>cases decide ((s.size:Int)<=8)<;>simp
def Jj (c:UInt8):Bool:=decide ((c.toNat:Int)<32)||(decide (126<(c.toNat:Int))||decide ((c.toNat:Int)=34))
theorem Zf7 (s:Ma) (m:(s.size:Int)<=9223372036854775807) {k:Nat} (l:s.size<k):XX k s=some (!(s.data.toList.any Jj)&&decide ((s.size:Int)<=20))/\X3 k s=some (!(s.data.toList.any Jj)&&decide ((s.size:Int)<=20)):=by
 have j:∀x∈s.data.toList,(λc:UInt8=>(if (decide ((c.toNat:Int)<32))=true then some true else if (decide (126<(c.toNat:Int)))=true then some true else some (decide ((c.toNat:Int)=34)):Option Bool)) x=some (Jj x):=by
  intro x _;unfold Jj;simp only;cases decide ((x.toNat:Int)<32)<;>cases decide (126<(x.toNat:Int))<;>simp
 constructor
 ·unfold XX;rw [Qi s.data.toList Jj _ false () (QQ s) j (λn i=>by rw [QQ,QH];simp only [HB]) (by rw [QH];exact m) (by rw [QH];exact l)];cases s.data.toList.any Jj<;>simp
 ·unfold X3;rw [Qi s.data.toList Jj _ false () (QV s) j (λn i=>by rw [QV,QH];simp only [HB]) (by rw [QH];exact m) (by rw [QH];exact l)];cases s.data.toList.any Jj<;>simp
theorem KX {α:Type} {b:Nat} {xs ys:List α} (h:xs.length+ys.length<=4294967296) (j:b<=16384):YJ b xs ys=some (xs++ys):=by
 unfold YJ;rw [if_pos ⟨WF,HA (Nat.mul_le_mul h j) WF⟩]
theorem Zms {α β:Type} (b:Nat) (o:b<=16384) (xs:List α) (g:α->β) (G:α->Option β) (u:Nat->List β->Int->Option (List β)) (m:∀x∈xs,G x=some (g x))
  (l:∀n out i,u (n+1) out i=if (decide (i<(xs.length:Int)))=true then (at? xs i).bind λx=>(G x).bind λy=>(YJ b out [y]).bind λz=>u n z (GZ (i+1)) else some out)
  (hl:xs.length<=1073741824) {k:Nat} (r:xs.length<k):u k [] 0=some (xs.map g):=by
 have:=ZhR (λn (s:List β) i=>u n s i) (λi=>(xs.take i).map g) (some (xs.map g)) xs.length
  (λn i j=>by
   try simp only
   rw [l,if_pos (ZL j),ZQ j,ZEH,m _ (Hl j),ZEH,KX (by simp;omega) o,ZEH,wS i WF,Gm j,GD]
   rfl)
  (λn=>by rw [l,if_neg (Qg (ZEN _)),Gh]) r
 simpa using this
theorem Vt {α:Type} (b:Nat) (l:b<=16384) (xs:List α) (G:α->Option α) (u:Nat->List α->Int->Option (List α)) (j:∀x∈xs,G x=some x)
  (o:∀n out i,u (n+1) out i=if (decide (i<(xs.length:Int)))=true then (at? xs i).bind λx=>(G x).bind λy=>(YJ b out [y]).bind λz=>u n z (GZ (i+1)) else some out)
  (hl:xs.length<=1073741824) {k:Nat} (m:xs.length<k):u k [] 0=some xs:=by
 have:=Zms b l xs id G u j o hl m
 simpa using this
theorem Zkv {α ε:Type} (xs:List α) (t:Nat->α->Bool) (u:Nat->Int->Option ε) (yes no:Option ε)
  (o:∀n j (h:j<xs.length),t j xs[j]=false->u (n+1) (j:Int)=u n ((j+1:Nat):Int)) (s:∀n j (h:j<xs.length),t j xs[j]=true->u (n+1) (j:Int)=yes) (w:∀n,u (n+1) (xs.length:Int)=no)
  {k:Nat} (B:xs.length<k):u k 0=if anyI t 0 xs=true then yes else no:=by
 have z:∀(m n i:Nat),i+m=xs.length->m<n->u n (i:Int)=if anyI t i (xs.drop i)=true then yes else no:=by
  intro m
  induction m with
  | zero=>
   intro n i A C;obtain ⟨n,rfl⟩:∃j,n=j+1:=⟨n-1,WF⟩;obtain rfl:i=xs.length:=WF
   rw [w,List.drop_length];rfl
  | succ m E=>
   intro n i A C;obtain ⟨n,rfl⟩:∃j,n=j+1:=⟨n-1,WF⟩;have l:i<xs.length:=WF
   rw [Ho l];have e:anyI t i (xs[i]::xs.drop (i+1))=(t i xs[i]||anyI t (i+1) (xs.drop (i+1))):=rfl;rw [e];rcases Bool.eq_false_or_eq_true (t i xs[i]) with r| r
   ·rw [s n i l r,r];simp
   ·rw [o n i l r,E n (i+1) WF WF,r];simp
 have:=z xs.length k 0 WF B
 simpa using this
theorem ZoD {α ε:Type} (xs:List α) (t:α->Bool) (u:Nat->Int->Option ε) (yes no:Option ε)
  (l:∀n j (h:j<xs.length),t xs[j]=false->u (n+1) (j:Int)=u n ((j+1:Nat):Int)) (m:∀n j (h:j<xs.length),t xs[j]=true->u (n+1) (j:Int)=yes) (r:∀n,u (n+1) (xs.length:Int)=no)
  {k:Nat} (s:xs.length<k):u k 0=if xs.any t=true then yes else no:=by
 have h:=Zkv xs (λ_=>t) u yes no l m r s
 have e:∀(o:List α) i,anyI (λ_=>t) i o=o.any t:=by
  intro o
  induction o with
  | nil=>intro i;rfl
  | cons y o w=>intro i;simp [anyI,w]
 rw [h,e]
def before (y x:Zk):Bool:=decide (y.cell<x.cell)||(decide (y.cell=x.cell)&&decide (y.row<x.row))
theorem Zu8 (y x:Zk):UR y x=some (before y x):=by
 unfold UR before;cases decide (y.cell<x.cell)<;>cases decide (y.cell=x.cell)<;>simp
theorem ZvB (y x:Zk):Xl y x=some (before y x):=by
 unfold Xl before;cases decide (y.cell<x.cell)<;>cases decide (y.cell=x.cell)<;>simp
def Zkq (xs:List Zk) (j:Nat) (x:Zk):Bool:=decide (x.cell<0)||decide (x.row<0)||(decide (0<j)&&!(match xs[j-1]? with | some y=>before y x| none=>true))
theorem Zrk (B:Zk->Zk->Option Bool) (r:∀y x,B y x=some (before y x)) (xs:List Zk) (hl:xs.length<=4294967296) (j:Nat) (h:j<xs.length):
  (if decide (xs[j].cell<0)=true then some true else if decide (xs[j].row<0)=true then some true else if decide (0<(j:Int))=true then (at? xs (GZ ((j:Int)-1))).bind λk=>(B k xs[j]).bind λl=>some (!l) else some false)=some (Zkq xs j xs[j]):=by
 unfold Zkq
 by_cases o:0<j
 ·have e:GZ ((j:Int)-1)=((j-1:Nat):Int):=by rw [w64 WF WF];omega
  have m:j-1<xs.length:=WF
  rw [e,ZQ m,ZEP m];cases decide (xs[j].cell<0)<;>cases decide (xs[j].row<0)<;>simp [o,r]
 ·have:j=0:=by omega
  subst this;cases decide (xs[0].cell<0)<;>cases decide (xs[0].row<0)<;>simp
def Zoy (xs:List Zk):Bool:=!anyI (Zkq xs) 0 xs
theorem ZBm (xs:List Zk) (hl:xs.length<=4294967296) {k:Nat} (r:xs.length<k):W4 k xs=some (Zoy xs):=by
 unfold W4 Zoy
 rw [Ko xs (Zkq xs) (λi o=>if decide (o.cell<0)=true then some true else if decide (o.row<0)=true then some true else if decide (0<i)=true then (at? xs (GZ (i-1))).bind λl=>(UR l o).bind λm=>some (!m) else some false) false () (QP xs)
  (λj h=>Zrk UR Zu8 xs hl j h) (λn i=>by rw [QP];simp only [HB]) WF r]
 cases anyI (Zkq xs) 0 xs<;>rfl
def ZcM (n:Int):Bool:=decide (-1000000000<=n)&&decide (n<=1000000000)
theorem Zzo (n:Int):Qa n=some (ZcM n):=Ztr n
theorem Zz1 (n:Int):Wm n=some (ZcM n):=Zpl n
def Zkk (cs:List Ma) (j:Nat) (x:Ma):Bool:=(cs.take j).any λy=>decide (y=x)
def Zd4 (cs:List Ma):Bool:=!anyI (Zkk cs) 0 cs
theorem Zxi (cs:List Ma) (x:Ma) (hl:cs.length<=4294967296) {k:Nat} (j:cs.length<k):ZbX k cs x=some (cs.any λy=>decide (y=x)):=by
 unfold ZbX;rw [Qi cs (λy=>decide (y=x)) (λy=>some (decide (y=x))) true () (V3 cs x) (λ_ _=>rfl) (λn i=>by rw [V3];rfl) WF j];cases cs.any λy=>decide (y=x)<;>rfl
theorem Zj3 (cs:List Ma) (x:Ma) (hl:cs.length<=4294967296) {k:Nat} (j:cs.length<k):KQ k cs x=some (ZbE (λy=>decide (y=x)) cs):=by
 unfold KQ ZbE
 rw [Zd3 cs (λy=>decide (y=x)) (XP cs x) (λi=>some (.inr (i:Int))) (some (.inl ()))
  (λn i h hp=>by rw [XP,if_pos (ZL h),ZQ h,ZEH,if_neg (by simpa using hp),wS i WF])
  (λn i h hp=>by rw [XP,if_pos (ZL h),ZQ h,ZEH,if_pos hp])
  (λn=>by rw [XP,if_neg (Qg (ZEN _))]) j]
 split<;>rfl
theorem ZmH (cs:List Ma) (j:Nat) (h:j<cs.length):decide (ZbE (λy=>decide (y=cs[j])) cs=(j:Int))= !Zkk cs j cs[j]:=by
 have k:cs.findIdx (λy=>decide (y=cs[j]))<cs.length:=List.findIdx_lt_length_of_exists ⟨cs[j],Hl h,Ha⟩;unfold ZbE Zkk;rw [if_pos k]
 have r:cs.findIdx (λy=>decide (y=cs[j]))<=j:=by
  rcases Nat.lt_or_ge j (cs.findIdx (λy=>decide (y=cs[j]))) with g| g
  ·have:=List.not_of_lt_findIdx g;simp at this
  ·exact g
 cases hd:(cs.take j).any λy=>decide (y=cs[j]) with
 | true=>
  obtain ⟨y,s,l⟩:=GQ.1 hd;obtain ⟨i,t,rfl⟩:=List.mem_take_iff_getElem.1 s
  have:cs.findIdx (λy=>decide (y=cs[j]))<=i:=by
   rcases Nat.lt_or_ge i (cs.findIdx (λy=>decide (y=cs[j]))) with g| g
   ·have:=List.not_of_lt_findIdx g;simp at this l;exact absurd l this
   ·exact g
  simp;omega
 | false=>
  have:¬cs.findIdx (λy=>decide (y=cs[j]))<j:=by
   intro g;have m:=GN.1 hd (cs[cs.findIdx λy=>decide (y=cs[j])]) (List.mem_take_iff_getElem.2 ⟨_,WF,rfl⟩);have o:=List.findIdx_getElem (xs:=cs) (p:=λy=>decide (y=cs[j])) (w:=k);exact m o
  simp;omega
theorem ZrH (cs:List Ma) (hl:cs.length<=4294967296) {k:Nat} (r:cs.length<k):Um k cs=some (Zd4 cs):=by
 unfold Um Zd4
 have o:∀j:Nat,j<cs.length->ZkD cs 0 (j:Int)=some (cs.take j):=λj h=>by
  unfold ZkD;rw [if_pos ⟨WF,WF,WF⟩];simp
 have m:∀j (h:j<cs.length),ZbX k (cs.take j) cs[j]=some (Zkk cs j cs[j]):=λj h=>Zxi (cs.take j) cs[j] (by simp;omega) (by simp;omega)
 rw [Zkv cs (Zkk cs) (YV k cs) (some (.inr false)) (some (.inl ()))
  (λn j h l=>by rw [YV,if_pos (ZL h),o j h,ZEH,ZQ h,ZEH,m j h,ZEH,l,if_neg Ha,wS j WF])
  (λn j h l=>by rw [YV,if_pos (ZL h),o j h,ZEH,ZQ h,ZEH,m j h,ZEH,l,if_pos rfl])
  (λn=>by rw [YV,if_neg (Qg (ZEN _))]) r]
 cases anyI (Zkk cs) 0 cs<;>rfl
theorem ZrY (cs:List Ma) (hl:cs.length<=4294967296) {k:Nat} (l:cs.length<k):Uy k cs=some (Zd4 cs):=by
 unfold Uy Zd4
 rw [Zkv cs (Zkk cs) (YZ k cs) (some (.inr false)) (some (.inl ()))
  (λn j h m=>by rw [YZ,if_pos (ZL h),ZQ h,ZEH,Zj3 cs _ hl l,ZEH,ZmH cs j h,m,if_neg Ha,wS j WF])
  (λn j h m=>by rw [YZ,if_pos (ZL h),ZQ h,ZEH,Zj3 cs _ hl l,ZEH,ZmH cs j h,m];rfl)
  (λn=>by rw [YZ,if_neg (Qg (ZEN _))]) l]
 cases anyI (Zkk cs) 0 cs<;>rfl
def Zff (cs:List Ma):Bool:=!(cs.any λs=>!Vr s)&&(decide (1<=(cs.length:Int))&&decide ((cs.length:Int)<=4))&&Zd4 cs
theorem Zoq (cs:List Ma) (hl:cs.length<=1048576) (l:∀s∈cs,s.size<=1048576) {k:Nat} (m:1048600<k):UQ k cs=some (Zff cs)/\V7 k cs=some (Zff cs):=by
 have j:∀s∈cs,Z7 k s=some (Vr s)/\Z8 k s=some (Vr s):=λs h=>Kw s (by have:=l s h;omega) (by have:=l s h;omega) WF;constructor
 ·unfold UQ Zff;rw [Qi cs (λs=>!Vr s) (λs=>(Z7 k s).bind λb=>some (!b)) false () (Wh k cs) (λs h=>by rw [(j s h).1];rfl) (λn i=>by rw [Wh];simp only [HB,ZEH]) WF WF];simp only [U5,ZrH cs WF (show cs.length<k from WF),ZEH];cases cs.any λs=>!Vr s<;>cases decide (1<=(cs.length:Int))<;>cases decide ((cs.length:Int)<=4)<;>simp
 ·unfold V7 Zff;rw [Qi cs (λs=>!Vr s) (λs=>(Z8 k s).bind λb=>some (!b)) false () (XD k cs) (λs h=>by rw [(j s h).2];rfl) (λn i=>by rw [XD];simp only [HB,ZEH]) WF WF];simp only [ZaM,ZrY cs WF (show cs.length<k from WF),ZEH];cases cs.any λs=>!Vr s<;>cases decide (1<=(cs.length:Int))<;>cases decide ((cs.length:Int)<=4)<;>simp
def ZgC (j:Nat) (r:ZP):Bool:=!decide ((r.cells.length:Int)=(j:Int))||!Zoy r.from_||r.cells.any λn=>!ZcM n
def Zdc (v:Zb):Bool:=Zff v.columns&&!decide (12<(v.rows.length:Int))&&!v.rows.any (ZgC v.columns.length)
structure Small (v:Zb):Prop where
 cols:v.columns.length<=1048576
 names:∀s∈v.columns,s.size<=1048576
 rows:v.rows.length<=1048576
 cells:∀r∈v.rows,r.cells.length<=1048576/\r.from_.length<=1048576
 list:v.list.length<=1048576
 text:v.text.size<=1048576
theorem Zb.small {v:Zb} (h:v.bk<=1048576):Small v:=by
 have e:=v.Zz;have l1:=ZE (f:=Zb.bk) (xs:=v.list);have l2:=ZE (f:=ByteArray.size) (xs:=v.columns);have l3:=ZE (f:=ZP.bk) (xs:=v.rows);refine ⟨WF,λs k=>by have:=Z1 (f:=ByteArray.size) k;omega,WF,λr j=> ?_,WF,WF⟩;have l:=Z1 (f:=ZP.bk) j;have m:=r.Zz;have o:=ZE (f:=λ_:Int=>0) (xs:=r.cells);have t:=ZE (f:=λ_:Zk=>0) (xs:=r.from_);constructor<;>omega
theorem Zb.ZtJ {v x:Zb} (h:x∈v.list):x.bk<=v.bk:=by rw [Zb.Zz v];have:=Z1 (f:=Zb.bk) h;omega
theorem Zk7 (v:Zb) (h:Small v) {k:Nat} (E:1048600<k):Zdg k v=some (Zdc v)/\ZdH k v=some (Zdc v):=by
 obtain ⟨B,C⟩:=Zoq v.columns h.cols h.names E;have l:=h.rows;constructor
 ·unfold Zdg Zdc
  have cells:∀r∈v.rows,WA r k 0=some (if (r.cells.any λn=>!ZcM n)=true then .inr false else .inl ()):=λr m=>
   Qi r.cells (λn=>!ZcM n) (λn=>(Qa n).bind λb=>some (!b)) false () (WA r) (λn _=>by rw [Zzo];rfl) (λn i=>by rw [WA];simp only [HB,ZEH]) (by have:=(h.cells r m).1;omega) (by have:=(h.cells r m).1;omega)
  have o:∀r∈v.rows,W4 k r.from_=some (Zoy r.from_):=λr m=>ZBm r.from_ (by have:=(h.cells r m).2;omega) (by have:=(h.cells r m).2;omega)
  have t:∀n j (hj:j<v.rows.length),QZ k v (n+1) (j:Int)=if ZgC v.columns.length v.rows[j]=true then some (.inr false) else QZ k v n ((j+1:Nat):Int):=λn j hj=>by
   rw [QZ,if_pos (ZL hj),ZQ hj,ZEH,o _ (Hl hj),cells _ (Hl hj),wS j WF];unfold ZgC;cases decide ((v.rows[j].cells.length:Int)=(v.columns.length:Int))<;>cases Zoy v.rows[j].from_<;>cases v.rows[j].cells.any λn=>!ZcM n<;>simp
  rw [ZoD v.rows (ZgC v.columns.length) (QZ k v) (some (.inr false)) (some (.inl ()))
   (λn j hj s=>by rw [t n j hj,s,if_neg Ha]) (λn j hj s=>by rw [t n j hj,s,if_pos rfl]) (λn=>by rw [QZ,if_neg (Qg (ZEN _))]) WF,B]
  cases Zff v.columns<;>cases decide (12<(v.rows.length:Int))<;>cases v.rows.any (ZgC v.columns.length)<;>simp
 ·unfold ZdH Zdc
  have cells:∀r∈v.rows,WN r k 0=some (if (r.cells.any λn=>!ZcM n)=true then .inr false else .inl ()):=λr m=>
   Qi r.cells (λn=>!ZcM n) (λn=>(Wm n).bind λb=>some (!b)) false () (WN r) (λn _=>by rw [Zz1];rfl) (λn i=>by rw [WN];simp only [HB,ZEH]) (by have:=(h.cells r m).1;omega) (by have:=(h.cells r m).1;omega)
  have o:∀r∈v.rows,WM r k 0=some (if Zoy r.from_=true then .inl () else .inr false):=λr m=>by
   have:=Ko r.from_ (Zkq r.from_) (λi A=>if decide (A.cell<0)=true then some true else if decide (A.row<0)=true then some true else if decide (0<i)=true then (at? r.from_ (GZ (i-1))).bind λw=>(Xl w A).bind λz=>some (!z) else some false) false () (WM r)
    (λj hj=>Zrk Xl ZvB r.from_ (by have:=(h.cells r m).2;omega) j hj) (λn i=>by rw [WM]) (by have:=(h.cells r m).2;omega) (k:=k) (by have:=(h.cells r m).2;omega)
   rw [this];unfold Zoy;cases anyI (Zkq r.from_) 0 r.from_<;>rfl
  have t:∀n j (hj:j<v.rows.length),Q8 k v (n+1) (j:Int)=if ZgC v.columns.length v.rows[j]=true then some (.inr false) else Q8 k v n ((j+1:Nat):Int):=λn j hj=>by
   rw [Q8,if_pos (ZL hj),ZQ hj,ZEH,o _ (Hl hj),cells _ (Hl hj),wS j WF];unfold ZgC;cases decide ((v.rows[j].cells.length:Int)=(v.columns.length:Int))<;>cases Zoy v.rows[j].from_<;>cases v.rows[j].cells.any λn=>!ZcM n<;>simp
  rw [ZoD v.rows (ZgC v.columns.length) (Q8 k v) (some (.inr false)) (some (.inl ()))
   (λn j hj s=>by rw [t n j hj,s,if_neg Ha]) (λn j hj s=>by rw [t n j hj,s,if_pos rfl]) (λn=>by rw [Q8,if_neg (Qg (ZEN _))]) WF,C]
  cases Zff v.columns<;>cases decide (12<(v.rows.length:Int))<;>cases v.rows.any (ZgC v.columns.length)<;>simp
theorem Zog {α O:Type} (xs:List α) (F:O->α->O) (G:O->α->Option O) (z:O) (u:Nat->O->Int->Option O) (m:∀s,∀x∈xs,G s x=some (F s x))
  (l:∀n s i,u (n+1) s i=if decide (i<(xs.length:Int))=true then (at? xs i).bind λx=>(G s x).bind λy=>u n y (GZ (i+1)) else some s) (hl:xs.length<=4294967296) {k:Nat} (o:xs.length<k):u k z 0=some (xs.foldl F z):=by
 have:=ZhR u (λi=>(xs.take i).foldl F z) (some (xs.foldl F z)) xs.length
  (λn i j=>by
   rw [l,if_pos (ZL j),ZQ j,ZEH,m _ _ (Hl j),ZEH,wS i WF,Gm j,List.foldl_append]
   rfl)
  (λn=>by rw [l,if_neg (Qg (ZEN _)),Gh]) o
 simpa using this
theorem ZBk (a b:Int):ZbW a b=some (if b>a then b else a):=by
 unfold ZbW
 by_cases h:b<a
 ·rw [if_pos (by simpa using h),if_neg WF]
 ·rw [if_neg (by simpa using h)]
  split<;>first | rfl| (congr 1;omega)
theorem Zr4:∀v:Zb,v.bk<=1048576->∃d,Ev λk=>X6 k v=some d/\X9 k v=some d:=by
 refine Zb.ind λv r o=> ?_;have l:=(Zb.small o).list;obtain ⟨d,hd⟩:=YI v.list (p:=λx d=>Ev λk=>X6 k x=some d/\X9 k x=some d) λy m=>r y m (by have:=Zb.ZtJ m;omega);refine ⟨GZ (v.list.foldl (λa x=>if d x>a then d x else a) 0+1),(((Ev.all v.list hd).and (Ev.ge (v.list.length+1))).pred ?_)⟩;rintro k ⟨j,t⟩;constructor
 ·rw [X6,Zog v.list (λa x=>if d x>a then d x else a) (λs x=>(X6 k x).bind λy=>ZbW s y) 0 (V5 (X6 k) v) (λs x h=>by rw [(j x h).1,ZEH,ZBk]) (λn s i=>by rw [V5];simp only [HB]) WF WF]
  rfl
 ·rw [X9,Zog v.list (λa x=>if d x>a then d x else a) (λs x=>(X9 k x).bind λy=>some (if y>s then y else s)) 0 (V9 (X9 k) v) (λs x h=>by rw [(j x h).2,ZEH]) (λn s i=>by rw [V9];simp only [HB,ZEH]) WF WF]
  rfl
def Zt7 (x:Zb):Bool:=decide (x.kind=1)||decide (x.kind=2)||decide (x.kind=3)
def ZiN (b:Zb->Bool) (d:Int) (v:Zb):Bool:=!(v.list.any λx=>!(Zt7 x&&b x))&&(decide ((v.list.length:Int)<=8)&&decide (d<=3))
def Znu (s:Ma):Bool:=!(s.data.toList.any Jj)&&decide ((s.size:Int)<=20)
def ZaV (b:Zb->Bool) (d:Int) (v:Zb):Bool:=
 let L:=decide ((v.list.length:Int)=0)
 let C:=decide ((v.columns.length:Int)=0)&&decide ((v.rows.length:Int)=0)
 let T:=decide (v.text=(⟨#[]⟩:Ma))
 let N:=decide (v.n=0)
 let S:=decide (v.step=0)
 if v.kind=1 then L&&C&&S&&T&&ZcM v.n
 else if v.kind=2 then L&&C&&N&&S&&Znu v.text
 else if v.kind=3 then C&&N&&S&&T&&ZiN b d v
 else if v.kind=4 then L&&C&&T&&ZcM v.n&&ZcM v.step
 else if v.kind=5 then L&&N&&S&&T&&Zdc v
 else if v.kind=6 then L&&C&&S&&T&&(decide (1<=v.n)&&decide (v.n<=8))
 else false
theorem Zqu (n:Nat):decide (0<(n:Int))= !decide ((n:Int)=0):=by
 cases n with
 | zero=>rfl
 | succ n=>simp;omega
theorem two_pos (m n:Nat) (hm:m<=1048576) (l:n<=1048576):decide (0<GZ ((m:Int)+(n:Int)))= !(decide ((m:Int)=0)&&decide ((n:Int)=0)):=by
 rw [w64 WF WF];cases m with
 | zero=>rw [Int.natCast_zero,Int.zero_add,Zqu];simp
 | succ m=>
  have j:decide (0<(((m+1:Nat):Int))+(n:Int))=true:=by simp;omega
  have k:decide (((m+1:Nat):Int)=0)=false:=by simp;omega
  rw [j,k];rfl
theorem Zta (b:Zb->Bool) (d:Int) (v:Zb) (hl:v.list.length<=1048576) {k:Nat} (o:v.list.length<k) (j:∀x∈v.list,ZZ k x=some (b x)) (hd:X6 k v=some d):Zai (k+1) v=some (ZiN b d v):=by
 rw [Zai,Qi v.list (λx=>!(Zt7 x&&b x)) (λx=>(KA x).bind λl=>if (!l)=true then some true else (ZZ k x).bind λm=>some (!m)) false () (UN (ZZ k) v)
  (λx h=>by
   rw [j x h];unfold KA Zt7;cases decide (x.kind=1)<;>cases decide (x.kind=2)<;>cases decide (x.kind=3)<;>cases b x<;>rfl)
  (λn i=>by rw [UN];simp only [HB]) WF WF]
 unfold ZiN;rw [hd];cases v.list.any λx=>!(Zt7 x&&b x)<;>cases decide ((v.list.length:Int)<=8)<;>simp
theorem ZrE (b:Zb->Bool) (d:Int) (v:Zb) (sm:Small v) {k:Nat} (C:1048700<k) (hl:v.kind=3->Zai k v=some (ZiN b d v)):ZZ (k+1) v=some (ZaV b d v):=by
 have A:=(Zf7 v.text (by have:=sm.text;omega) (k:=k) (by have:=sm.text;omega)).1;have B:=(Zk7 v sm (k:=k) WF).1;have o:(!(v.text.data.toList.any Jj)&&decide ((v.text.size:Int)<=20))=Znu v.text:=rfl;rw [o] at A;rw [ZZ];simp only [Zzo,A,B,U5,ZEH,Zqu,two_pos _ _ sm.cols sm.rows];unfold ZaV;generalize decide ((v.list.length:Int)=0)=L;generalize decide ((v.columns.length:Int)=0)=j;generalize decide ((v.rows.length:Int)=0)=l;generalize decide (v.text=(⟨#[]⟩:Ma))=T;generalize decide (v.n=0)=N;generalize decide (v.step=0)=S;generalize ZcM v.n=I;generalize ZcM v.step=J;generalize Znu v.text=X;generalize Zdc v=Y;generalize (decide (1<=v.n)&&decide (v.n<=8))=Z
 by_cases r:v.kind=1
 ·simp only [r];cases L<;>cases j<;>cases l<;>cases T<;>cases S<;>rfl
 by_cases s:v.kind=2
 ·simp only [s];cases L<;>cases j<;>cases l<;>cases N<;>cases S<;>rfl
 by_cases m:v.kind=3
 ·rw [hl m];simp only [m,ZEH];generalize ZiN b d v=Q;cases j<;>cases l<;>cases T<;>cases N<;>cases S<;>rfl
 by_cases t:v.kind=4
 ·simp only [t];cases L<;>cases j<;>cases l<;>cases T<;>cases I<;>cases J<;>rfl
 by_cases w:v.kind=5
 ·simp only [w];cases L<;>cases T<;>cases N<;>cases S<;>rfl
 by_cases z:v.kind=6
 ·simp only [z];cases L<;>cases j<;>cases l<;>cases T<;>cases S<;>rfl
 simp only [r,s,m,t,w,z,decide_false,if_false,HK,if_true];cases L<;>cases j<;>cases l<;>cases T<;>cases S<;>rfl
theorem ZrW (b:Zb->Bool) (d:Int) (v:Zb) (sm:Small v) {k:Nat} (hk:1048700<k) (W:∀x∈v.list,ZM k x=some (b x)) (hd:X9 k v=some d):ZM (k+1) v=some (ZaV b d v):=by
 have P:=(Zf7 v.text (by have:=sm.text;omega) (k:=k) (by have:=sm.text;omega)).2;have R:=(Zk7 v sm (k:=k) WF).2;have r:(!(v.text.data.toList.any Jj)&&decide ((v.text.size:Int)<=20))=Znu v.text:=rfl;rw [r] at P
 have o:=Qi v.list (λx=>!(Zt7 x&&b x)) (λj=>if (!decide (j.kind=1))=true then if (!decide (j.kind=2))=true then if (!decide (j.kind=3))=true then some true else (ZM k j).bind λs=>some (!s) else (ZM k j).bind λt=>some (!t) else (ZM k j).bind λw=>some (!w)) false () (QD (ZM k) v)
  (λx h=>by
   rw [W x h];unfold Zt7;cases decide (x.kind=1)<;>cases decide (x.kind=2)<;>cases decide (x.kind=3)<;>cases b x<;>rfl)
  (λn i=>by rw [QD]) (by have:=sm.list;omega) (k:=k) (by have:=sm.list;omega)
 rw [ZM];simp only [Zz1,P,R,hd,ZaM,ZEH,o];unfold ZaV ZiN;generalize decide ((v.list.length:Int)=0)=L;generalize decide ((v.columns.length:Int)=0)=l;generalize decide ((v.rows.length:Int)=0)=m;generalize decide (v.text=(⟨#[]⟩:Ma))=T;generalize decide (v.n=0)=N;generalize decide (v.step=0)=S;generalize ZcM v.n=I;generalize ZcM v.step=J;generalize Znu v.text=X;generalize Zdc v=Y;generalize (decide (1<=v.n)&&decide (v.n<=8))=Z;generalize (v.list.any λx=>!(Zt7 x&&b x))=A;generalize decide ((v.list.length:Int)<=8)=Q;generalize decide (d<=3)=D3
 by_cases z:v.kind=1
 ·simp only [z];cases L<;>cases l<;>cases m<;>cases T<;>cases S<;>rfl
 by_cases B:v.kind=2
 ·simp only [B];cases L<;>cases l<;>cases m<;>cases N<;>cases S<;>rfl
 by_cases C:v.kind=3
 ·simp only [C];cases L<;>cases A<;>cases Q<;>cases l<;>cases m<;>cases T<;>cases N<;>cases S<;>rfl
 by_cases E:v.kind=4
 ·simp only [E];cases L<;>cases l<;>cases m<;>cases T<;>cases I<;>cases J<;>rfl
 by_cases G:v.kind=5
 ·simp only [G];cases L<;>cases l<;>cases m<;>cases T<;>cases N<;>cases S<;>rfl
 by_cases M:v.kind=6
 ·simp only [M];cases L<;>cases l<;>cases m<;>cases T<;>cases S<;>rfl
 simp only [z,B,C,E,G,M,decide_false,if_false];cases L<;>cases l<;>cases m<;>rfl
structure VOk (v:Zb):Prop where
 num:v.kind=1->ZcM v.n=true
 els:v.kind=3->∀x∈v.list,x.kind=1->ZcM x.n=true
 tab:v.kind=5->Zdc v=true
theorem Zk5:∀v:Zb,v.bk<=1048576->∃b:Bool,(b=true->VOk v)/\Ev λk=>ZZ k v=some b/\ZM k v=some b:=by
 refine Zb.ind λv E A=> ?_;have sm:=Zb.small A;have hl:=sm.list;obtain ⟨b,o⟩:=YI v.list (p:=λx (b:Bool)=>(b=true->VOk x)/\Ev λk=>ZZ k x=some b/\ZM k x=some b) λy B=>E y B (by have:=Zb.ZtJ B;omega);obtain ⟨d,hd⟩:=Zr4 v A;have l:=Ev.all v.list λx m=>(o x m).2;have C:Ev λk=>Zai k v=some (ZiN b d v):=((l.and (hd.and (Ev.ge 1048700))).pred λk ⟨s,t,z⟩=>Zta b d v hl WF (λx m=>(s x m).1) t.1);refine ⟨ZaV b d v,λj=> ?_,((l.and (hd.and (C.and (Ev.ge 1048701)))).pred λk ⟨s,t,z,G⟩=>⟨ZrE b d v sm WF λ_=>z,ZrW b d v sm WF (λx m=>(s x m).2) t.2⟩)⟩;unfold ZaV at j;refine ⟨λr=> ?_,λr x m w=> ?_,λr=> ?_⟩
 ·simp only [r] at j;simp only [if_true,ZEM] at j;exact j.2
 ·simp only [r] at j;simp [ZiN] at j;exact ((o x m).1 (j.2.1 x m).2).num w
 ·simp only [r] at j;simp at j;exact j.2
theorem Zuv {α:Type} {r:α->α->Prop} (m:∀a,¬r a a) (A:∀{a b c},r a b->r b c->r a c):∀{a b:List α},a.Pairwise r->b.Pairwise r->(∀x,x∈a↔x∈b)->a=b
 | [],[],_,_,_=>rfl
 | [],y::b,_,_,h=>absurd ((h y).2 Ha) Ha
 | x::a,[],_,_,h=>absurd ((h x).1 Ha) Ha
 | x::a,y::b,B,C,h=>by
  obtain ⟨j,s⟩:=GA.1 B;obtain ⟨k,t⟩:=GA.1 C
  have w:x=y:=by
   rcases Hc.1 ((h x).1 Ha) with e| e
   ·exact e
   ·rcases Hc.1 ((h y).2 Ha) with o| o
    ·exact o.symm
    ·exact absurd (A (k x e) (j y o)) (m _)
  subst w;rw [Zuv m A s t λz=>⟨λl=> ?_,λl=> ?_⟩]
  ·rcases Hc.1 ((h z).1 (Hz _ l)) with e| e
   ·subst e;exact absurd (j z l) (m _)
   ·exact e
  ·rcases Hc.1 ((h z).2 (Hz _ l)) with e| e
   ·subst e;exact absurd (k z l) (m _)
   ·exact e
theorem ZtS {α:Type} {r:α->α->Prop} (I:∀{a b c},r a b->r b c->r a c) {out:List α} {x:α} {j:Nat} (h:out.Pairwise r) (B:∀y∈out.take j,r y x) (s:∀y,out[j]? =some y->r x y):(out.take j++x::out.drop j).Pairwise r:=by
 have w:=h;rw [<-Hn j out,List.pairwise_append] at w;obtain ⟨E,o,G⟩:=w
 have C:∀z∈out.drop j,r x z:=by
  cases hd:out.drop j with
  | nil=>simp
  | cons y l=>
   have A:out[j]? =some y:=by
    have:=congrArg (λl:List α=>l[0]?) hd
    simpa using this
   intro z m;rw [hd] at o;rcases Hc.1 m with rfl| m
   ·exact s _ A
   ·exact I (s _ A) ((GA.1 o).1 z m)
 refine List.pairwise_append.2 ⟨E,GA.2 ⟨C,o⟩,λa t b k=> ?_⟩;rcases Hc.1 k with rfl| k
 ·exact B a t
 ·exact G a t b k
theorem ZtQ {α:Type} {out:List α} {x z:α} {j:Nat}:z∈out.take j++x::out.drop j↔z=x\/z∈out:=by
 have:z∈out↔z∈out.take j\/z∈out.drop j:=by rw [<-He,Hn]
 rw [this];simp only [He,Hc];constructor
 ·rintro (h| h| h)<;>simp [h]
 ·rintro (h| h| h)<;>simp [h]
theorem ZtR {α:Type} {out:List α} {x:α} {j:Nat}:(out.take j++x::out.drop j).length=out.length+1:=by
 have:=congrArg List.length (Hn j out);simp only [Hp,HL] at this ⊢;omega
def nLt (x y:Ma):Prop:=toL x<toL y
instance (x y:Ma):Decidable (nLt x y):=inferInstanceAs (Decidable (toL x<toL y))
theorem Zqx (x y:Ma):Zpb x y=decide (nLt x y):=by
 show Op.bytesLess x.toList y.toList=decide (toL x<toL y);rw [Go.Proofs.bytesLess_eq,Lib.toList_data,Lib.toList_data];rfl
theorem ZsP {x y:Ma} (h:toL x=toL y):x=y:=by rw [<-Zpk x,h,Zpk]
theorem Ztu (a:Ma):¬nLt a a:=List.lt_irrefl _
theorem Zww {a b c:Ma} (h:nLt a b) (g:nLt b c):nLt a c:=List.lt_trans h g
theorem ZxG {x y:Ma} (h:¬nLt y x) (j:y≠x):nLt x y:=by
 by_cases g:nLt x y
 ·exact g
 ·exact absurd (ZsP (List.le_antisymm (List.not_lt.1 g) (List.not_lt.1 h))) j
def NS (L r:List Ma):Prop:=r.Pairwise nLt/\∀z,z∈r↔z∈L
theorem NS.one {L M r s:List Ma} (h:NS L r) (g:NS M s) (e:∀z,z∈L↔z∈M):r=s:=Zuv Ztu Zww h.1 g.1 λz=>by rw [h.2,g.2,e]
theorem Vw {α:Type} {L:List α} {i:Nat} {x:α} (k:L[i]? =some x) {z:α}:z∈L.take (i+1)↔z=x\/z∈L.take i:=by
 obtain ⟨j,rfl⟩:=Hh.1 k;rw [Gm j,He,Hu];exact or_comm
theorem JR {i:Int} (h:0<=i):(i+1).toNat=i.toNat+1:=WF
theorem Zs2 {xs:List Ma} (h:xs.Nodup):(ZnB xs).Pairwise nLt:=by
 unfold ZnB;rw [List.pairwise_map];have hp:=List.mergeSort_perm (xs.map toL) (λx y=>decide (x<=y))
 have m:((xs.map toL).mergeSort λx y=>decide (x<=y)).Nodup:=hp.nodup_iff.2 (by
  rw [List.Nodup,List.pairwise_map];exact h.imp λl e=>l (ZsP e))
 have o:=List.pairwise_mergeSort (le:=λx y:List UInt8=>decide (x<=y)) (λa b c j k=>by
  simp only [decide_eq_true_eq] at *;exact List.le_trans j k) (λa b=>by
  simp only [Gv,decide_eq_true_eq];exact List.le_total a b) (xs.map toL)
 refine (o.and m).imp λ{a b} ⟨j,k⟩=> ?_;show toL (ofL a)<toL (ofL b);rw [ZoW,ZoW];simp only [decide_eq_true_eq] at j
 by_cases g:a<b
 ·exact g
 ·exact absurd (List.le_antisymm j (List.not_lt.1 g)) k
theorem Zs3 {xs:List Int} (h:xs.Nodup):(Zo3 xs).Pairwise (· < ·):=by
 unfold Zo3;have l:(xs.mergeSort λx y=>decide (x<=y)).Nodup:=(List.mergeSort_perm xs _).nodup_iff.2 h
 have m:=List.pairwise_mergeSort (le:=λx y:Int=>decide (x<=y)) (λa b c j k=>by
  simp only [decide_eq_true_eq] at *;omega) (λa b=>by
  simp only [Gv,decide_eq_true_eq];omega) xs
 refine (m.and l).imp λ{a b} ⟨j,k⟩=> ?_;simp only [decide_eq_true_eq] at j;omega
theorem Zzg (L:List Ma) (hL:L.length<=4294967):Tot (NS L) λk=>Je k L:=by
 unfold Je
 refine .bind (p:=λr:List Ma=>(r.Nodup/\∀z,z∈r↔z∈L)/\r.length<=L.length) ?_ λr o=>.of (v:=ZnB r) (by
  unfold Xb;rw [if_pos WF];rfl) ⟨Zs2 o.1.1,λz=>by rw [(Zen r).mem_iff,o.1.2]⟩
 refine Tot.loop (λk n (s:List Ma×Int)=>Wr k L n s.1 s.2) (λs=>((s.1.length:Int)<=s.2/\0<=s.2/\s.2<=L.length)/\s.1.Nodup/\∀z,z∈s.1↔z∈L.take s.2.toNat) (λs=>(L.length-s.2).toNat) (s0:=([],0)) ⟨⟨Ha,Ha,Ha⟩,Ha,Ha⟩ ?_;rintro ⟨out,i⟩ ⟨⟨E,t,G⟩,w,l⟩;simp only at E t G w l;simp only [Wr];refine .ite (λe=> ?_) λe=>.ret ?_
 ·have e:i<L.length:=by simpa using e
  rw [w64 (n:=i+1) WF WF];refine .bind (p:=λr:List Ma=>((r.length:Int)<=i+1/\r.Nodup/\∀z,z∈r↔z∈L.take (i+1).toNat)) ?_ λr o=>.next2 ⟨⟨⟨o.1,by simp only;omega,by simp only;omega⟩,o.2⟩,by simp only;omega⟩;refine .bindAt t e λx B Q=> ?_;refine .bind (p:=λv=>v=ZbE (λy=>decide (y=x)) L) ⟨_,rfl,(Ev.ge (L.length+1)).mono λk P=>Zj3 L x WF WF⟩ λv M=> ?_;subst M;obtain ⟨J,rfl⟩:=Hh.1 B
  have hd:decide (ZbE (λy=>decide (y=L[i.toNat])) L=i)= !Zkk L i.toNat L[i.toNat]:=by
   have:=ZmH L i.toNat J;rw [show ((i.toNat:Nat):Int)=i from WF] at this;exact this
  simp only [hd];refine .ite (λj=>.bindApp WF (by simp;omega) (.ret ⟨by simp;omega, ?_,λz=> ?_⟩)) λj=>.ret ⟨WF,w,λz=> ?_⟩
  ·have A:L[i.toNat]∉out:=λm=>by
    rw [l] at m;simp [Zkk] at j;exact j _ m rfl
   exact HZ.2 ⟨w,Ha,λa I b C e=>by simp at C;subst C;subst e;exact A I⟩
  ·rw [JR t,Vw B,He,l];simp [or_comm]
  ·rw [JR t,Vw B,l];constructor
   ·exact .inr
   ·rintro (h| h)
    ·simp [Zkk] at j;rw [h];exact j
    ·exact h
 ·have e:¬i<L.length:=by simpa using e
  obtain rfl:i=L.length:=WF
  exact ⟨⟨w,λz=>by rw [l];simp⟩,WF⟩
theorem Zzf (L:List Ma) (hL:L.length<=4294967):Tot (NS L) λk=>UW k L:=by
 unfold UW;refine .bind (p:=NS L) ?_ λr J=>.ret J;refine Tot.loop (λk n (s:List Ma×Int)=>Wk k L n s.1 s.2) (λs=>((s.1.length:Int)<=s.2/\0<=s.2/\s.2<=L.length)/\NS (L.take s.2.toNat) s.1) (λs=>(L.length-s.2).toNat) (s0:=([],0)) ⟨⟨Ha,Ha,Ha⟩,by simp [NS]⟩ ?_;rintro ⟨out,i⟩ ⟨⟨T,E,W⟩,G,I⟩;simp only at T E W G I;simp only [Wk];refine .ite (λe=> ?_) λe=>.ret ?_
 ·have e:i<L.length:=by simpa using e
  rw [w64 (n:=i+1) WF WF];refine .bind (p:=λr:List Ma=>(r.length:Int)<=i+1/\NS (L.take (i+1).toNat) r) ?_ λr J=>.next2 ⟨⟨⟨J.1,by simp only;omega,by simp only;omega⟩,J.2⟩,by simp only;omega⟩;obtain ⟨x,R⟩:∃x,L[i.toNat]? =some x:=⟨_,ZEP WF⟩;have A:at? L i=some x:=by unfold at?;rw [if_pos E];exact R
  refine .bind (p:=λj:Int=>(0<=j/\j<=out.length)/\(∀y∈out.take j.toNat,nLt y x)/\∀y,out[j.toNat]? =some y->¬nLt y x) ?_ λj hj=> ?_
  ·refine Tot.loop (λk n (s:Int)=>Wj L out i n s) (λs=>(0<=s/\s<=out.length)/\∀y∈out.take s.toNat,nLt y x) (λs=>(out.length-s).toNat) (s0:=0) ⟨⟨Ha,Ha⟩,Ha⟩ ?_;rintro j ⟨⟨w,M⟩,P⟩;simp only [Wj,A,ZEH];refine .bind (p:=λb:Bool=>(b=true->j<out.length/\∀y,out[j.toNat]? =some y->nLt y x)/\(b=false->∀y,out[j.toNat]? =some y->¬nLt y x)) (.ite (λm=> ?_) λm=>.ret ⟨λh=>(nomatch h),λ_ y l=> ?_⟩) λb B=>.ite (λt=> ?_) λt=>.ret ⟨⟨w,M⟩,P,B.2 (by simpa using t)⟩
   ·have m:j<out.length:=by simpa using m
    refine .bindAt w m λy l _=>.ret ⟨λh=>⟨m,λz o=> ?_⟩,λh z o=> ?_⟩
    ·rw [l] at o;cases o;rw [Zqx] at h;simpa using h
    ·rw [l] at o;cases o;rw [Zqx] at h;simpa using h
   ·have m:¬j<out.length:=by simpa using m
    have:=(Hh.1 l).1;omega
   ·obtain ⟨h1,X⟩:=B.1 t;rw [w64 (n:=j+1) WF WF];refine .next ⟨⟨⟨WF,WF⟩,λy l=> ?_⟩,WF⟩
    obtain ⟨y',C⟩:∃y,out[j.toNat]? =some y:=⟨_,ZEP WF⟩;rw [JR w,Vw C] at l;rcases l with rfl| l
    ·exact X _ C
    ·exact P _ l
  ·obtain ⟨⟨w,M⟩,P,Z⟩:=hj;simp only [A,ZEH];refine .bind (p:=λb:Bool=>(b=true->out[j.toNat]? =some x)/\(b=false->∀y,out[j.toNat]? =some y->y≠x)) (.ite (λm=> ?_) λm=>.ret ⟨λh=>(nomatch h),λ_ y l=> ?_⟩) λb B=>.ite (λt=>.ret ?_) λt=> ?_
   ·have m:j<out.length:=by simpa using m
    refine .bindAt w m λy l _=>.ret ⟨λh=> ?_,λh z o=> ?_⟩
    ·have h:y=x:=by simpa using h
     rw [l,h]
    ·rw [l] at o;cases o;simpa using h
   ·have m:¬j<out.length:=by simpa using m
    have:=(Hh.1 l).1;omega
   ·have Y:x∈out:=Gg (B.1 t);refine ⟨WF,G,λz=> ?_⟩;rw [JR E,Vw R,<-I];constructor
    ·exact .inr
    ·rintro (rfl| h)
     ·exact Y
     ·exact h
   ·have Q:=B.2 (by simpa using t);have s1:ZkD out j (out.length:Int)=some (out.drop j.toNat):=by unfold ZkD;rw [if_pos ⟨w,M,Int.le_refl _⟩];simp
    have s2:ZkD out 0 j=some (out.take j.toNat):=by unfold ZkD;rw [if_pos ⟨Int.le_refl _,w,M⟩];simp
    have hl:(out.take j.toNat).length+(out.drop j.toNat).length=out.length:=by rw [<-Hp,Hn]
    simp only [s1,s2,ZEH];refine .bindApp WF (by simp;omega) (.bindApp WF (by simp;omega) (.bindApp WF (by simp at hl ⊢;omega) (.ret ?_)));have S:out.take j.toNat++[x]++([]++out.drop j.toNat)=out.take j.toNat++x::out.drop j.toNat:=Ha
    rw [S,ZtR];refine ⟨WF,ZtS (r:=nLt) Zww G P λy l=>ZxG (Z y l) (Q y l),λz=> ?_⟩;rw [ZtQ,JR E,Vw R,I]
 ·have e:¬i<L.length:=by simpa using e
  obtain rfl:i=L.length:=WF
  exact ⟨G,λz=>by rw [I];simp⟩
theorem Zxg (L M:List Ma) (hL:L.length<=4294967) (hM:M.length<=4294967) (e:∀z,z∈L↔z∈M):∃r,NS L r/\Ev λk=>UW k L=some r/\Je k M=some r:=by
 obtain ⟨r,j,l⟩:=Zzf L hL;obtain ⟨s,m,o⟩:=Zzg M hM;obtain rfl:=j.one m e;exact ⟨r,j,l.and o⟩
theorem Zeq (cs:List Int) (x:Int) (hl:cs.length<=4294967296) {k:Nat} (j:cs.length<k):YG k cs x=some (decide (x∈cs)):=by
 unfold YG;rw [Qi cs (λy=>decide (y=x)) (λy=>some (decide (y=x))) true () (Qk cs x) (λ_ _=>rfl) (λn i=>by rw [Qk];rfl) WF j]
 have:(cs.any λy=>decide (y=x))=decide (x∈cs):=by
  by_cases h:x∈cs
  ·rw [decide_eq_true h,GQ];exact ⟨x,h,Ha⟩
  ·rw [decide_eq_false h,GN];intro y l e;simp at e;exact h (e▸l)
 rw [this];cases decide (x∈cs)<;>rfl
theorem Zb6 (cs:List Int) (x:Int) (hl:cs.length<=4294967296) {k:Nat} (j:cs.length<k):Ut k cs x=some (decide (x∈cs)):=by
 rw [<-Zeq cs x hl j]
 have:∀n i,U9 cs x n i=Qk cs x n i:=λn=>by
  induction n with
  | zero=>intro i;rfl
  | succ n l=>intro i;rw [U9,Qk];simp only [l]
 unfold Ut YG;rw [this];cases Qk cs x k 0 with
 | none=>rfl
 | some v=>cases v<;>rfl
theorem ZnK (cs:List Int) (x:Int) (hl:cs.length<=4294967296):Tot (λb=>b=decide (x∈cs)) λk=>YG k cs x:=⟨_,rfl,(Ev.ge (cs.length+1)).mono λk j=>Zeq cs x hl WF⟩
theorem ZtW (cs:List Int) (x:Int) (hl:cs.length<=4294967296):Tot (λb=>b=decide (x∈cs)) λk=>Ut k cs x:=⟨_,rfl,(Ev.ge (cs.length+1)).mono λk j=>Zb6 cs x hl WF⟩
theorem ZqL (x z:Int):∀M:List (Int×Bool),(ZgK (Zjd M x true) z).getD false=(decide (z=x)||(ZgK M z).getD false)
 | []=>by by_cases h:z=x<;>simp [ZgK,Zjd,h]
 | p::M=>by
  simp only [Zjd]
  by_cases h:x=p.1
  ·rw [if_pos h]
   by_cases g:z=x
   ·simp [ZgK,g]
   ·simp [ZgK,g,<-h]
  ·rw [if_neg h]
   by_cases g:z=p.1
   ·have:z≠x:=λe=>h (e▸g);simp [ZgK,g,this];intro e;exact absurd e.symm h
   ·simp only [ZgK,if_neg g];exact ZqL x z M
theorem Zqt (L:List Int) (hL:L.length<=1073741824):Tot (λr=>r=ZrB L) λk=>Zeu k L:=by
 unfold Zeu
 refine .bind (p:=λr:List Int=>(r.Nodup/\∀z,z∈r↔z∈L)/\r.length<=L.length) ?_ λr o=>.of (v:=Zo3 r) (by
  unfold VD;rw [if_pos WF];rfl) (Zs4 (Zs3 o.1.1) λz=>by rw [(Ke r).mem_iff,o.1.2])
 refine Tot.loop (λk n (s:List (Int×Bool)×List Int×Int)=>U6 L n s.1 s.2.1 s.2.2) (λs=>((s.2.1.length:Int)<=s.2.2/\0<=s.2.2/\s.2.2<=L.length)/\s.2.1.Nodup/\(∀z,(ZgK s.1 z).getD false=decide (z∈s.2.1))/\∀z,z∈s.2.1↔z∈L.take s.2.2.toNat) (λs=>(L.length-s.2.2).toNat) (s0:=([],[],0)) ⟨⟨Ha,Ha,Ha⟩,Ha,by simp [ZgK],Ha⟩ ?_;rintro ⟨m,out,i⟩ ⟨⟨E,t,G⟩,w,A,l⟩;simp only at E t G w l A;simp only [U6];refine .ite (λe=> ?_) λe=>.ret ?_
 ·have e:i<L.length:=by simpa using e
  rw [w64 (n:=i+1) WF WF];refine .bind (p:=λr:List (Int×Bool)×List Int=>(r.2.length:Int)<=i+1/\r.2.Nodup/\(∀z,(ZgK r.1 z).getD false=decide (z∈r.2))/\∀z,z∈r.2↔z∈L.take (i+1).toNat) ?_ λr o=>.next3 (a:=r.1) (b:=r.2) (c:=i+1) ⟨⟨⟨o.1,by simp only;omega,by simp only;omega⟩,o.2⟩,by simp only;omega⟩;refine .bindAt t e λx C J=> ?_;rw [A];refine .ite (λj=>.bindApp WF (by simp;omega) (.ret ⟨by simp;omega, ?_,λz=> ?_,λz=> ?_⟩)) λj=>.ret ⟨by simp only;omega,w,A,λz=> ?_⟩
  ·have j:x∉out:=by simpa using j
   exact HZ.2 ⟨w,Ha,λa I b B e=>by simp at B;subst B;subst e;exact j I⟩
  ·rw [ZqL,A];simp only [He,Hu,Bool.decide_or,Bool.or_comm]
  ·simp only;rw [JR t,Vw C,He,Hu,l];exact or_comm
  ·have j:x∈out:=by simpa using j
   simp only;rw [JR t,Vw C,l];constructor
   ·exact .inr
   ·rintro (rfl| h)
    ·rw [<-l];exact j
    ·exact h
 ·have e:¬i<L.length:=by simpa using e
  obtain rfl:i=L.length:=WF
  exact ⟨⟨w,λz=>by rw [l];simp⟩,WF⟩
theorem Zzj (L:List Int) (hL:L.length<=1073741824):Tot (λr=>r=ZrB L) λk=>Zep k L:=by
 unfold Zep;refine .bind (p:=λr=>r=ZrB L) ?_ λr J=>.ret J;refine Tot.loop (λk n (s:List Int×Int)=>WD k L n s.1 s.2) (λs=>((s.1.length:Int)<=s.2/\0<=s.2/\s.2<=L.length)/\s.1.Pairwise (· < ·)/\∀z,z∈s.1↔z∈L.take s.2.toNat) (λs=>(L.length-s.2).toNat) (s0:=([],0)) ⟨⟨Ha,Ha,Ha⟩,Ha,Ha⟩ ?_;rintro ⟨out,i⟩ ⟨⟨X,E,Y⟩,G,I⟩;simp only at X E Y G I;simp only [WD];refine .ite (λe=> ?_) λe=>.ret ?_
 ·have e:i<L.length:=by simpa using e
  rw [w64 (n:=i+1) WF WF];refine .bind (p:=λr:List Int=>(r.length:Int)<=i+1/\r.Pairwise (· < ·)/\∀z,z∈r↔z∈L.take (i+1).toNat) ?_ λr J=>.next2 ⟨⟨⟨J.1,by simp only;omega,by simp only;omega⟩,J.2⟩,by simp only;omega⟩;obtain ⟨x,S⟩:∃x,L[i.toNat]? =some x:=⟨_,ZEP WF⟩;have w:at? L i=some x:=by unfold at?;rw [if_pos E];exact S
  simp only [w,ZEH];refine .bind (ZnK out x WF) λb A=>.ite (λm=>.ret ?_) λm=> ?_
  ·have Z:x∈out:=by rw [A] at m;simpa using m
   refine ⟨WF,G,λz=> ?_⟩;rw [JR E,Vw S,<-I];constructor
   ·exact .inr
   ·rintro (rfl| h)
    ·exact Z
    ·exact h
  ·have R:x∉out:=by rw [A] at m;simpa using m
   refine .bind (p:=λj:Int=>(0<=j/\j<=out.length)/\(∀y∈out.take j.toNat,y<x)/\∀y,out[j.toNat]? =some y->¬y<x) ?_ λj hj=> ?_
   ·refine Tot.loop (λk n (s:Int)=>WC L out i n s) (λs=>(0<=s/\s<=out.length)/\∀y∈out.take s.toNat,y<x) (λs=>(out.length-s).toNat) (s0:=0) ⟨⟨Ha,Ha⟩,Ha⟩ ?_;rintro j ⟨⟨t,M⟩,P⟩;simp only [WC,w,ZEH];refine .bind (p:=λb:Bool=>(b=true->j<out.length/\∀y,out[j.toNat]? =some y->y<x)/\(b=false->∀y,out[j.toNat]? =some y->¬y<x)) (.ite (λo=> ?_) λo=>.ret ⟨λh=>(nomatch h),λ_ y l=> ?_⟩) λb A=>.ite (λm=> ?_) λm=>.ret ⟨⟨t,M⟩,P,A.2 (by simpa using m)⟩
    ·have o:j<out.length:=by simpa using o
     refine .bindAt t o λy l _=>.ret ⟨λh=>⟨o,λz C=> ?_⟩,λh z C=> ?_⟩
     ·rw [l] at C;cases C;simpa using h
     ·rw [l] at C;cases C;simpa using h
    ·have o:¬j<out.length:=by simpa using o
     have:=(Hh.1 l).1;omega
    ·obtain ⟨T,Q⟩:=A.1 m;rw [w64 (n:=j+1) WF WF];refine .next ⟨⟨⟨WF,WF⟩,λy l=> ?_⟩,WF⟩
     obtain ⟨y',B⟩:∃y,out[j.toNat]? =some y:=⟨_,ZEP WF⟩;rw [JR t,Vw B] at l;rcases l with rfl| l
     ·exact Q _ B
     ·exact P _ l
   ·obtain ⟨⟨t,M⟩,P,j4⟩:=hj;have s1:ZkD out j (out.length:Int)=some (out.drop j.toNat):=by unfold ZkD;rw [if_pos ⟨t,M,Int.le_refl _⟩];simp
    have s2:ZkD out 0 j=some (out.take j.toNat):=by unfold ZkD;rw [if_pos ⟨Int.le_refl _,t,M⟩];simp
    have hl:(out.take j.toNat).length+(out.drop j.toNat).length=out.length:=by rw [<-Hp,Hn]
    simp only [s1,s2,ZEH];refine .bindApp WF (by simp;omega) (.bindApp WF (by simp;omega) (.bindApp WF (by simp at hl ⊢;omega) (.ret ?_)));have W:[]++out.take j.toNat++[x]++out.drop j.toNat=out.take j.toNat++x::out.drop j.toNat:=Ha
    rw [W,ZtR];refine ⟨WF,ZtS (r:=(· < ·)) (λT Q=>WF) G P λy l=> ?_,λz=> ?_⟩
    ·have T:=j4 y l;have Q:y≠x:=λe=>R (e▸Gg l);omega
    ·rw [ZtQ,JR E,Vw S,I]
 ·have e:¬i<L.length:=by simpa using e
  obtain rfl:i=L.length:=WF
  exact Zs4 G λz=>by rw [I];simp
theorem Zp3 (a:Ma):Yi a=ZS a:=by unfold Yi ZS;rfl
mutual
def Zc.cnt:Zc->Nat
 | ⟨_,_,_,args⟩=>1+Zc.ZA2 args
def Zc.ZA2:List Zc->Nat
 | []=>0
 | x::xs=>Zc.cnt x+Zc.ZA2 xs
end
theorem Zc.Zul:∀xs:List Zc,Zc.ZA2 xs=ZU Zc.cnt xs
 | []=>rfl
 | x::xs=>by rw [Zc.ZA2,Zc.Zul xs];rfl
theorem Zc.Zor (x:Zc):x.cnt=1+ZU Zc.cnt x.args:=by cases x;simp only [Zc.cnt,Zc.Zul]
mutual
def Zc.nest:Zc->Nat
 | ⟨_,_,_,args⟩=>Zc.ZjU 0 args+1
def Zc.ZjU:Nat->List Zc->Nat
 | n,[]=>n
 | n,x::xs=>Zc.ZjU (max n (Zc.nest x)) xs
end
theorem Zc.Zts (x:Zc):x.nest=Zc.ZjU 0 x.args+1:=by cases x;simp only [Zc.nest]
theorem Zc.Zlz:∀x:Zc,x.cnt<=x.bk+1:=by
 refine Zc.ind λx o=> ?_;rw [Zc.Zor,Zc.Zz]
 have:∀j:List Zc,(∀y∈j,y.cnt<=y.bk+1)->ZU Zc.cnt j<=bkS Zc.bk j:=by
  intro j
  induction j with
  | nil=>intro _;simp [ZU]
  | cons y s k=>
   intro h;have r:=h y Ha;have l:=k λz m=>h z (by simp [m]);simp only [ZU,bkS,Hi,HV,HL] at l ⊢;omega
 have:=this x.args o;omega
theorem Zc.ZqJ:∀x:Zc,x.nest<=x.cnt:=by
 refine Zc.ind λx r=> ?_;rw [Zc.Zor,Zc.Zts]
 have:∀(j:List Zc) (n m:Nat),(∀y∈j,y.nest<=y.cnt)->n<=m->Zc.ZjU n j<=m+ZU Zc.cnt j:=by
  intro j
  induction j with
  | nil=>intro n m _ h;simpa [Zc.ZjU,ZU] using h
  | cons y w k=>
   intro n m h t;have s:=h y Ha;have l:=k (max n y.nest) (m+y.cnt) (λz o=>h z (by simp [o])) WF;simp only [Zc.ZjU,ZU,Hi,HV] at l ⊢;omega
 have:=this x.args 0 0 r WF;omega
theorem Zc.Zn7 (x:Zc):x.args.length<=x.bk:=by rw [Zc.Zz];have:=ZE (f:=Zc.bk) (xs:=x.args);omega
theorem Zc.Zxc (x:Zc):x.text.size<=x.bk:=by rw [Zc.Zz];omega
theorem Zc.Zrl {x y:Zc} (h:y∈x.args):y.bk<=x.bk:=by rw [Zc.Zz x];have:=Z1 (f:=Zc.bk) h;omega
theorem ZnI:∀x:Zc,x.bk<=1048576->Ev λk=>∀l:Int,0<=l->l<=1048576->Uk k x l=some (szR x.cnt l):=by
 refine Zc.ind λx P T=> ?_;refine ((Ev.all x.args λy C=>P y C (by have:=Zc.Zrl C;omega)).and (Ev.ge (x.args.length+2))).pred ?_;rintro k ⟨M,W⟩ l l0 l1;have B:=x.Zn7;rw [Uk,w64 WF WF]
 have A:∀(m n i:Nat) (c:Int),i+m=x.args.length->m<n-> -1<=c->c<=1048576->WH (Uk k) x n c (i:Int)=some (if 0<=c then szR (ZU Zc.cnt (x.args.drop i)) c else-1):=by
  intro m
  induction m with
  | zero=>
   intro n i c I J G t;obtain ⟨n,rfl⟩:∃j,n=j+1:=⟨n-1,WF⟩;rw [WH,if_neg (Qg WF),Gp WF]
   by_cases h:0<=c
   ·simp [ZU,szR,h]
   ·rw [if_neg h];simp;omega
  | succ m s=>
   intro n i c I J G t;obtain ⟨n,rfl⟩:∃j,n=j+1:=⟨n-1,WF⟩;have o:i<x.args.length:=WF
   rw [WH,if_pos (ZL o),ZEH]
   by_cases h:0<=c
   ·rw [if_pos (by simpa using h),ZQ o,ZEH,M _ (Hl o) c h t,ZEH,wS i WF,if_pos h,Ho o];have e:ZU Zc.cnt (x.args[i]::x.args.drop (i+1))=x.args[i].cnt+ZU Zc.cnt (x.args.drop (i+1)):=by unfold ZU;rw [Hi,HV]
    rw [e];rcases Xd (b:=x.args[i].cnt) (left:=c) t with ⟨z,w,S,E,Q,R⟩| ⟨w,E⟩
    ·rw [w,s n (i+1) z WF WF WF R,if_pos Q,E];unfold szR
     by_cases r:(ZU Zc.cnt (x.args.drop (i+1)):Int)<=c-x.args[i].cnt
     ·rw [if_pos r,if_pos WF];congr 1;omega
     ·rw [if_neg r,if_neg WF]
    ·rw [w,s n (i+1) (-1) WF WF WF WF,if_neg WF];unfold szR;rw [if_neg WF]
   ·rw [if_neg (by simpa using h),if_neg h];congr 1;omega
 have:=A x.args.length k 0 (l-1) WF WF WF WF;rw [show ((0:Nat):Int)=0 from rfl] at this;rw [this,ZEH,x.Zor,Gd]
 congr 1
 unfold szR
 by_cases h:0<=l-1
 ·rw [if_pos h]
  by_cases r:(ZU Zc.cnt x.args:Int)<=l-1
  ·rw [if_pos r,if_pos WF];omega
  ·rw [if_neg r,if_neg WF]
 ·rw [if_neg h,if_neg WF]
theorem ZkT:∀x:Zc,x.bk<=1048576->Ev λk=>X2 k x=some (x.cnt:Int):=by
 refine Zc.ind λx E G=> ?_;refine ((Ev.all x.args λy w=>E y w (by have:=Zc.Zrl w;omega)).and (Ev.ge (x.args.length+2))).pred ?_;rintro k ⟨C,I⟩;have t:=x.Zn7;have s:=x.Zlz;have z:=x.Zor;rw [X2]
 have r:∀(m n i:Nat) (c:Nat),i+m=x.args.length->m<n->c+ZU Zc.cnt (x.args.drop i)<=1048577->Xm (X2 k) x n (c:Int) (i:Int)=some ((c+ZU Zc.cnt (x.args.drop i):Nat):Int):=by
  intro m
  induction m with
  | zero=>
   intro n i c A B s;obtain ⟨n,rfl⟩:∃j,n=j+1:=⟨n-1,WF⟩;rw [Xm,if_neg (Qg WF),Gp WF];simp [ZU]
  | succ m o=>
   intro n i c A B s;obtain ⟨n,rfl⟩:∃j,n=j+1:=⟨n-1,WF⟩;have l:i<x.args.length:=WF
   have e:ZU Zc.cnt (x.args.drop i)=x.args[i].cnt+ZU Zc.cnt (x.args.drop (i+1)):=by rw [Ho l];unfold ZU;rw [Hi,HV]
   rw [Xm,if_pos (ZL l),ZQ l,ZEH,C _ (Hl l),ZEH,wS i WF,w64 WF WF];rw [show (c:Int)+(x.args[i].cnt:Int)=((c+x.args[i].cnt:Nat):Int) from WF,o n (i+1) _ WF WF WF]
   congr 2;omega
 have:=r x.args.length k 0 1 WF WF (by rw [Gd];omega);rw [show ((0:Nat):Int)=0 from rfl,show ((1:Nat):Int)=1 from rfl] at this;rw [this,ZEH,Gd,z]
theorem ZxF (x:Zc) (t:x.bk<=1048576):Ev λk=>Xj k x=some (x.nest:Int)/\Xo k x=some (x.nest:Int):=by
 revert t;refine Zc.ind (p:=λx=>x.bk<=1048576->Ev λk=>Xj k x=some (x.nest:Int)/\Xo k x=some (x.nest:Int)) (λx Q t=> ?_) x;refine ((Ev.all x.args λy B=>Q y B (by have:=Zc.Zrl B;omega)).and (Ev.ge (x.args.length+2))).pred ?_;rintro k ⟨P,T⟩;have w:=x.Zn7;have R:=x.Zlz;have z:=x.ZqJ;have S:=x.Zts
 have s:∀(m n i:Nat) (c:Nat),i+m=x.args.length->m<n->Xi (Xj k) x n (c:Int) (i:Int)=some ((Zc.ZjU c (x.args.drop i):Nat):Int)/\Xn (Xo k) x n (c:Int) (i:Int)=some ((Zc.ZjU c (x.args.drop i):Nat):Int):=by
  intro m
  induction m with
  | zero=>
   intro n i c J z;obtain ⟨n,rfl⟩:∃j,n=j+1:=⟨n-1,WF⟩;rw [Xi,Xn,if_neg (Qg WF),if_neg (Qg WF),Gp WF];simp [Zc.ZjU]
  | succ m r=>
   intro n i c J z;obtain ⟨n,rfl⟩:∃j,n=j+1:=⟨n-1,WF⟩;have l:i<x.args.length:=WF
   obtain ⟨G,I⟩:=P _ (Hl l)
   have M:ZbW (c:Int) (x.args[i].nest:Int)=some ((max c x.args[i].nest:Nat):Int):=by
    unfold ZbW
    by_cases h:(x.args[i].nest:Int)<c
    ·rw [if_pos (by simpa using h)];congr 1;omega
    ·rw [if_neg (by simpa using h)];congr 1;omega
   have o:(if (x.args[i].nest:Int)>(c:Int) then (x.args[i].nest:Int) else (c:Int))=((max c x.args[i].nest:Nat):Int):=by split<;>omega
   rw [Xi,Xn,if_pos (ZL l),if_pos (ZL l),ZQ l,ZEH,ZEH,G,I,ZEH,ZEH,M,ZEH,o,wS i WF,Ho l];simp only [Zc.ZjU];exact r n (i+1) _ WF WF
 obtain ⟨C,E⟩:=s x.args.length k 0 0 WF WF;rw [show ((0:Nat):Int)=0 from rfl,Gd] at C E;have A:GZ ((Zc.ZjU 0 x.args:Nat)+1:Int)=(x.nest:Int):=by rw [w64 WF WF];omega
 constructor
 ·rw [Xj,C,ZEH,A]
 ·rw [Xo,E,ZEH,A]
theorem ZxD (x:Zc) (A:(x.text.size:Int)<=9223372036854775807) {k:Nat} (w:x.text.size<k) (m:24<k):∃b,KD k x=some b/\Zb5 k x=some b/\∀j,x.text.size<j->24<j->KD j x=some b/\Zb5 j x=some b:=by
 have t:∃b,∀j,x.text.size<j->24<j->KD j x=some b/\Zb5 j x=some b:=by
  have o:∃z,Yi x.text=some z/\ZS x.text=some z:=by
   rw [Zp3];obtain ⟨z,B⟩:=Zhp x.text;exact ⟨z,B,B⟩
  obtain ⟨z,Y,Z⟩:=o;obtain ⟨tx,X⟩:∃tx,tx=(!(x.text.data.toList.any Jj)&&decide ((x.text.size:Int)<=20)):=⟨_,rfl⟩;obtain ⟨l,W⟩:∃l,l=Vr x.text:=⟨_,rfl⟩
  refine ⟨if x.kind=1 then decide ((x.args.length:Int)=0)&&decide (x.text=⟨#[]⟩)&&(decide (0<=x.n)&&decide (x.n<=1000000000)) else if x.kind=2 then decide ((x.args.length:Int)=0)&&decide (x.n=0)&&tx
   else if x.kind=3 then decide ((x.args.length:Int)=0)&&decide (x.n=0)&&l else if x.kind=4 then decide (x.n=0)&&decide (x.text=⟨#[]⟩)&&decide ((x.args.length:Int)<=8)
   else if x.kind=5 then decide (x.n=0)&&decide ((x.args.length:Int)=z) else if x.kind=6 then decide (x.text=⟨#[]⟩)&&decide ((x.args.length:Int)=2)&&(decide (1<=x.n)&&decide (x.n<=5))
   else if x.kind=7 then decide (x.n=0)&&decide ((x.args.length:Int)=2)&&l else if x.kind=9 then decide (x.n=0)&&decide ((x.args.length:Int)=2)&&l else if x.kind=8 then decide (x.n=0)&&decide (x.text=⟨#[]⟩)&&decide ((x.args.length:Int)=3) else false,λj hj s=> ?_⟩
  obtain ⟨t1,t2⟩:=Zf7 x.text A hj;obtain ⟨S,T⟩:=Kw x.text A hj s;rw [<-X] at t1 t2;rw [<-W] at S T;unfold KD Zb5;rw [t1,t2,S,T,Y,Z];simp only [U5,ZaM,ZEH]
  by_cases C:x.kind=1
  ·simp only [C,decide_true,if_true,if_pos];cases decide ((x.args.length:Int)=0)<;>cases decide (x.text=(⟨#[]⟩:Ma))<;>cases decide (0<=x.n)<;>cases decide (x.n<=1000000000)<;>simp
  by_cases E:x.kind=2
  ·simp only [E];cases decide ((x.args.length:Int)=0)<;>cases decide (x.n=0)<;>cases tx<;>simp
  by_cases G:x.kind=3
  ·simp only [G];cases decide ((x.args.length:Int)=0)<;>cases decide (x.n=0)<;>cases l<;>simp
  by_cases I:x.kind=4
  ·simp only [I];cases decide (x.n=0)<;>cases decide (x.text=(⟨#[]⟩:Ma))<;>simp
  by_cases J:x.kind=5
  ·simp only [J];cases decide (x.n=0)<;>simp
  by_cases M:x.kind=6
  ·simp only [M];cases decide ((x.args.length:Int)=2)<;>cases decide (x.text=(⟨#[]⟩:Ma))<;>cases decide (1<=x.n)<;>cases decide (x.n<=5)<;>simp
  by_cases P:x.kind=7
  ·simp only [P];cases decide ((x.args.length:Int)=2)<;>cases decide (x.n=0)<;>cases l<;>simp
  by_cases R:x.kind=9
  ·simp only [R];cases decide ((x.args.length:Int)=2)<;>cases decide (x.n=0)<;>cases l<;>simp
  by_cases Q:x.kind=8
  ·simp only [Q];cases decide (x.n=0)<;>cases decide (x.text=(⟨#[]⟩:Ma))<;>simp
  simp [C,E,G,I,J,M,P,Q,R]
 obtain ⟨b,r⟩:=t;exact ⟨b,(r k w m).1,(r k w m).2,r⟩
theorem Zc.Zy4 {x:Zc} (h:x.bk<=1048576):(x.text.size:Int)<=9223372036854775807:=by have:=x.Zxc;omega
theorem nodes (x:Zc) (l:x.bk<=1048576):∃b,Ev λk=>Vy k x=some b/\QU k x=some b:=by
 revert l;refine Zc.ind (p:=λx=>x.bk<=1048576->∃b,Ev λk=>Vy k x=some b/\QU k x=some b) (λx t l=> ?_) x;obtain ⟨f,hf⟩:=YI (p:=λy b=>Ev λk=>Vy k y=some b/\QU k y=some b) x.args λy j=>t y j (by have:=Zc.Zrl j;omega);obtain ⟨b,_,_,s⟩:=ZxD x (Zc.Zy4 l) (k:=x.text.size+25) WF WF;have m:=x.Zn7;refine ⟨!(x.args.any λy=>!f y)&&b, ?_⟩;refine ((Ev.all x.args hf).and ((Ev.ge (x.args.length+2)).and (Ev.ge (x.text.size+25)))).pred ?_;rintro k ⟨o,B,r⟩;obtain ⟨w,A⟩:=s k WF WF;constructor
 ·rw [Vy,Qi x.args (λy=>!f y) (λy=>(Vy k y).bind λz=>some (!z)) false () (UT (Vy k) x) (λy j=>by (try simp only);rw [(o y j).1];rfl)
   (λn i=>by rw [UT];simp only [HB,ZEH]) WF WF]
  cases x.args.any λy=>!f y<;>simp [w]
 ·rw [QU,Qi x.args (λy=>!f y) (λy=>(QU k y).bind λz=>some (!z)) false () (Ve (QU k) x) (λy j=>by (try simp only);rw [(o y j).2];rfl)
   (λn i=>by rw [Ve];simp only [HB,ZEH]) WF WF]
  cases x.args.any λy=>!f y<;>simp [A]
theorem ZsK (x:Zc) (m:x.bk<=1048576):∃v,Ev λk=>W9 k x=some v/\Vg k x=some v:=by
 obtain ⟨q,hq⟩:=nodes x m;have w:=x.Zlz;have z:=x.ZqJ;refine ⟨decide (x.cnt<=40)&&decide (x.nest<=8)&&q, ?_⟩;refine (hq.and ((ZxF x m).and ((ZnI x m).and (ZkT x m)))).mono ?_;rintro k ⟨⟨s,t⟩,⟨o,r⟩,l,c⟩;constructor
 ·unfold W9;rw [l 40 WF WF,o,s]
  by_cases h:x.cnt<=40
  ·have e:szR x.cnt 40=40-x.cnt:=by unfold szR;rw [if_pos WF]
   rw [e];simp only [ZEH];rw [if_pos (by simp;omega)]
   by_cases j:x.nest<=8
   ·rw [if_pos (by simp;omega)];simp [h,j]
   ·rw [if_neg (by simp;omega)];simp [j]
  ·have e:szR x.cnt 40= -1:=by unfold szR;rw [if_neg WF]
   rw [e];simp [h]
 ·unfold Vg;rw [c,r,t];simp only [ZEH]
  by_cases h:x.cnt<=40
  ·rw [if_pos (by simp;omega)]
   by_cases j:x.nest<=8
   ·rw [if_pos (by simp;omega)];simp [h,j]
   ·rw [if_neg (by simp;omega)];simp [j]
  ·rw [if_neg (by simp;omega)];simp [h]
theorem ZgI {α:Type} [DecidableEq α]:∀{l m:List α},l.Nodup->(∀z∈l,z∈m)->l.length<=m.length
 | [],m,_,_=>Ha
 | x::l,m,s,h=>by
  obtain ⟨o,r⟩:=Gf.1 s;have t:=ZgI (m:=m.erase x) r λz k=>(List.mem_erase_of_ne (λe=>o (by rw [<-e];exact k))).2 (h z (Hz _ k));have j:x∈m:=h x GL;have w:=List.length_erase_of_mem j;have A:=List.length_pos_of_mem j;rw [HL];omega
def FS (y:Zc) (b:List Ma):Prop:=∃N:List Ma,N.length<=y.cnt/\Ev λk=>Xx k y b=some N/\∀out:List Ma,out.length+y.cnt<=1073741824->Yd k y b out=some (out++N)
def ZyT (x:Zc) (b:List Ma) (j:Nat):List Ma:=if (decide (x.kind=7)||decide (x.kind=9))=true/\0<j then b++[x.text] else b
theorem Zr1 (x:Zc) (b:List Ma) (hb:b.length+x.bk<=1073741824) (Y:∀y∈x.args,∀b:List Ma,b.length+y.bk<=1073741824->FS y b):∀m j,j+m=x.args.length->∃N:List Ma,N.length<=ZU Zc.cnt (x.args.drop j)/\Ev λk=>∀n,m<n->
  (∀l:List Ma,l.length+ZU Zc.cnt (x.args.drop j)<=1073741824->Q3 (Xx k) x b n l (j:Int)=some (l++N))/\
  (∀out:List Ma,out.length+ZU Zc.cnt (x.args.drop j)<=1073741824->Ym (Yd k) x b (decide (x.kind=7)||decide (x.kind=9)) n out (j:Int)=some (out++N)):=by
 have C:=x.Zn7;intro m
 induction m with
 | zero=>
  intro j hj;refine ⟨[],Ha,Ev.of λk n X=> ?_⟩;obtain ⟨n,rfl⟩:∃q,n=q+1:=⟨n-1,WF⟩;obtain rfl:j=x.args.length:=WF
  exact ⟨λl _=>by rw [Q3,if_neg (Qg (ZEN _))];simp,λl _=>by rw [Ym,if_neg (Qg (ZEN _))];simp⟩
 | succ m W=>
  intro j hj;have o:j<x.args.length:=WF
  have s:=Hl o
  have S:x.args[j].bk+1<=x.bk:=by
   rw [Zc.Zz x];have:=Z1 (f:=Zc.bk) s;have h2:Zc.bk x.args[j]<=ZU Zc.bk x.args:=ZjB _ s;unfold bkS;omega
  obtain ⟨E,q1,Z⟩:=Y x.args[j] s (ZyT x b j) (by
   unfold ZyT;split
   ·rw [Hp,List.length_singleton];omega
   ·omega)
  obtain ⟨G,q3,q4⟩:=W (j+1) WF;have hs:ZU Zc.cnt (x.args.drop j)=x.args[j].cnt+ZU Zc.cnt (x.args.drop (j+1)):=by rw [Ho o];rfl
  refine ⟨E++G,by rw [Hp];omega,(Z.and q4).mono λk ⟨⟨I,J⟩,M⟩ n X=> ?_⟩;obtain ⟨n,rfl⟩:∃q,n=q+1:=⟨n-1,WF⟩;obtain ⟨P,Q⟩:=M n WF;have T:b.length<=1073741824:=WF
  have t:YJ 16 ([]:List Ma) b=some b:=by rw [Wa (by simp;omega) WF];rfl
  have r:YJ 16 b [x.text]=some (b++[x.text]):=Wa (by simp;omega) WF;have z:decide ((0:Int)<(j:Int))=decide (0<j):=decide_eq_decide.2 WF;refine ⟨λl R=> ?_,λout R=> ?_⟩
  ·rw [Q3,if_pos (ZL o),z,t]
   have A:(if decide (x.kind=7)=true then some (decide (0<j)) else if decide (x.kind=9)=true then some (decide (0<j)) else some false:Option Bool)=some ((decide (x.kind=7)||decide (x.kind=9))&&decide (0<j)):=by
    cases decide (x.kind=7)<;>cases decide (x.kind=9)<;>rfl
   have ec:(if ((decide (x.kind=7)||decide (x.kind=9))&&decide (0<j))=true then (some b).bind λB=>(YJ 16 B [x.text]).bind λw=>some w else some b:Option (List Ma))=some (ZyT x b j):=by
    unfold ZyT;simp only [ZEH,r,ZEM,decide_eq_true_eq]
    split<;>rfl
   rw [A,ZEH,ec,ZEH,ZQ o,ZEH,I,ZEH,Wa WF WF,ZEH,wS j WF,P _ (by rw [Hp];omega),Hx]
  ·rw [Ym,if_pos (ZL o),z,t,ZQ o]
   have A:(if (decide (x.kind=7)||decide (x.kind=9))=true then some (decide (0<j)) else some false:Option Bool)=some ((decide (x.kind=7)||decide (x.kind=9))&&decide (0<j)):=by
    cases decide (x.kind=7)<;>cases decide (x.kind=9)<;>rfl
   have ec:(if ((decide (x.kind=7)||decide (x.kind=9))&&decide (0<j))=true then (some b).bind λB=>(YJ 16 B [x.text]).bind λw=>some w else some b:Option (List Ma))=some (ZyT x b j):=by
    unfold ZyT;simp only [ZEH,r,ZEM,decide_eq_true_eq]
    split<;>rfl
   rw [ZEH,A,ZEH,ec,ZEH,J _ WF,ZEH,wS j WF,Q _ (by rw [Hp];omega),Hx]
theorem Zt3:∀x:Zc,∀b:List Ma,b.length+x.bk<=1073741824->FS x b:=by
 refine Zc.ind λx B b z=> ?_;have C:=x.Zor;obtain ⟨N,w,r⟩:=Zr1 x b z B x.args.length 0 WF;rw [Gd] at w r
 have s:ZbE (λy=>decide (y=x.text)) b<0↔¬(b.any λy=>decide (y=x.text))=true:=by
  constructor
  ·intro h g;obtain ⟨y,A,e⟩:=GQ.1 g;rw [Zt5 h y A] at e;cases e
  ·intro h;unfold ZbE;rw [if_neg ?_]; · omega
   intro g;exact h (GQ.2 ⟨_,Hl g,List.findIdx_getElem (p:=λy=>decide (y=x.text)) (w:=g)⟩)
 have en:(decide (x.kind=7)||decide (x.kind=9))=(if decide (x.kind=7)=true then true else decide (x.kind=9)):=by cases decide (x.kind=7)<;>rfl
 by_cases l:x.kind=3
 ·by_cases j:(b.any λy=>decide (y=x.text))=true
  ·refine ⟨N,WF,(r.and (Ev.ge (x.args.length+b.length+1))).pred λk ⟨e,t⟩=> ?_⟩;obtain ⟨m,o⟩:=e k WF;refine ⟨?_,λout ho=> ?_⟩
   ·rw [Xx,decide_eq_true l,Zxi b x.text WF WF,j];have:=m [] (by simp;have:=Zc.Zlz x;omega);simp only [if_true,ZEH,Hr,ZEO,if_false];rw [show Q3 (Xx k) x b k [] 0=some ([]++N) from this];rfl
   ·rw [Yd,decide_eq_true l,Zj3 b x.text WF WF];have:=o out WF;rw [decide_eq_false (show ¬x.kind=7 from WF),decide_eq_false (show ¬x.kind=9 from WF)] at this ⊢;simp only [if_true,ZEH,decide_eq_false (show ¬ZbE (λy=>decide (y=x.text)) b<0 by rw [s];exact λh=>h j),ZEO,if_false];exact this
  ·refine ⟨[x.text],by simp;omega,(Ev.ge (x.args.length+b.length+1)).pred λk t=> ?_⟩;refine ⟨?_,λout ho=> ?_⟩
   ·rw [Xx,decide_eq_true l,Zxi b x.text WF WF,Bool.eq_false_iff.2 j];simp only [if_true,ZEH,HK];rw [Wa Ha WF];rfl
   ·rw [Yd,decide_eq_true l,Zj3 b x.text WF WF];simp only [if_true,ZEH,decide_eq_true (s.2 j)];unfold J7;rw [Wa (by simp;omega) WF];rfl
 ·refine ⟨N,WF,(r.and (Ev.ge (x.args.length+b.length+1))).pred λk ⟨e,t⟩=> ?_⟩;obtain ⟨m,o⟩:=e k WF;refine ⟨?_,λout ho=> ?_⟩
  ·rw [Xx,decide_eq_false l];have:=m [] (by simp;have:=Zc.Zlz x;omega);simp only [ZEH,ZEO,if_false];rw [show Q3 (Xx k) x b k [] 0=some ([]++N) from this];rfl
  ·rw [Yd,decide_eq_false l];have:=o out WF;simp only [ZEH,ZEO,if_false];revert this;cases decide (x.kind=7)<;>cases decide (x.kind=9)<;>exact id
theorem ZwZ (p:Zl) (hp:p.bk<=2097152):∃U:List Ma,U.length<=2097153/\Ev λk=>W7 k p=some U/\Vf k p=some U:=by
 by_cases j:p.kind=2
 ·have J:p.expr.bk<=2097152:=by have:=Zl.Zz p;omega
  have G:=Zc.Zlz p.expr;obtain ⟨N,M,A⟩:=Zt3 p.expr [] (by simp;omega);obtain ⟨r,⟨B,E⟩,C⟩:=Zxg N N WF WF λ_=>Iff.rfl
  have I:r.length<=N.length:=by
   have t:r.Nodup:=by
    refine List.Pairwise.imp ?_ B;intro a b h e;subst e;exact Ztu _ h
   exact ZgI t λz w=>(E z).1 w
  refine ⟨r,WF,(A.and C).mono λk ⟨⟨l,m⟩,o,s⟩=> ?_⟩;unfold W7 Vf Zb1 Zb9;have:=m [] (by simp;omega);rw [decide_eq_true j,l,this];simp only [Hr,ZEO,if_false,ZEH,Hs,o,s,and_self]
 ·refine ⟨[],Ha,Ev.of λk=> ?_⟩;unfold W7 Vf;rw [decide_eq_false j];exact ⟨rfl,rfl⟩
theorem Zq5 (j:List Zl) (s:Ma):∀(n:Nat) (out:List Int) (i:Int),Yw j s n out i=Vl j s n out i
 | 0,_,_=>rfl
 | n+1,out,i=>by
  rw [Yw,Vl];simp only [HB,Zq5 j s n]
theorem Zud (j:List Zl) (s:Ma) (hl:j.length<=1048576):∃l:List Int,l.length<=j.length/\(∀x∈l,0<=x/\x<j.length)/\Ev λk=>Wl k j s=some l/\Ua k j s=some l:=by
 have:Tot (λl:List Int=>l.length<=j.length/\∀x∈l,0<=x/\x<j.length) λk=>Wl k j s:=by
  unfold Wl;refine .bind (p:=λl:List Int=>l.length<=j.length/\∀x∈l,0<=x/\x<j.length) ?_ λr o=>.ret o;refine Tot.loop (λk n (t:List Int×Int)=>Yw j s n t.1 t.2) (λt=>((t.1.length:Int)<=t.2/\0<=t.2/\t.2<=j.length)/\∀x∈t.1,0<=x/\x<j.length) (λt=>(j.length-t.2).toNat) (s0:=([],0)) ⟨⟨Ha,Ha,Ha⟩,Ha⟩ ?_;rintro ⟨out,i⟩ ⟨⟨A,w,B⟩,m⟩;simp only at A w B m;simp only [Yw];refine .ite (λe=> ?_) λe=>.ret ⟨WF,m⟩;have e:i<j.length:=by simpa using e
  rw [w64 (n:=i+1) WF WF];refine .bind (p:=λr:List Int=>(r.length:Int)<=i+1/\∀x∈r,0<=x/\x<j.length) (.bind (p:=λ_=>True) (.bindAt w e λx _ _=>.ite (λ_=>.ret trivial) λ_=>.ret trivial) λb _=>.ite (λ_=>.bindApp WF (by simp;omega) (.ret ⟨by simp;omega,λx E=> ?_⟩)) λ_=>.ret ⟨WF,m⟩) λr o=>.next2 ⟨⟨⟨o.1,by simp only;omega,by simp only;omega⟩,o.2⟩,by simp only;omega⟩;rcases He.1 E with h| h
  ·exact m x h
  ·simp at h;omega
 obtain ⟨l,z,C⟩:=this;refine ⟨l,z.1,z.2,C.mono λk h=>⟨h,(show Ua k j s=Wl k j s by unfold Ua Wl;rw [Zq5]).trans h⟩⟩
def UB:List Int->Int
 | []=> -1
 | [x]=>x
 | _::_::_=> -2
theorem Zjc {n:Nat}:∀{j:List Int},(∀x∈j,0<=x/\x<n)-> -2<=UB j/\UB j<n/\(UB j= -2↔1<j.length)
 | [],_=>by simp [UB];omega
 | [x],h=>by have:=h x Ha;simp [UB];omega
 | _::_::l,_=>by simp [UB];omega
theorem ZhC {j:List Int} {k:Nat} {m:List Zl} {s:Ma} (h:Wl k m s=some j/\Ua k m s=some j):QJ k m s=some (UB j)/\X7 k m s=some (UB j):=by
 unfold QJ X7;rw [h.1,h.2]
 match j with
 | []=>exact ⟨rfl,rfl⟩
 | [x]=>exact ⟨rfl,rfl⟩
 | x::y::l=>
  simp only [ZEH];rw [decide_eq_false (show ¬(((x::y::l).length:Int)=0) by simp;omega),decide_eq_false (show ¬(((x::y::l).length:Int)=1) by simp;omega)];exact ⟨rfl,rfl⟩
theorem Zli (j:List Zl) (s:Ma) (hl:j.length<=1048576):∃r:Int,(-2<=r/\r<j.length)/\Ev λk=>QJ k j s=some r/\X7 k j s=some r:=by
 obtain ⟨m,t,l,o⟩:=Zud j s hl;exact ⟨UB m,⟨(Zjc l).1,(Zjc l).2.1⟩,o.mono λk h=>ZhC h⟩
theorem ZwL (j:List Zl) (hl:j.length<=1048576) (i:Int):∃b:Bool,Ev λk=>Qm k j i=some b/\Y4 k j i=some b:=by
 have s:GZ ((j.length:Int)-1)=(j.length:Int)-1:=w64 WF WF
 by_cases o:0<=i/\i<j.length
 ·have m:at? j i=some j[i.toNat]:=by unfold at?;rw [if_pos o.1,ZEP WF]
  obtain ⟨l,z,t,w⟩:=Zud j j[i.toNat].name hl;refine ⟨!decide (j[i.toNat].kind=1)&&decide (1<(l.length:Int)),w.mono λk h=> ?_⟩;unfold Qm Y4;rw [U5,s,m,decide_eq_true o.1,decide_eq_true o.2,decide_eq_true (show i<=(j.length:Int)-1 from WF)];have:decide (UB l= -2)=decide (1<(l.length:Int)):=decide_eq_decide.2 (by rw [(Zjc t).2.2];omega);simp only [ZEH,(ZhC h).1,h.2,this,Bool.and_true,if_true];cases decide (j[i.toNat].kind=1)<;>exact ⟨rfl,rfl⟩
 ·refine ⟨false,Ev.of λk=> ?_⟩;unfold Qm Y4;rw [U5,s]
  by_cases r:0<=i
  ·rw [decide_eq_true r,decide_eq_false (show ¬i<=(j.length:Int)-1 from WF),decide_eq_false (show ¬i<j.length from WF)];exact ⟨rfl,rfl⟩
  ·rw [decide_eq_false r];exact ⟨rfl,rfl⟩
theorem Zt8 (k:Nat) (l:List Zl) (U:List Ma) (h:∀s∈U,QJ k l s=X7 k l s):∀(n:Nat) (out:List Int) (i:Int),ZK k l U n out i=XG k l U n out i
 | 0,_,_=>rfl
 | n+1,out,i=>by
  rw [ZK,XG];simp only [Zt8 k l U h n];cases j:at? U i with
  | none=>rfl
  | some s=>
   have m:s∈U:=by
    unfold at? at j
    split at j
    ·exact Gg j
    ·cases j
   simp only [ZEH,h s m]
theorem Zuc (j:List Zl) (hl:j.length<=1048576) (hp:∀p∈j,p.bk<=2097152) (i:Nat) (hi:i<j.length):∃D:List Int,((D.Pairwise (· < ·)/\∀z∈D,0<=z/\z<j.length)/\Ev λk=>Qy k j (i:Int)=some D/\YY k j (i:Int)=some D)/\∃(N:List Ma) (r:List Int),D=ZrB r/\N.length<=2097153/\Ev λk=>(W7 k j[i]=some N/\Vf k j[i]=some N)/\ZK k j N k [] 0=some r:=by
 obtain ⟨U,hU,l⟩:=ZwZ j[i] (hp _ (Hl hi))
 have o:Ev λk=>∀s∈U,QJ k j s=X7 k j s:=Ev.all U λs _=>by
  obtain ⟨r,_,h⟩:=Zli j s hl;exact h.mono λk h=>h.1.trans h.2.symm
 have w:Tot (λr:List Int=>r.length<=U.length/\∀z∈r,0<=z/\z<j.length) λk=>ZK k j U k [] 0:=by
  refine Tot.loop (λk n (t:List Int×Int)=>ZK k j U n t.1 t.2) (λt=>((t.1.length:Int)<=t.2/\0<=t.2/\t.2<=U.length)/\∀x∈t.1,0<=x/\x<j.length) (λt=>(U.length-t.2).toNat) (s0:=([],0)) ⟨⟨Ha,Ha,Ha⟩,Ha⟩ ?_;rintro ⟨out,i⟩ ⟨⟨M,G,P⟩,B⟩;simp only at M G P B;simp only [ZK];refine .ite (λe=> ?_) λe=>.ret ⟨WF,B⟩;have e:i<U.length:=by simpa using e
  rw [w64 (n:=i+1) WF WF];refine .bind (p:=λr:List Int=>(r.length:Int)<=i+1/\∀x∈r,0<=x/\x<j.length) (.bindAt G e λx _ _=>.bind (p:=λr:Int=> -2<=r/\r<j.length) ?_ λr m=>.ite (λA=>.bindApp WF (by simp;omega) (.ret ⟨by simp;omega,λx T=> ?_⟩)) λ_=>.ret ⟨WF,B⟩) λr m=>.next2 ⟨⟨⟨m.1,by simp only;omega,by simp only;omega⟩,m.2⟩,by simp only;omega⟩
  ·obtain ⟨r,Q,R⟩:=Zli j x hl;exact ⟨r,Q,R.mono λk h=>h.1⟩
  ·rcases He.1 T with h| h
   ·exact B x h
   ·have A:0<=r:=by simpa using A
    simp at h;omega
 obtain ⟨r,⟨r1,r2⟩,I⟩:=w;obtain ⟨s1,C,J⟩:=Zzj r WF;obtain ⟨s2,E,A⟩:=Zqt r WF;subst C;subst E;refine ⟨ZrB r,⟨⟨Zi9 r,λz W=>r2 z (Zgb.1 W)⟩,((l.and o).and (I.and (J.and A))).mono λk ⟨⟨⟨u1,u2⟩,m⟩,X,Y,Z⟩=> ?_⟩,U,r,rfl,hU,(l.and I).mono λk h=>h⟩;have S:GZ ((j.length:Int)-1)=(j.length:Int)-1:=w64 WF WF;unfold Qy YY;rw [U5,S,ZQ hi,decide_eq_true (show (0:Int)<=(i:Int) from WF),decide_eq_true (show (i:Int)<=(j.length:Int)-1 from WF),decide_eq_false (show ¬(i:Int)<0 from WF),decide_eq_false (show ¬(j.length:Int)<=(i:Int) from WF)];simp only [ZEH,Bool.and_true,Hr,ZEO,if_false,u1,u2,X,Y,<-Zt8 k j U m,Z,and_self]
structure GU (ps:List Zl) (U:Int->List Int):Prop where
 asc:∀i,(U i).Pairwise (· < ·)
 bd:∀i,∀z∈U i,0<=z/\z<ps.length
 ev:Ev λk=>∀i,Qy k ps i=some (U i)/\YY k ps i=some (U i)
 src:∀i (h:i<ps.length),∃(N:List Ma) (r:List Int),U (i:Int)=ZrB r/\N.length<=2097153/\Ev λk=>(W7 k ps[i]=some N/\Vf k ps[i]=some N)/\ZK k ps N k [] 0=some r
theorem GU.len {j:List Zl} {U:Int->List Int} (h:GU j U) (i:Int):(U i).length<=j.length:=XA (ZbG (h.asc i)) (h.bd i)
theorem ZvK (j:List Zl) (hl:j.length<=1048576) (hp:∀p∈j,p.bk<=2097152):∃U,GU j U:=by
 obtain ⟨f,hf⟩:=YI (p:=λ(i:Nat) (D:List Int)=>((D.Pairwise (· < ·)/\∀z∈D,0<=z/\z<j.length)/\Ev λk=>Qy k j (i:Int)=some D/\YY k j (i:Int)=some D)/\∀h:i<j.length,∃(N:List Ma) (r:List Int),D=ZrB r/\N.length<=2097153/\Ev λk=>(W7 k j[i]=some N/\Vf k j[i]=some N)/\ZK k j N k [] 0=some r) (List.range j.length) λi l=>by
  obtain ⟨D,t,w⟩:=Zuc j hl hp i (HN.1 l);exact ⟨D,t,λ_=>w⟩
 have m:=Ev.all (List.range j.length) λi l=>(hf i l).1.2;have o:∀i:Int,0<=i/\i<j.length->i.toNat∈List.range j.length:=λi h=>HN.2 WF;refine ⟨λi=>if 0<=i/\i<j.length then f i.toNat else [],λi=> ?_,λi=> ?_,m.mono λk h i=> ?_,λi l=> ?_⟩
 ·split
  ·exact (hf _ (o i ‹_›)).1.1.1
  ·simp
 ·split
  ·exact (hf _ (o i ‹_›)).1.1.2
  ·simp
 ·split
  ·rename_i l;have:=h _ (o i l);rw [show ((i.toNat:Nat):Int)=i from WF] at this;exact this
  ·rename_i l;have A:GZ ((j.length:Int)-1)=(j.length:Int)-1:=w64 WF WF;unfold Qy YY;rw [U5,A]
   by_cases s:0<=i
   ·rw [decide_eq_true s,decide_eq_false (show ¬i<=(j.length:Int)-1 from WF),decide_eq_false (show ¬i<0 from WF),decide_eq_true (show (j.length:Int)<=i from WF)];exact ⟨rfl,rfl⟩
   ·rw [decide_eq_false s,decide_eq_true (show i<0 from WF)];exact ⟨rfl,rfl⟩
 ·rw [if_pos ⟨WF,WF⟩];have:=(hf (i:Int).toNat (by simpa using l)).2 (by simpa using l)
  simpa using this
theorem ZzR {a b n:Nat} (k:a<=n) (l:b<=n) (m:n<=1048576):a*b<=1099511627776:=by
 have j:a*b<=1048576*1048576:=Nat.mul_le_mul WF WF;omega
theorem Zbf {α:Type} {l:List α} {x:α} (h:l.Nodup) (g:x∉l):(l++[x]).Nodup:=HZ.2 ⟨h,Ha,λa j b k e=>by
 rw [Hu] at k;rw [e,k] at j;exact g j⟩
def RS (U:Int->List Int) (i:Int) (r:List Int):Prop:=r.Pairwise (· < ·)/\∀z,z∈r↔Reach U i z
theorem RS.one {U:Int->List Int} {i:Int} {r s:List Int} (h:RS U i r) (g:RS U i s):r=s:=Zuw h.1 g.1 λz=>by rw [h.2,g.2]
theorem Zxp {U:Int->List Int} {n:Nat} (hn:n<=1048576) (W:∀i,∀z∈U i,0<=z/\z<n) (len:∀i,(U i).length<=n) (i:Int):Tot (RS U i) λk=>ZhY k (λx=>some (U x)) i:=by
 unfold ZhY;simp only [ZEH];have Y:=len i;simp only [if_pos (show (U i).length<=17592186044416 from WF)];refine .bind (p:=λr:List Int=>r.length<=n/\∀z,z∈r↔Reach U i z) ?_ λr hr=> ?_
 ·refine Tot.loop (λk m (s:List Int×List Int×Nat)=>Vd k (λx=>some (U x)) m s.1 s.2.1 s.2.2) (λs=>s.1.Nodup/\(∀z∈s.1,Reach U i z)/\(∀z∈s.2.1,Reach U i z)/\(∀z∈U i,z∈s.1\/z∈s.2.1)/\(∀y∈s.1,∀z∈U y,z∈s.1\/z∈s.2.1)/\s.2.2<=n+s.1.length*n) (λs=>(n-s.1.length)*(n+1)+s.2.1.length) (s0:=([],U i,(U i).length)) ⟨Ha,Ha,λz j=>.one j,λz j=>.inr j,Ha,by simp only [List.length_nil];omega⟩ ?_;rintro ⟨out,J,t⟩ ⟨A,w,M,P,Q,X⟩;simp only at A w M P Q X
  have T:∀{z},Reach U i z->0<=z/\z<n:=λh=>by cases h with
   | one h=>exact W _ _ h
   | more _ h=>exact W _ _ h
  have G:out.length<=n:=XA A λz j=>T (w z j);simp only [Vd];cases J with
  | nil=>
   refine .ite (λe=>absurd e Ha) λ_=>.ret ⟨G,ZiU (λx o=> ?_) (λy I x o=> ?_) w⟩
   ·simpa using P x o
   ·simpa using Q y I x o
  | cons x l=>
   refine .ite (λ_=> ?_) λe=>absurd (show decide (0<((x::l).length:Int))=true by simp only [HL,decide_eq_true_eq];omega) e;have R:at? (x::l) 0=some x:=rfl;simp only [R,ZEH];have o:=M x Ha;refine .bind (ZtW out x WF) λb hb=> ?_;subst hb;refine .ite (λe=> ?_) λe=> ?_
   ·have E:x∉out:=by simpa using e
    have S:(out++[x]).length<=n:=XA (Zbf A E) λz j=>by
     rcases He.1 j with h| h
     ·exact T (w z h)
     ·simp at h;subst h;exact T o
    have C:(out++[x]).length=out.length+1:=Ha
    refine .bindApp WF (by simp;omega) ?_;have ht:t+(U x).length<=n+(out.length+1)*n:=by rw [HE,Nat.one_mul];have:=len x;omega
    have hm:=ZzR (show out.length+1<=n from WF) (ZEN n) hn;simp only [if_pos (show t+(U x).length<=17592186044416 from WF)];refine .next3 ⟨⟨?_,λz j=> ?_,λz j=> ?_,λz j=> ?_,λy I z j=> ?_,by rw [C];exact ht⟩, ?_⟩
    ·exact Zbf A E
    ·rcases He.1 j with h| h
     ·exact w z h
     ·simp at h;subst h;exact o
    ·rcases He.1 j with h| h
     ·exact M z (Hz _ h)
     ·exact .more o h
    ·simp only;rcases P z j with h| h
     ·exact .inl (HW _ h)
     ·rcases Hc.1 h with rfl| h
      ·exact .inl Ha
      ·exact .inr (HW _ h)
    ·simp only;rcases He.1 I with h| h
     ·rcases Q y h z j with h| h
      ·exact .inl (HW _ h)
      ·rcases Hc.1 h with rfl| h
       ·exact .inl Ha
       ·exact .inr (HW _ h)
     ·simp at h;subst h;exact .inr (GR _ j)
    ·simp only [C,Hp,HL,List.drop_succ_cons,Gd]
     have e1:(n-out.length)*(n+1)=(n-(out.length+1))*(n+1)+(n+1):=by
      have:n-out.length=(n-(out.length+1))+1:=WF
      rw [this,HE,Nat.one_mul]
     have:=len x;omega
   ·have B:x∈out:=by simpa using e
    refine .next3 ⟨⟨A,w,λz j=>M z (Hz _ j),λz j=> ?_,λy I z j=> ?_,X⟩,Ha⟩
    ·simp only;rcases P z j with h| h
     ·exact .inl h
     ·rcases Hc.1 h with rfl| h
      ·exact .inl B
      ·exact .inr h
    ·simp only;rcases Q y I z j with h| h
     ·exact .inl h
     ·rcases Hc.1 h with rfl| h
      ·exact .inl B
      ·exact .inr h
 ·obtain ⟨s,Z,h2⟩:=Zqt r WF;subst Z;exact .bind ⟨ZrB r,⟨Zi9 r,λz=>by rw [Zgb,hr.2]⟩,h2⟩ λv hv=>.ret hv
theorem bfs {U:Int->List Int} {n:Nat} (hn:n<=1048576) (nd:∀i,(U i).Nodup) (Y:∀i,∀z∈U i,0<=z/\z<n) (i:Int) (W:Nat->Nat->List Int->Int->Option (List Int)) (X:Nat->List Int->Nat->List Int->Int->Option (List Int)) (C:Nat->Int->Option (List Int))
  (G:∀x:Int,0<=x->x<n->Tot (λv=>v=U x) λk=>C k x)
  (h1:∀k m l j,W k (m+1) l j=if decide (j<(l.length:Int))=true then ((at? l j).bind λx=>(C k x).bind λv=>X k v k l 0).bind λy=>W k m y (GZ (j+1)) else some l)
  (h2:∀k v m l j,X k v (m+1) l j=if decide (j<(v.length:Int))=true then ((at? v j).bind λx=>(YG k l x).bind λc=>if (!c)=true then (YJ 8 l [x]).bind λy=>some y else some l).bind λy=>X k v m y (GZ (j+1)) else some l):
  Tot (λr:List Int=>r.length<=n/\∀z,z∈r↔Reach U i z) λk=>W k k (U i) 0:=by
 have T:∀{z},Reach U i z->0<=z/\z<n:=λh=>by cases h with
  | one h=>exact Y _ _ h
  | more _ h=>exact Y _ _ h
 refine Tot.loop (λk m (s:List Int×Int)=>W k m s.1 s.2) (λs=>(0<=s.2/\s.2<=s.1.length)/\s.1.Nodup/\(∀z∈s.1,Reach U i z)/\(∀z∈U i,z∈s.1)/\(∀y∈s.1.take s.2.toNat,∀z∈U y,z∈s.1)) (λs=>(n+1-s.2).toNat) (s0:=(U i,0)) ⟨⟨Ha,Ha⟩,nd i,λz w=>.one w,λz w=>w,Ha⟩ ?_;rintro ⟨l,j⟩ ⟨⟨Z,g2⟩,g3,E,g5,g6⟩;simp only at Z g2 g3 E g5 g6;have hl:l.length<=n:=XA g3 λz w=>T (E z w);simp only [h1];refine .ite (λe=> ?_) λe=>.ret ⟨hl,ZiU g5 (λy B x hx=>g6 y ?_ x hx) E⟩
 ·have e:j<l.length:=by simpa using e
  rw [w64 (n:=j+1) WF WF];refine .bind (p:=λr:List Int=>(∃t,r=l++t)/\r.Nodup/\(∀z∈r,Reach U i z)/\∀y∈l.take (j+1).toNat,∀z∈U y,z∈r) ?_ λr A=>.next2 ⟨⟨⟨by simp only;omega, ?_⟩,A.2.1,A.2.2.1,λz w=> ?_, ?_⟩,by simp only;omega⟩
  ·refine .bindAt Z e λx hx hm=>.bind (G x (T (E x hm)).1 (T (E x hm)).2) λv hv=> ?_;subst hv;have b0:=E x hm;have b2:(U x).length<=n:=XA (nd x) (Y x);refine .mono (p:=λr:List Int=>((∃t,r=l++t)/\r.Nodup/\(∀z∈r,Reach U i z))/\∀z∈U x,z∈r) ?_ λr A=>⟨A.1.1,A.1.2.1,A.1.2.2,λy B z w=> ?_⟩
   ·refine Tot.loop (λk m (s:List Int×Int)=>X k (U x) m s.1 s.2) (λs=>(0<=s.2/\s.2<=(U x).length)/\((∃t,s.1=l++t)/\s.1.Nodup/\(∀z∈s.1,Reach U i z))/\∀z∈(U x).take s.2.toNat,z∈s.1) (λs=>((U x).length-s.2).toNat) (s0:=(l,0)) ⟨⟨Ha,Ha⟩,⟨⟨[],Ha⟩,g3,E⟩,Ha⟩ ?_;rintro ⟨o,q⟩ ⟨⟨p1,p2⟩,⟨⟨t,R⟩,P,Q⟩,S⟩;simp only at p1 p2 R P Q S;have ho:o.length<=n:=XA P λz w=>T (Q z w);simp only [h2];refine .ite (λJ=> ?_) λJ=>.ret ⟨⟨⟨t,R⟩,P,Q⟩, ?_⟩
    ·have J:q<(U x).length:=by simpa using J
     rw [w64 (n:=q+1) WF WF];refine .bind (p:=λr:List Int=>((∃t,r=l++t)/\r.Nodup/\(∀z∈r,Reach U i z))/\∀z∈(U x).take (q+1).toNat,z∈r) ?_ λr A=>.next2 ⟨⟨⟨by simp only;omega,by simp only;omega⟩,A.1,A.2⟩,by simp only;omega⟩;refine .bindAt p1 J λy B b1=>.bind (ZnK o y WF) λc hc=> ?_;subst hc;have ty:∀{z},z∈(U x).take (q+1).toNat↔z=y\/z∈(U x).take q.toNat:=by rw [JR p1];exact Vw B
     refine .ite (λM=>.bindApp WF (by simp;omega) (.ret ⟨⟨⟨t++[y],by rw [R,Hx]⟩, ?_,λz w=> ?_⟩,λz w=> ?_⟩)) λM=>.ret ⟨⟨⟨t,R⟩,P,Q⟩,λz w=> ?_⟩
     ·have M:y∉o:=by simpa using M
      exact Zbf P M
     ·rcases He.1 w with h| h
      ·exact Q z h
      ·simp at h;subst h;exact .more b0 b1
     ·rcases ty.1 w with rfl| h
      ·simp
      ·exact HW _ (S z h)
     ·rcases ty.1 w with rfl| h
      ·simpa using M
      ·exact S z h
    ·have J:¬q<(U x).length:=by simpa using J
     obtain rfl:q=(U x).length:=WF
     simpa using S
   ·rw [JR Z,Vw hx] at B;rcases B with rfl| B
    ·exact A.2 z w
    ·obtain ⟨t,I⟩:=A.1.1;rw [I];exact HW _ (g6 y B z w)
  ·obtain ⟨t,I⟩:=A.1;simp only;rw [I,Hp];omega
  ·obtain ⟨t,I⟩:=A.1;simp only;rw [I];exact HW _ (g5 z w)
  ·obtain ⟨t,I⟩:=A.1;simp only;intro y B z w;refine A.2.2.2 y ?_ z w;rw [I,List.take_append_of_le_length WF] at B;exact B
 ·have e:¬j<l.length:=by simpa using e
  obtain rfl:j=l.length:=WF
  simpa using B
theorem ZCT {U:Int->List Int} {t:List Zl} {b:Bool} {n:Nat} (G:n<=1048576) (J:∀i,(U i).Nodup) (B:∀i,∀z∈U i,0<=z/\z<n) (w:Ev λk=>∀i,Za3 k t i b=some (U i)) (i:Int):Tot (RS U i) λk=>Zja k t i b:=by
 have o:∀x,Tot (λv=>v=U x) λk=>Za3 k t x b:=λx=>⟨U x,rfl,w.mono λk h=>h x⟩;unfold Zja;refine .bind (o i) λv A=> ?_;subst A;refine .bind (bfs G J B i (λk=>ZbV k t b) (λk v=>ZbU k v) (λk x=>Za3 k t x b) (λx _ _=>o x) (λk m l j=>by rw [ZbV]) (λk v m l j=>by rw [ZbU])) λr I=> ?_;obtain ⟨s,C,E⟩:=Zzj r WF;subst C;exact .bind ⟨ZrB r,⟨Zi9 r,λz=>by rw [Zgb,I.2]⟩,E⟩ λv A=>.ret A
theorem Zsk {j:List Zl} (hl:j.length<=1048576) {U:Int->List Int} (h:GU j U) (i:Int):∃A,RS U i A/\Ev λk=>ZjL k j i=some A/\Zd2 k j i=some A:=by
 obtain ⟨A,m,s⟩:=ZCT hl (λi=>ZbG (h.asc i)) h.bd (b:=false) (h.ev.mono λk h i=>by unfold Za3;rw [(h i).1];rfl) i;obtain ⟨B,t,w⟩:=Zxp hl h.bd h.len i;obtain rfl:=m.one t;refine ⟨A,m,(s.and (w.and h.ev)).mono λk ⟨l,o,r⟩=>⟨?_, ?_⟩⟩
 ·have l:Zja k j i false=some A:=l;unfold ZjL;rw [l];rfl
 ·unfold Zd2;have:(λx=>Jh k x j)=λx=>some (U x):=funext λx=>by unfold Jh;rw [(r x).2];rfl
  rw [this];exact o
theorem Zui {j:List Zl} (hl:j.length<=1048576) {U:Int->List Int} (h:GU j U) (i:Int):∃b:Bool,(b=true↔Reach U i i)/\Ev λk=>Zgy k j i=some b/\Uw k j i=some b:=by
 obtain ⟨A,l,r⟩:=Zsk hl h i
 have t:A.length<=j.length:=XA (ZbG l.1) λz s=>by
  cases (l.2 z).1 s with
  | one g=>exact h.bd _ _ g
  | more _ g=>exact h.bd _ _ g
 refine ⟨decide (i∈A),by rw [decide_eq_true_eq,l.2],(r.and (Ev.ge (A.length+1))).mono λk ⟨⟨m,o⟩,w⟩=> ?_⟩;unfold Zgy Uw;rw [m,o];simp only [ZEH,Zeq A i WF (show A.length<k from WF),Zb6 A i WF (show A.length<k from WF),and_self]
end Go.Proofs.YtmcfegjoccgpoaaGreatDoor
