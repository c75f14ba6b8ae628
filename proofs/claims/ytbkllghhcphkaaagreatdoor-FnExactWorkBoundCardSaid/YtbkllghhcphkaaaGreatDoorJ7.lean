import Derived.Test.YtbkllghhcphkaaaGreatDoorJ6
import Derived.Sort.Walk0
set_option linter.unusedSimpArgs false
set_option linter.unusedVariables false
namespace Go.Proofs.YtbkllghhcphkaaaGreatDoor
theorem Zmu:∀{a b:List Int},a.Pairwise (· < ·)->b.Pairwise (· < ·)->(∀x,x∈a↔x∈b)->a=b
 | [],[],_,_,_=>rfl
 | [],y::b,_,_,h=>absurd ((h y).2 (by simp)) (by simp)
 | x::a,[],_,_,h=>absurd ((h x).1 (by simp)) (by simp)
 | x::a,y::b,ha,hb,h=>by
  obtain ⟨ha1,ha2⟩:=List.pairwise_cons.1 ha;obtain ⟨hb1,hb2⟩:=List.pairwise_cons.1 hb
  have hxy:x=y:=by
   rcases List.mem_cons.1 ((h x).1 (by simp)) with e| e
   ·exact e
   ·rcases List.mem_cons.1 ((h y).2 (by simp)) with e'| e'
    ·exact e'.symm
    ·have h1:=hb1 x e;have h2:=ha1 y e';omega
  subst hxy;rw [Zmu ha2 hb2 fun z=>⟨fun hz=> ?_,fun hz=> ?_⟩]
  ·rcases List.mem_cons.1 ((h z).1 (List.mem_cons_of_mem _ hz)) with e| e
   ·subst e;exact absurd (ha1 z hz) (by omega)
   ·exact e
  ·rcases List.mem_cons.1 ((h z).2 (List.mem_cons_of_mem _ hz)) with e| e
   ·subst e;exact absurd (hb1 z hz) (by omega)
   ·exact e
def Zoz (x:Int):List Int->List Int
 | []=>[x]
 | y::l=>if x<y then x::y::l else if x=y then y::l else y::Zoz x l
theorem ZiD {x z:Int}:∀{l:List Int},z∈Zoz x l↔z=x\/z∈l
 | []=>by simp [Zoz]
 | y::l=>by
  simp only [Zoz]
  split
  ·simp
  ·split
   ·rename_i h;subst h;simp
   ·simp only [List.mem_cons,ZiD (l:=l)];constructor
    ·rintro (h| h| h)<;>simp [h]
    ·rintro (h| h| h)<;>simp [h]
theorem Zl3 {x:Int}:∀{l:List Int},l.Pairwise (· < ·)->(Zoz x l).Pairwise (· < ·)
 | [],_=>by simp [Zoz]
 | y::l,h=>by
  obtain ⟨h1,h2⟩:=List.pairwise_cons.1 h;simp only [Zoz]
  split
  ·rename_i hx;refine List.pairwise_cons.2 ⟨fun z hz=> ?_,h⟩;rcases List.mem_cons.1 hz with rfl| hz
   ·exact hx
   ·have:=h1 z hz;omega
  ·split
   ·exact h
   ·refine List.pairwise_cons.2 ⟨fun z hz=> ?_,Zl3 h2⟩;rcases ZiD.1 hz with rfl| hz
    ·omega
    ·exact h1 z hz
def ZnS (xs:List Int):List Int:=xs.foldl (fun s x=>Zoz x s) []
theorem Zge:∀(xs s:List Int),s.Pairwise (· < ·)->(xs.foldl (fun s x=>Zoz x s) s).Pairwise (· < ·)/\∀z,z∈xs.foldl (fun s x=>Zoz x s) s↔z∈xs\/z∈s
 | [],s,h=>⟨h,fun z=>by simp⟩
 | x::xs,s,h=>by
  obtain ⟨h1,h2⟩:=Zge xs (Zoz x s) (Zl3 h);refine ⟨h1,fun z=> ?_⟩;rw [List.foldl_cons,h2,ZiD,List.mem_cons];constructor
  ·rintro (h| h| h)<;>simp [h]
  ·rintro ((h| h)| h)<;>simp [h]
theorem Zcc (xs:List Int):(ZnS xs).Pairwise (· < ·):=(Zge xs [] List.Pairwise.nil).1
theorem Zcb {xs:List Int} {z:Int}:z∈ZnS xs↔z∈xs:=by
 have:=(Zge xs [] List.Pairwise.nil).2 z;simp only [List.not_mem_nil,or_false] at this;exact this
theorem ZnR {xs r:List Int} (h:r.Pairwise (· < ·)) (hm:∀z,z∈r↔z∈xs):r=ZnS xs:=Zmu h (Zcc xs) fun z=>by rw [hm,Zcb]
theorem Zet {l:List Int} (h:l.Pairwise (· < ·)):l.Nodup:=h.imp fun h=>by omega
theorem ZkU:∀{n:Nat} {l:List Nat},l.Nodup->(∀x∈l,x<n)->l.length<=n
 | 0,l,_,hb=>by
  cases l with
  | nil=>simp
  | cons x l=>exact absurd (hb x (by simp)) (by omega)
 | n+1,l,hn,hb=>by
  by_cases h:n∈l
  ·have h1:=ZkU (hn.erase n) (n:=n) fun x hx=>by
    obtain ⟨h2,h3⟩:=(List.Nodup.mem_erase_iff hn).1 hx;have:=hb x h3;omega
   rw [List.length_erase_of_mem h] at h1;omega
  ·have:=ZkU hn (n:=n) fun x hx=>by
    have:=hb x hx;have:x≠n:=fun e=>h (e▸hx);omega
   omega
theorem Uu {n:Nat}:∀{l:List Int},l.Nodup->(∀x∈l,0<=x/\x<n)->l.length<=n:=by
 intro l hn hb
 have h1:(l.map Int.toNat).Nodup:=by
  rw [List.Nodup,List.pairwise_map];exact (List.Pairwise.imp_of_mem (fun {a b} ha hb' hne e=>hne (by have:=hb a ha;have:=hb b hb';omega)) hn)
 have h2:=ZkU h1 fun x hx=>by
  obtain ⟨y,hy,rfl⟩:=List.mem_map.1 hx;have:=hb y hy;show y.toNat<n;omega
 simpa using h2
inductive Reach (U:Int->List Int) (i:Int):Int->Prop where
 | one {j:Int} (h:j∈U i):Reach U i j
 | more {j k:Int} (h:Reach U i j) (hk:k∈U j):Reach U i k
theorem Zfy {U:Int->List Int} {i:Int} {l:List Int} (h0:∀x∈U i,x∈l) (h1:∀y∈l,∀x∈U y,x∈l) (h2:∀x∈l,Reach U i x) (z:Int):z∈l↔Reach U i z:=
 ⟨h2 z,fun h=>by induction h with
  | one h=>exact h0 _ h
  | more _ h ih=>exact h1 _ ih _ h⟩
open Go.RowKit Am
def Tot {α:Type} (p:α->Prop) (f:Nat->Option α):Prop:=∃v,p v/\Ev fun k=>f k=some v
section
variable {α β γ ε O:Type} {p:α->Prop} {q:β->Prop}
theorem Tot.ret {v:α} (h:p v):Tot p fun _=>some v:=⟨v,h,Ev.of fun _=>rfl⟩
theorem Tot.mono {p':α->Prop} {f:Nat->Option α} (h:Tot p f) (g:∀v,p v->p' v):Tot p' f:=by obtain ⟨v,h1,h2⟩:=h;exact ⟨v,g v h1,h2⟩
theorem Tot.bind {f:Nat->Option α} {g:Nat->α->Option β} (h:Tot p f) (hg:∀v,p v->Tot q fun k=>g k v):Tot q fun k=>(f k).bind (g k):=by
 obtain ⟨v,h1,h2⟩:=h;obtain ⟨u,h3,h4⟩:=hg v h1;exact ⟨u,h3,(h2.and h4).mono fun k ⟨e1,e2⟩=>by simp only [e1,Zyl,e2]⟩
theorem Tot.ite {b:Prop} [Decidable b] {f g:Nat->Option β} (h1:b->Tot q f) (h2:¬b->Tot q g):Tot q fun k=>if b then f k else g k:=by
 by_cases h:b
 ·simp only [if_pos h];exact h1 h
 ·simp only [if_neg h];exact h2 h
theorem Tot.of {f:Option α} {v:α} (e:f=some v) (h:p v):Tot p fun _=>f:=⟨v,h,Ev.of fun _=>e⟩
theorem Tot.at {xs:List α} {i:Int} (h0:0<=i) (h1:i<xs.length) (h:∀x,xs[i.toNat]? =some x->x∈xs->p x):Tot p fun _=>at? xs i:=by
 have hl:i.toNat<xs.length:=by omega
 refine .of (v:=xs[i.toNat]) ?_ (h _ (Zyt hl) (List.getElem_mem hl));unfold at?;rw [if_pos h0,Zyt hl]
theorem Tot.bindAt {xs:List α} {i:Int} {g:Nat->α->Option β} (h0:0<=i) (h1:i<xs.length) (h:∀x,xs[i.toNat]? =some x->x∈xs->Tot q fun k=>g k x):Tot q fun k=>(at? xs i).bind (g k):=
 Tot.bind (p:=fun x=>xs[i.toNat]? =some x/\x∈xs) (Tot.at h0 h1 fun x e m=>⟨e,m⟩) fun x hx=>h x hx.1 hx.2
theorem Tot.bindApp {b:Nat} {xs ys:List α} {g:Nat->List α->Option β} (hb:b<=128) (h0:xs.length+ys.length<=1099511627776) (h:Tot q fun k=>g k (xs++ys)):Tot q fun k=>(Yv b xs ys).bind (g k):=by
 simp only [WS h0 hb,Zyl];exact h
def ZiX (Inv:O->Prop) (Post:ε->Prop) (U:Nat->Nat->O->Option ε) (f:Nat->Nat->Option ε):Prop:=
 (∃s,Inv s/\Ev fun k=>∀m,f k m=U k m s)\/∃r,Post r/\Ev fun k=>∀m,f k m=some r
variable {Inv:O->Prop} {Post:ε->Prop} {U:Nat->Nat->O->Option ε}
theorem ZiX.bind {f:Nat->Option α} {g:Nat->Nat->α->Option ε} (h:Tot p f) (hg:∀v,p v->ZiX Inv Post U fun k m=>g k m v):ZiX Inv Post U fun k m=>(f k).bind (g k m):=by
 obtain ⟨v,h1,h2⟩:=h;rcases hg v h1 with ⟨s,h3,h4⟩| ⟨r,h3,h4⟩
 ·exact .inl ⟨s,h3,(h2.and h4).mono fun k ⟨e1,e2⟩ m=>by simp only [e1,Zyl,e2]⟩
 ·exact .inr ⟨r,h3,(h2.and h4).mono fun k ⟨e1,e2⟩ m=>by simp only [e1,Zyl,e2]⟩
theorem ZiX.ite {b:Prop} [Decidable b] {f g:Nat->Nat->Option ε} (h1:b->ZiX Inv Post U f) (h2:¬b->ZiX Inv Post U g):ZiX Inv Post U fun k m=>if b then f k m else g k m:=by
 by_cases h:b
 ·simp only [if_pos h];exact h1 h
 ·simp only [if_neg h];exact h2 h
theorem ZiX.ret {r:ε} (h:Post r):ZiX Inv Post U fun _ _=>some r:=.inr ⟨r,h,Ev.of fun _ _=>rfl⟩
theorem ZiX.next {s:O} (h:Inv s):ZiX Inv Post U fun k m=>U k m s:=.inl ⟨s,h,Ev.of fun _ _=>rfl⟩
theorem ZiX.bindApp {b:Nat} {xs ys:List α} {g:Nat->Nat->List α->Option ε} (hb:b<=128) (h0:xs.length+ys.length<=1099511627776) (h:ZiX Inv Post U fun k m=>g k m (xs++ys)):ZiX Inv Post U fun k m=>(Yv b xs ys).bind (g k m):=by
 simp only [WS h0 hb,Zyl];exact h
theorem Tot.loop (U:Nat->Nat->O->Option ε) (Inv:O->Prop) (μ:O->Nat) {Post:ε->Prop} {s0:O} (h0:Inv s0)
  (step:∀s,Inv s->ZiX (fun s'=>Inv s'/\μ s'<μ s) Post U fun k m=>U k (m+1) s):Tot Post fun k=>U k k s0:=by
 have key:∀n s,μ s=n->Inv s->∃r,Post r/\Ev fun k=>∀j,μ s<j->U k j s=some r:=by
  intro n
  induction n using Nat.strongRecOn with
  | _ n ih=>
   intro s hn hs;rcases step s hs with ⟨s',⟨h1,h2⟩,h3⟩| ⟨r,h1,h2⟩
   ·obtain ⟨r,h4,h5⟩:=ih _ (by omega) s' rfl h1;refine ⟨r,h4,(h3.and h5).mono fun k ⟨e1,e2⟩ j hj=> ?_⟩;obtain ⟨j,rfl⟩:∃i,j=i+1:=⟨j-1,by omega⟩;exact (e1 j).trans (e2 j (by omega))
   ·refine ⟨r,h1,h2.mono fun k e j hj=> ?_⟩;obtain ⟨j,rfl⟩:∃i,j=i+1:=⟨j-1,by omega⟩;exact e j
 obtain ⟨r,h1,h2⟩:=key _ s0 rfl h0;exact ⟨r,h1,(h2.and (Ev.ge (μ s0+1))).mono fun k ⟨e,hk⟩=>e k (by omega)⟩
end
theorem ZiX.next2 {A B ε:Type} {Inv:A×B->Prop} {Post:ε->Prop} {U:Nat->Nat->A×B->Option ε} {a:A} {b:B} (h:Inv (a,b)):ZiX Inv Post U fun k m=>U k m (a,b):=.next h
theorem ZiX.next3 {A B C ε:Type} {Inv:A×B×C->Prop} {Post:ε->Prop} {U:Nat->Nat->A×B×C->Option ε} {a:A} {b:B} {c:C} (h:Inv (a,b,c)):ZiX Inv Post U fun k m=>U k m (a,b,c):=.next h
theorem QX (s:ByteArray):s.data.toList.length=s.size:=by simp
theorem Km (a lo hi:Int):UG a lo hi=some (decide (lo<=a)&&decide (a<=hi)):=by
 unfold UG;cases decide (lo<=a)<;>simp
theorem U2 (a lo hi:Int):X7 a lo hi=some (decide (lo<=a)&&decide (a<=hi)):=by
 unfold X7;cases decide (lo<=a)<;>simp
theorem Zod (n:Int):Qs n=some (decide (-1000000000<=n)&&decide (n<=1000000000)):=by
 unfold Qs;simp only [Km,Zyl]
theorem ZkR (n:Int):We n=some (decide (-1000000000<=n)&&decide (n<=1000000000)):=by
 unfold We;simp only [U2,Zyl]
def Zi3 (c:UInt8):Bool:=decide (97<=(c.toNat:Int))&&decide ((c.toNat:Int)<=122)
def Zks (c:UInt8):Bool:=decide (48<=(c.toNat:Int))&&decide ((c.toNat:Int)<=57)
def ZgQ (i:Nat) (c:UInt8):Bool:=!Zi3 c&&(decide (i=0)||!Zks c)
theorem Zpt (s:ByteArray) (hs:(s.size:Int)<=9223372036854775807) {k:Nat} (hk:s.size<k):ZbA k s=some (!(anyI ZgQ 0 s.data.toList)&&decide (0<(s.size:Int))):=by
 unfold ZbA
 rw [U1 s.data.toList ZgQ (fun i c=>(if (decide (97<=(c.toNat:Int)))=true then some (decide ((c.toNat:Int)<=122)) else some false:Option Bool).bind fun x2=>(if (decide (48<=(c.toNat:Int)))=true then some (decide ((c.toNat:Int)<=57)) else some false:Option Bool).bind fun x4=>
     (if (!x2)=true then if (decide (i=0))=true then some true else some (!x4) else some false:Option Bool)) false () (XR s) (fun j hj=> ?_) (fun n i=> ?_) (by rw [QX];exact hs) (by rw [QX];exact hk)]
 ·cases anyI ZgQ 0 s.data.toList<;>simp
 ·unfold ZgQ Zi3 Zks;cases decide (97<=((s.data.toList[j]).toNat:Int))<;>cases decide (((s.data.toList[j]).toNat:Int)<=122)<;>cases decide (48<=((s.data.toList[j]).toNat:Int))<;>by_cases h0:j=0<;>simp [h0]
 ·rw [XR,QX];cases at? s.data.toList i with
  | none=>rfl
  | some c=>simp only [Zyl,Option.bind_assoc]
theorem ZqU (s:ByteArray) (hs:(s.size:Int)<=9223372036854775807) {k:Nat} (hk:s.size<k):Zed k s=some (!(anyI ZgQ 0 s.data.toList)&&(decide (1<=(s.size:Int))&&decide ((s.size:Int)<=8))):=by
 unfold Zed
 rw [U1 s.data.toList ZgQ (fun i c=>(if (decide (97<=(c.toNat:Int)))=true then some (decide ((c.toNat:Int)<=122)) else some false:Option Bool).bind fun x2=>
     (if (!x2)=true then if (decide (i=0))=true then some true else (if (decide ((c.toNat:Int)<48))=true then some true else some (decide (57<(c.toNat:Int)))) else some false:Option Bool)) false () (WJ s) (fun j hj=> ?_) (fun n i=> ?_) (by rw [QX];exact hs) (by rw [QX];exact hk)]
 ·rw [U2];cases anyI ZgQ 0 s.data.toList<;>simp
 ·unfold ZgQ Zi3 Zks;obtain ⟨c,hc⟩:∃c,c=s.data.toList[j]:=⟨_,rfl⟩;rw [<-hc]
  by_cases h0:j=0
  ·cases decide (97<=(c.toNat:Int))<;>cases decide ((c.toNat:Int)<=122)<;>simp [h0]
  ·by_cases h1:(c.toNat:Int)<48
   ·have h2:¬(48<=(c.toNat:Int)):=by omega
    cases decide (97<=(c.toNat:Int))<;>cases decide ((c.toNat:Int)<=122)<;>simp [h0,h1,h2]
   ·have h2:48<=(c.toNat:Int):=by omega
    by_cases h3:(c.toNat:Int)<=57
    ·have h4:¬(57<(c.toNat:Int)):=by omega
     cases decide (97<=(c.toNat:Int))<;>cases decide ((c.toNat:Int)<=122)<;>simp [h0,h1,h2,h3,h4]
    ·have h4:57<(c.toNat:Int):=by omega
     cases decide (97<=(c.toNat:Int))<;>cases decide ((c.toNat:Int)<=122)<;>simp [h0,h1,h2,h3,h4]
 ·rw [WJ,QX];cases at? s.data.toList i with
  | none=>rfl
  | some c=>simp only [Zyl,Option.bind_assoc]
def XA:List ByteArray:=(Xc).getD []
theorem ZkL:Xc=some XA:=rfl
theorem ZmN (a:ByteArray) {k:Nat} (hk:24<k):Uq k a=some (XA.any fun x=>decide (x=a)):=by
 unfold Uq;rw [ZkL,Zyl];unfold Jg;rw [Xq XA (fun x=>decide (x=a)) (fun x=>some (decide (x=a))) true () (Wb XA a) (fun _ _=>rfl) (fun n i=>by rw [Wb];rfl) (by decide) (show XA.length<k from hk)];cases XA.any fun x=>decide (x=a)<;>rfl
theorem Zm0 (a:ByteArray):Uy a=some (XA.any fun x=>decide (x=a)):=by
 by_cases h:a∈XA
 ·have hb:(XA.any fun x=>decide (x=a))=true:=List.any_eq_true.2 ⟨a,h,by simp⟩;rw [hb];simp only [XA,Xc,Option.getD_some,List.mem_cons,List.not_mem_nil,or_false] at h;rcases h with rfl| rfl| rfl| rfl| rfl| rfl| rfl| rfl| rfl| rfl| rfl| rfl| rfl| rfl| rfl| rfl| rfl| rfl| rfl| rfl| rfl| rfl| rfl| rfl<;>rfl
 ·have hb:(XA.any fun x=>decide (x=a))=false:=by
   rw [List.any_eq_false];intro x hx;simp;rintro rfl;exact h hx
  rw [hb];simp only [XA,Xc,Option.getD_some,List.mem_cons,List.not_mem_nil,or_false,not_or] at h;obtain ⟨h1,h2,h3,h4,h5,h6,h7,h8,h9,h10,h11,h12,h13,h14,h15,h16,h17,h18,h19,h20,h21,h22,h23,h24⟩:=h;unfold Uy ZM;simp [h1,h2,h3,h4,h5,h6,h7,h8,h9,h10,h11,h12,h13,h14,h15,h16,h17,h18,h19,h20,h21,h22,h23,h24]
theorem Zeu (a:ByteArray):∃z,ZM a=some z:=by
 by_cases h:a∈XA
 ·simp only [XA,Xc,Option.getD_some,List.mem_cons,List.not_mem_nil,or_false] at h;rcases h with rfl| rfl| rfl| rfl| rfl| rfl| rfl| rfl| rfl| rfl| rfl| rfl| rfl| rfl| rfl| rfl| rfl| rfl| rfl| rfl| rfl| rfl| rfl| rfl<;>exact ⟨_,rfl⟩
 ·simp only [XA,Xc,Option.getD_some,List.mem_cons,List.not_mem_nil,or_false,not_or] at h;obtain ⟨h1,h2,h3,h4,h5,h6,h7,h8,h9,h10,h11,h12,h13,h14,h15,h16,h17,h18,h19,h20,h21,h22,h23,h24⟩:=h;unfold ZM;simp [h1,h2,h3,h4,h5,h6,h7,h8,h9,h10,h11,h12,h13,h14,h15,h16,h17,h18,h19,h20,h21,h22,h23,h24]
def WH (s:ByteArray):Bool:=!(anyI ZgQ 0 s.data.toList)&&decide (0<(s.size:Int))&&decide ((s.size:Int)<=8)&&!(XA.any fun x=>decide (x=s))
theorem Ja (s:ByteArray) (hs:(s.size:Int)<=9223372036854775807) {k:Nat} (hk:s.size<k) (hk2:24<k):Z0 k s=some (WH s)/\Z2 k s=some (WH s):=by
 constructor
 ·unfold Z0 WH;rw [Zpt s hs hk,ZmN s hk2];cases anyI ZgQ 0 s.data.toList<;>cases decide (0<(s.size:Int))<;>cases decide ((s.size:Int)<=8)<;>simp
 ·unfold Z2 WH;rw [ZqU s hs hk,Zm0 s];have e:decide (1<=(s.size:Int))=decide (0<(s.size:Int)):=by rw [decide_eq_decide];omega
  rw [e];cases anyI ZgQ 0 s.data.toList<;>cases decide (0<(s.size:Int))<;>cases decide ((s.size:Int)<=8)<;>simp
def V8 (c:UInt8):Bool:=decide ((c.toNat:Int)<32)||(decide (126<(c.toNat:Int))||decide ((c.toNat:Int)=34))
theorem ZdG (s:ByteArray) (hs:(s.size:Int)<=9223372036854775807) {k:Nat} (hk:s.size<k):X3 k s=some (!(s.data.toList.any V8)&&decide ((s.size:Int)<=20))/\X8 k s=some (!(s.data.toList.any V8)&&decide ((s.size:Int)<=20)):=by
 have hT:∀x∈s.data.toList,(fun c:UInt8=>(if (decide ((c.toNat:Int)<32))=true then some true else if (decide (126<(c.toNat:Int)))=true then some true else some (decide ((c.toNat:Int)=34)):Option Bool)) x=some (V8 x):=by
  intro x _;unfold V8;simp only;cases decide ((x.toNat:Int)<32)<;>cases decide (126<(x.toNat:Int))<;>simp
 constructor
 ·unfold X3;rw [Xq s.data.toList V8 _ false () (YZ s) hT (fun n i=>by rw [YZ,QX];simp only [Option.bind_assoc]) (by rw [QX];exact hs) (by rw [QX];exact hk)];cases s.data.toList.any V8<;>simp
 ·unfold X8;rw [Xq s.data.toList V8 _ false () (Y0 s) hT (fun n i=>by rw [Y0,QX];simp only [Option.bind_assoc]) (by rw [QX];exact hs) (by rw [QX];exact hk)];cases s.data.toList.any V8<;>simp
theorem Wh {α:Type} {b:Nat} {xs ys:List α} (h:xs.length+ys.length<=4294967296) (hb:b<=16384):Yv b xs ys=some (xs++ys):=by
 unfold Yv;rw [if_pos ⟨by omega,Nat.le_trans (Nat.mul_le_mul h hb) (by omega)⟩]
theorem ZfR {α β:Type} (b:Nat) (hb:b<=16384) (xs:List α) (g:α->β) (G:α->Option β) (u:Nat->List β->Int->Option (List β)) (hG:∀x∈xs,G x=some (g x))
  (hu:∀n out i,u (n+1) out i=if (decide (i<(xs.length:Int)))=true then (at? xs i).bind fun x=>(G x).bind fun y=>(Yv b out [y]).bind fun z=>u n z (IntKind.i64.wrap (i+1)) else some out)
  (hl:xs.length<=1073741824) {k:Nat} (hk:xs.length<k):u k [] 0=some (xs.map g):=by
 have:=ZfI (fun n (s:List β) i=>u n s i) (fun i=>(xs.take i).map g) (some (xs.map g)) xs.length
  (fun n i hi=>by
   try simp only
   rw [hu,if_pos (Z3 hi),YF hi,Zyl,hG _ (List.getElem_mem hi),Zyl,Wh (by simp;omega) hb,Zyl,wS i (by omega),List.take_succ_eq_append_getElem hi,List.map_append]
   rfl)
  (fun n=>by rw [hu,if_neg (X6 (Zyr _)),List.take_length]) hk
 simpa using this
theorem Zep {α:Type} (b:Nat) (hb:b<=16384) (xs:List α) (G:α->Option α) (u:Nat->List α->Int->Option (List α)) (hG:∀x∈xs,G x=some x)
  (hu:∀n out i,u (n+1) out i=if (decide (i<(xs.length:Int)))=true then (at? xs i).bind fun x=>(G x).bind fun y=>(Yv b out [y]).bind fun z=>u n z (IntKind.i64.wrap (i+1)) else some out)
  (hl:xs.length<=1073741824) {k:Nat} (hk:xs.length<k):u k [] 0=some xs:=by
 have:=ZfR b hb xs id G u hG hu hl hk
 simpa using this
theorem ZgX {α ε:Type} (xs:List α) (t:Nat->α->Bool) (u:Nat->Int->Option ε) (yes no:Option ε)
  (hstep:∀n j (h:j<xs.length),t j xs[j]=false->u (n+1) (j:Int)=u n ((j+1:Nat):Int)) (hyes:∀n j (h:j<xs.length),t j xs[j]=true->u (n+1) (j:Int)=yes) (hno:∀n,u (n+1) (xs.length:Int)=no)
  {k:Nat} (hk:xs.length<k):u k 0=if anyI t 0 xs=true then yes else no:=by
 have key:∀(m n i:Nat),i+m=xs.length->m<n->u n (i:Int)=if anyI t i (xs.drop i)=true then yes else no:=by
  intro m
  induction m with
  | zero=>
   intro n i hi hn;obtain ⟨n,rfl⟩:∃j,n=j+1:=⟨n-1,by omega⟩;obtain rfl:i=xs.length:=by omega
   rw [hno,List.drop_length];rfl
  | succ m ih=>
   intro n i hi hn;obtain ⟨n,rfl⟩:∃j,n=j+1:=⟨n-1,by omega⟩;have hil:i<xs.length:=by omega
   rw [List.drop_eq_getElem_cons hil];have e:anyI t i (xs[i]::xs.drop (i+1))=(t i xs[i]||anyI t (i+1) (xs.drop (i+1))):=rfl;rw [e];rcases Bool.eq_false_or_eq_true (t i xs[i]) with ht| ht
   ·rw [hyes n i hil ht,ht];simp
   ·rw [hstep n i hil ht,ih n (i+1) (by omega) (by omega),ht];simp
 have:=key xs.length k 0 (by omega) hk
 simpa using this
theorem Zkn {α ε:Type} (xs:List α) (t:α->Bool) (u:Nat->Int->Option ε) (yes no:Option ε)
  (hstep:∀n j (h:j<xs.length),t xs[j]=false->u (n+1) (j:Int)=u n ((j+1:Nat):Int)) (hyes:∀n j (h:j<xs.length),t xs[j]=true->u (n+1) (j:Int)=yes) (hno:∀n,u (n+1) (xs.length:Int)=no)
  {k:Nat} (hk:xs.length<k):u k 0=if xs.any t=true then yes else no:=by
 have h:=ZgX xs (fun _=>t) u yes no hstep hyes hno hk
 have e:∀(ys:List α) i,anyI (fun _=>t) i ys=ys.any t:=by
  intro ys
  induction ys with
  | nil=>intro i;rfl
  | cons y ys ih=>intro i;simp [anyI,ih]
 rw [h,e]
def before (y x:Zo):Bool:=decide (y.cell<x.cell)||(decide (y.cell=x.cell)&&decide (y.row<x.row))
theorem Zpv (y x:Zo):VQ y x=some (before y x):=by
 unfold VQ before;cases decide (y.cell<x.cell)<;>cases decide (y.cell=x.cell)<;>simp
theorem ZpU (y x:Zo):Xx y x=some (before y x):=by
 unfold Xx before;cases decide (y.cell<x.cell)<;>cases decide (y.cell=x.cell)<;>simp
def ZgS (xs:List Zo) (j:Nat) (x:Zo):Bool:=decide (x.cell<0)||decide (x.row<0)||(decide (0<j)&&!(match xs[j-1]? with | some y=>before y x| none=>true))
theorem Zmv (B:Zo->Zo->Option Bool) (hB:∀y x,B y x=some (before y x)) (xs:List Zo) (hl:xs.length<=4294967296) (j:Nat) (h:j<xs.length):
  (if decide (xs[j].cell<0)=true then some true else if decide (xs[j].row<0)=true then some true else if decide (0<(j:Int))=true then (at? xs (IntKind.i64.wrap ((j:Int)-1))).bind fun x11=>(B x11 xs[j]).bind fun x12=>some (!x12) else some false)=some (ZgS xs j xs[j]):=by
 unfold ZgS
 by_cases h0:0<j
 ·have e:IntKind.i64.wrap ((j:Int)-1)=((j-1:Nat):Int):=by rw [w64 (by omega) (by omega)];omega
  have h1:j-1<xs.length:=by omega
  rw [e,YF h1,Zyt h1];cases decide (xs[j].cell<0)<;>cases decide (xs[j].row<0)<;>simp [h0,hB]
 ·have:j=0:=by omega
  subst this;cases decide (xs[0].cell<0)<;>cases decide (xs[0].row<0)<;>simp
def Zkh (xs:List Zo):Bool:=!anyI (ZgS xs) 0 xs
theorem Zvb (xs:List Zo) (hl:xs.length<=4294967296) {k:Nat} (hk:xs.length<k):WT k xs=some (Zkh xs):=by
 unfold WT Zkh
 rw [U1 xs (ZgS xs) (fun i x3=>if decide (x3.cell<0)=true then some true else if decide (x3.row<0)=true then some true else if decide (0<i)=true then (at? xs (IntKind.i64.wrap (i-1))).bind fun x11=>(VQ x11 x3).bind fun x12=>some (!x12) else some false) false () (YY xs)
  (fun j h=>Zmv VQ Zpv xs hl j h) (fun n i=>by rw [YY];simp only [Option.bind_assoc]) (by omega) hk]
 cases anyI (ZgS xs) 0 xs<;>rfl
def ZaY (n:Int):Bool:=decide (-1000000000<=n)&&decide (n<=1000000000)
theorem Ztf (n:Int):Qs n=some (ZaY n):=Zod n
theorem ZtI (n:Int):We n=some (ZaY n):=ZkR n
def ZgK (cs:List ByteArray) (j:Nat) (x:ByteArray):Bool:=(cs.take j).any fun y=>decide (y=x)
def ZbS (cs:List ByteArray):Bool:=!anyI (ZgK cs) 0 cs
theorem Zn0 (cs:List ByteArray) (x:ByteArray) (hl:cs.length<=4294967296) {k:Nat} (hk:cs.length<k):Jg k cs x=some (cs.any fun y=>decide (y=x)):=by
 unfold Jg;rw [Xq cs (fun y=>decide (y=x)) (fun y=>some (decide (y=x))) true () (Wb cs x) (fun _ _=>rfl) (fun n i=>by rw [Wb];rfl) (by omega) hk];cases cs.any fun y=>decide (y=x)<;>rfl
theorem Zc0 (cs:List ByteArray) (x:ByteArray) (hl:cs.length<=4294967296) {k:Nat} (hk:cs.length<k):VC k cs x=some (KY (fun y=>decide (y=x)) cs):=by
 unfold VC KY
 rw [Zj1 cs (fun y=>decide (y=x)) (QN cs x) (fun i=>some (.inr (i:Int))) (some (.inl ()))
  (fun n i h hp=>by rw [QN,if_pos (Z3 h),YF h,Zyl,if_neg (by simpa using hp),wS i (by omega)])
  (fun n i h hp=>by rw [QN,if_pos (Z3 h),YF h,Zyl,if_pos hp])
  (fun n=>by rw [QN,if_neg (X6 (Zyr _))]) hk]
 split<;>rfl
theorem ZiM (cs:List ByteArray) (j:Nat) (h:j<cs.length):decide (KY (fun y=>decide (y=cs[j])) cs=(j:Int))= !ZgK cs j cs[j]:=by
 have hlt:cs.findIdx (fun y=>decide (y=cs[j]))<cs.length:=List.findIdx_lt_length_of_exists ⟨cs[j],List.getElem_mem h,by simp⟩;unfold KY ZgK;rw [if_pos hlt]
 have hle:cs.findIdx (fun y=>decide (y=cs[j]))<=j:=by
  rcases Nat.lt_or_ge j (cs.findIdx (fun y=>decide (y=cs[j]))) with g| g
  ·have:=List.not_of_lt_findIdx g;simp at this
  ·exact g
 cases hd:(cs.take j).any fun y=>decide (y=cs[j]) with
 | true=>
  obtain ⟨y,hy,hyx⟩:=List.any_eq_true.1 hd;obtain ⟨i,hi,rfl⟩:=List.mem_take_iff_getElem.1 hy
  have:cs.findIdx (fun y=>decide (y=cs[j]))<=i:=by
   rcases Nat.lt_or_ge i (cs.findIdx (fun y=>decide (y=cs[j]))) with g| g
   ·have:=List.not_of_lt_findIdx g;simp at this hyx;exact absurd hyx this
   ·exact g
  simp;omega
 | false=>
  have:¬cs.findIdx (fun y=>decide (y=cs[j]))<j:=by
   intro g;have h1:=List.any_eq_false.1 hd (cs[cs.findIdx fun y=>decide (y=cs[j])]) (List.mem_take_iff_getElem.2 ⟨_,by omega,rfl⟩);have h2:=List.findIdx_getElem (xs:=cs) (p:=fun y=>decide (y=cs[j])) (w:=hlt);exact h1 h2
  simp;omega
theorem ZmO (cs:List ByteArray) (hl:cs.length<=4294967296) {k:Nat} (hk:cs.length<k):Vv k cs=some (ZbS cs):=by
 unfold Vv ZbS
 have hs:∀j:Nat,j<cs.length->Zb8 cs 0 (j:Int)=some (cs.take j):=fun j h=>by
  unfold Zb8;rw [if_pos ⟨by omega,by omega,by omega⟩];simp
 have hh:∀j (h:j<cs.length),Jg k (cs.take j) cs[j]=some (ZgK cs j cs[j]):=fun j h=>Zn0 (cs.take j) cs[j] (by simp;omega) (by simp;omega)
 rw [ZgX cs (ZgK cs) (Yd k cs) (some (.inr false)) (some (.inl ()))
  (fun n j h ht=>by rw [Yd,if_pos (Z3 h),hs j h,Zyl,YF h,Zyl,hh j h,Zyl,ht,if_neg (by simp),wS j (by omega)])
  (fun n j h ht=>by rw [Yd,if_pos (Z3 h),hs j h,Zyl,YF h,Zyl,hh j h,Zyl,ht,if_pos rfl])
  (fun n=>by rw [Yd,if_neg (X6 (Zyr _))]) hk]
 cases anyI (ZgK cs) 0 cs<;>rfl
theorem Zm1 (cs:List ByteArray) (hl:cs.length<=4294967296) {k:Nat} (hk:cs.length<k):VD k cs=some (ZbS cs):=by
 unfold VD ZbS
 rw [ZgX cs (ZgK cs) (Yf k cs) (some (.inr false)) (some (.inl ()))
  (fun n j h ht=>by rw [Yf,if_pos (Z3 h),YF h,Zyl,Zc0 cs _ hl hk,Zyl,ZiM cs j h,ht,if_neg (by simp),wS j (by omega)])
  (fun n j h ht=>by rw [Yf,if_pos (Z3 h),YF h,Zyl,Zc0 cs _ hl hk,Zyl,ZiM cs j h,ht];rfl)
  (fun n=>by rw [Yf,if_neg (X6 (Zyr _))]) hk]
 cases anyI (ZgK cs) 0 cs<;>rfl
def ZcK (cs:List ByteArray):Bool:=!(cs.any fun s=>!WH s)&&(decide (1<=(cs.length:Int))&&decide ((cs.length:Int)<=4))&&ZbS cs
theorem Zka (cs:List ByteArray) (hl:cs.length<=1048576) (hs:∀s∈cs,s.size<=1048576) {k:Nat} (hk:1048600<k):VP k cs=some (ZcK cs)/\Vl k cs=some (ZcK cs):=by
 have hn:∀s∈cs,Z0 k s=some (WH s)/\Z2 k s=some (WH s):=fun s h=>Ja s (by have:=hs s h;omega) (by have:=hs s h;omega) (by omega);constructor
 ·unfold VP ZcK;rw [Xq cs (fun s=>!WH s) (fun s=>(Z0 k s).bind fun b=>some (!b)) false () (QG k cs) (fun s h=>by rw [(hn s h).1];rfl) (fun n i=>by rw [QG];simp only [Option.bind_assoc,Zyl]) (by omega) (by omega)];simp only [Km,ZmO cs (by omega) (show cs.length<k by omega),Zyl];cases cs.any fun s=>!WH s<;>cases decide (1<=(cs.length:Int))<;>cases decide ((cs.length:Int)<=4)<;>simp
 ·unfold Vl ZcK;rw [Xq cs (fun s=>!WH s) (fun s=>(Z2 k s).bind fun b=>some (!b)) false () (Qm k cs) (fun s h=>by rw [(hn s h).2];rfl) (fun n i=>by rw [Qm];simp only [Option.bind_assoc,Zyl]) (by omega) (by omega)];simp only [U2,Zm1 cs (by omega) (show cs.length<k by omega),Zyl];cases cs.any fun s=>!WH s<;>cases decide (1<=(cs.length:Int))<;>cases decide ((cs.length:Int)<=4)<;>simp
def ZdY (nc:Nat) (r:ZN):Bool:=!decide ((r.cells.length:Int)=(nc:Int))||!Zkh r.from_||r.cells.any fun n=>!ZaY n
def Zbr (v:Za):Bool:=ZcK v.columns&&!decide (12<(v.rows.length:Int))&&!v.rows.any (ZdY v.columns.length)
structure Small (v:Za):Prop where
 cols:v.columns.length<=1048576
 names:∀s∈v.columns,s.size<=1048576
 rows:v.rows.length<=1048576
 cells:∀r∈v.rows,r.cells.length<=1048576/\r.from_.length<=1048576
 list:v.list.length<=1048576
 text:v.text.size<=1048576
theorem Za.small {v:Za} (h:v.bk<=1048576):Small v:=by
 have e:=v.ZH;have l1:=Yj (f:=Za.bk) (xs:=v.list);have l2:=Yj (f:=ByteArray.size) (xs:=v.columns);have l3:=Yj (f:=ZN.bk) (xs:=v.rows);refine ⟨by omega,fun s hs=>by have:=QA (f:=ByteArray.size) hs;omega,by omega,fun r hr=> ?_,by omega,by omega⟩;have h1:=QA (f:=ZN.bk) hr;have h2:=r.ZH;have h3:=Yj (f:=fun _:Int=>0) (xs:=r.cells);have h4:=Yj (f:=fun _:Zo=>0) (xs:=r.from_);constructor<;>omega
theorem Za.Zoq {v x:Za} (h:x∈v.list):x.bk<=v.bk:=by rw [Za.ZH v];have:=QA (f:=Za.bk) h;omega
theorem Zhr (v:Za) (h:Small v) {k:Nat} (hk:1048600<k):Zbx k v=some (Zbr v)/\ZbL k v=some (Zbr v):=by
 obtain ⟨c1,c2⟩:=Zka v.columns h.cols h.names hk;have l:=h.rows;constructor
 ·unfold Zbx Zbr
  have cells:∀r∈v.rows,Xb r k 0=some (if (r.cells.any fun n=>!ZaY n)=true then .inr false else .inl ()):=fun r hr=>
   Xq r.cells (fun n=>!ZaY n) (fun n=>(Qs n).bind fun b=>some (!b)) false () (Xb r) (fun n _=>by rw [Ztf];rfl) (fun n i=>by rw [Xb];simp only [Option.bind_assoc,Zyl]) (by have:=(h.cells r hr).1;omega) (by have:=(h.cells r hr).1;omega)
  have asc:∀r∈v.rows,WT k r.from_=some (Zkh r.from_):=fun r hr=>Zvb r.from_ (by have:=(h.cells r hr).2;omega) (by have:=(h.cells r hr).2;omega)
  have hb:∀n j (hj:j<v.rows.length),Qg k v (n+1) (j:Int)=if ZdY v.columns.length v.rows[j]=true then some (.inr false) else Qg k v n ((j+1:Nat):Int):=fun n j hj=>by
   rw [Qg,if_pos (Z3 hj),YF hj,Zyl,asc _ (List.getElem_mem hj),cells _ (List.getElem_mem hj),wS j (by omega)];unfold ZdY;cases decide ((v.rows[j].cells.length:Int)=(v.columns.length:Int))<;>cases Zkh v.rows[j].from_<;>cases v.rows[j].cells.any fun n=>!ZaY n<;>simp
  rw [Zkn v.rows (ZdY v.columns.length) (Qg k v) (some (.inr false)) (some (.inl ()))
   (fun n j hj ht=>by rw [hb n j hj,ht,if_neg (by simp)]) (fun n j hj ht=>by rw [hb n j hj,ht,if_pos rfl]) (fun n=>by rw [Qg,if_neg (X6 (Zyr _))]) (by omega),c1]
  cases ZcK v.columns<;>cases decide (12<(v.rows.length:Int))<;>cases v.rows.any (ZdY v.columns.length)<;>simp
 ·unfold ZbL Zbr
  have cells:∀r∈v.rows,Xl r k 0=some (if (r.cells.any fun n=>!ZaY n)=true then .inr false else .inl ()):=fun r hr=>
   Xq r.cells (fun n=>!ZaY n) (fun n=>(We n).bind fun b=>some (!b)) false () (Xl r) (fun n _=>by rw [ZtI];rfl) (fun n i=>by rw [Xl];simp only [Option.bind_assoc,Zyl]) (by have:=(h.cells r hr).1;omega) (by have:=(h.cells r hr).1;omega)
  have asc:∀r∈v.rows,Xk r k 0=some (if Zkh r.from_=true then .inl () else .inr false):=fun r hr=>by
   have:=U1 r.from_ (ZgS r.from_) (fun i x3=>if decide (x3.cell<0)=true then some true else if decide (x3.row<0)=true then some true else if decide (0<i)=true then (at? r.from_ (IntKind.i64.wrap (i-1))).bind fun x11=>(Xx x11 x3).bind fun x12=>some (!x12) else some false) false () (Xk r)
    (fun j hj=>Zmv Xx ZpU r.from_ (by have:=(h.cells r hr).2;omega) j hj) (fun n i=>by rw [Xk]) (by have:=(h.cells r hr).2;omega) (k:=k) (by have:=(h.cells r hr).2;omega)
   rw [this];unfold Zkh;cases anyI (ZgS r.from_) 0 r.from_<;>rfl
  have hb:∀n j (hj:j<v.rows.length),Qk k v (n+1) (j:Int)=if ZdY v.columns.length v.rows[j]=true then some (.inr false) else Qk k v n ((j+1:Nat):Int):=fun n j hj=>by
   rw [Qk,if_pos (Z3 hj),YF hj,Zyl,asc _ (List.getElem_mem hj),cells _ (List.getElem_mem hj),wS j (by omega)];unfold ZdY;cases decide ((v.rows[j].cells.length:Int)=(v.columns.length:Int))<;>cases Zkh v.rows[j].from_<;>cases v.rows[j].cells.any fun n=>!ZaY n<;>simp
  rw [Zkn v.rows (ZdY v.columns.length) (Qk k v) (some (.inr false)) (some (.inl ()))
   (fun n j hj ht=>by rw [hb n j hj,ht,if_neg (by simp)]) (fun n j hj ht=>by rw [hb n j hj,ht,if_pos rfl]) (fun n=>by rw [Qk,if_neg (X6 (Zyr _))]) (by omega),c2]
  cases ZcK v.columns<;>cases decide (12<(v.rows.length:Int))<;>cases v.rows.any (ZdY v.columns.length)<;>simp
theorem Zj0 {α O:Type} (xs:List α) (F:O->α->O) (G:O->α->Option O) (z:O) (u:Nat->O->Int->Option O) (hG:∀s,∀x∈xs,G s x=some (F s x))
  (hu:∀n s i,u (n+1) s i=if decide (i<(xs.length:Int))=true then (at? xs i).bind fun x=>(G s x).bind fun y=>u n y (IntKind.i64.wrap (i+1)) else some s) (hl:xs.length<=4294967296) {k:Nat} (hk:xs.length<k):u k z 0=some (xs.foldl F z):=by
 have:=ZfI u (fun i=>(xs.take i).foldl F z) (some (xs.foldl F z)) xs.length
  (fun n i hi=>by
   rw [hu,if_pos (Z3 hi),YF hi,Zyl,hG _ _ (List.getElem_mem hi),Zyl,wS i (by omega),List.take_succ_eq_append_getElem hi,List.foldl_append]
   rfl)
  (fun n=>by rw [hu,if_neg (X6 (Zyr _)),List.take_length]) hk
 simpa using this
theorem Zu9 (a b:Int):Vs a b=some (if b>a then b else a):=by
 unfold Vs
 by_cases h:b<a
 ·rw [if_pos (by simpa using h),if_neg (by omega)]
 ·rw [if_neg (by simpa using h)]
  split<;>first | rfl| (congr 1;omega)
theorem Zm5:∀v:Za,v.bk<=1048576->∃d,Ev fun k=>Xi k v=some d/\Xn k v=some d:=by
 refine Za.ind fun v ih hb=> ?_;have l:=(Za.small hb).list;obtain ⟨d,hd⟩:=V7 v.list (p:=fun x d=>Ev fun k=>Xi k x=some d/\Xn k x=some d) fun y hy=>ih y hy (by have:=Za.Zoq hy;omega);refine ⟨IntKind.i64.wrap (v.list.foldl (fun a x=>if d x>a then d x else a) 0+1),(((Ev.all v.list hd).and (Ev.ge (v.list.length+1))).pred ?_)⟩;rintro k ⟨hx,hk⟩;constructor
 ·rw [Xi,Zj0 v.list (fun a x=>if d x>a then d x else a) (fun s x=>(Xi k x).bind fun y=>Vs s y) 0 (XS (Xi k) v) (fun s x h=>by rw [(hx x h).1,Zyl,Zu9]) (fun n s i=>by rw [XS];simp only [Option.bind_assoc]) (by omega) (by omega)]
  rfl
 ·rw [Xn,Zj0 v.list (fun a x=>if d x>a then d x else a) (fun s x=>(Xn k x).bind fun y=>some (if y>s then y else s)) 0 (XV (Xn k) v) (fun s x h=>by rw [(hx x h).2,Zyl]) (fun n s i=>by rw [XV];simp only [Option.bind_assoc,Zyl]) (by omega) (by omega)]
  rfl
def Zr8 (x:Za):Bool:=decide (x.kind=1)||decide (x.kind=2)||decide (x.kind=3)
def Zfp (b:Za->Bool) (d:Int) (v:Za):Bool:=!(v.list.any fun x=>!(Zr8 x&&b x))&&(decide ((v.list.length:Int)<=8)&&decide (d<=3))
def Zjr (s:ByteArray):Bool:=!(s.data.toList.any V8)&&decide ((s.size:Int)<=20)
def Kz (b:Za->Bool) (d:Int) (v:Za):Bool:=
 let L:=decide ((v.list.length:Int)=0)
 let C:=decide ((v.columns.length:Int)=0)&&decide ((v.rows.length:Int)=0)
 let T:=decide (v.text=(⟨#[]⟩:ByteArray))
 let N:=decide (v.n=0)
 let S:=decide (v.step=0)
 if v.kind=1 then L&&C&&S&&T&&ZaY v.n
 else if v.kind=2 then L&&C&&N&&S&&Zjr v.text
 else if v.kind=3 then C&&N&&S&&T&&Zfp b d v
 else if v.kind=4 then L&&C&&T&&ZaY v.n&&ZaY v.step
 else if v.kind=5 then L&&N&&S&&T&&Zbr v
 else if v.kind=6 then L&&C&&S&&T&&(decide (1<=v.n)&&decide (v.n<=8))
 else false
theorem ZlJ (n:Nat):decide (0<(n:Int))= !decide ((n:Int)=0):=by
 cases n with
 | zero=>rfl
 | succ n=>simp;omega
theorem two_pos (m n:Nat) (hm:m<=1048576) (hn:n<=1048576):decide (0<IntKind.i64.wrap ((m:Int)+(n:Int)))= !(decide ((m:Int)=0)&&decide ((n:Int)=0)):=by
 rw [w64 (by omega) (by omega)];cases m with
 | zero=>rw [Int.natCast_zero,Int.zero_add,ZlJ];simp
 | succ m=>
  have e1:decide (0<(((m+1:Nat):Int))+(n:Int))=true:=by simp;omega
  have e2:decide (((m+1:Nat):Int)=0)=false:=by simp;omega
  rw [e1,e2];rfl
theorem ZnY (b:Za->Bool) (d:Int) (v:Za) (hl:v.list.length<=1048576) {k:Nat} (hk:v.list.length<k) (hb:∀x∈v.list,ZK k x=some (b x)) (hd:Xi k v=some d):JT (k+1) v=some (Zfp b d v):=by
 rw [JT,Xq v.list (fun x=>!(Zr8 x&&b x)) (fun x=>(Je x).bind fun x4=>if (!x4)=true then some true else (ZK k x).bind fun x5=>some (!x5)) false () (Wq (ZK k) v)
  (fun x h=>by
   rw [hb x h];unfold Je Zr8;cases decide (x.kind=1)<;>cases decide (x.kind=2)<;>cases decide (x.kind=3)<;>cases b x<;>rfl)
  (fun n i=>by rw [Wq];simp only [Option.bind_assoc]) (by omega) (by omega)]
 unfold Zfp;rw [hd];cases v.list.any fun x=>!(Zr8 x&&b x)<;>cases decide ((v.list.length:Int)<=8)<;>simp
theorem ZmM (b:Za->Bool) (d:Int) (v:Za) (sm:Small v) {k:Nat} (hk:1048700<k) (hl:v.kind=3->JT k v=some (Zfp b d v)):ZK (k+1) v=some (Kz b d v):=by
 have ht:=(ZdG v.text (by have:=sm.text;omega) (k:=k) (by have:=sm.text;omega)).1;have hT:=(Zhr v sm (k:=k) (by omega)).1;have htx:(!(v.text.data.toList.any V8)&&decide ((v.text.size:Int)<=20))=Zjr v.text:=rfl;rw [htx] at ht;rw [ZK];simp only [Ztf,ht,hT,Km,Zyl,ZlJ,two_pos _ _ sm.cols sm.rows];unfold Kz;generalize decide ((v.list.length:Int)=0)=L;generalize decide ((v.columns.length:Int)=0)=C1;generalize decide ((v.rows.length:Int)=0)=C2;generalize decide (v.text=(⟨#[]⟩:ByteArray))=T;generalize decide (v.n=0)=N;generalize decide (v.step=0)=S;generalize ZaY v.n=I;generalize ZaY v.step=J;generalize Zjr v.text=X;generalize Zbr v=Y;generalize (decide (1<=v.n)&&decide (v.n<=8))=Z
 by_cases h1:v.kind=1
 ·simp only [h1];cases L<;>cases C1<;>cases C2<;>cases T<;>cases S<;>rfl
 by_cases h2:v.kind=2
 ·simp only [h2];cases L<;>cases C1<;>cases C2<;>cases N<;>cases S<;>rfl
 by_cases h3:v.kind=3
 ·rw [hl h3];simp only [h3,Zyl];generalize Zfp b d v=Q;cases C1<;>cases C2<;>cases T<;>cases N<;>cases S<;>rfl
 by_cases h4:v.kind=4
 ·simp only [h4];cases L<;>cases C1<;>cases C2<;>cases T<;>cases I<;>cases J<;>rfl
 by_cases h5:v.kind=5
 ·simp only [h5];cases L<;>cases T<;>cases N<;>cases S<;>rfl
 by_cases h6:v.kind=6
 ·simp only [h6];cases L<;>cases C1<;>cases C2<;>cases T<;>cases S<;>rfl
 simp only [h1,h2,h3,h4,h5,h6,decide_false,if_false,Bool.not_false,if_true];cases L<;>cases C1<;>cases C2<;>cases T<;>cases S<;>rfl
theorem ZmZ (b:Za->Bool) (d:Int) (v:Za) (sm:Small v) {k:Nat} (hk:1048700<k) (hb:∀x∈v.list,ZD k x=some (b x)) (hd:Xn k v=some d):ZD (k+1) v=some (Kz b d v):=by
 have ht:=(ZdG v.text (by have:=sm.text;omega) (k:=k) (by have:=sm.text;omega)).2;have hT:=(Zhr v sm (k:=k) (by omega)).2;have htx:(!(v.text.data.toList.any V8)&&decide ((v.text.size:Int)<=20))=Zjr v.text:=rfl;rw [htx] at ht
 have hloop:=Xq v.list (fun x=>!(Zr8 x&&b x)) (fun x14=>if (!decide (x14.kind=1))=true then if (!decide (x14.kind=2))=true then if (!decide (x14.kind=3))=true then some true else (ZD k x14).bind fun x16=>some (!x16) else (ZD k x14).bind fun x17=>some (!x17) else (ZD k x14).bind fun x18=>some (!x18)) false () (YB (ZD k) v)
  (fun x h=>by
   rw [hb x h];unfold Zr8;cases decide (x.kind=1)<;>cases decide (x.kind=2)<;>cases decide (x.kind=3)<;>cases b x<;>rfl)
  (fun n i=>by rw [YB]) (by have:=sm.list;omega) (k:=k) (by have:=sm.list;omega)
 rw [ZD];simp only [ZtI,ht,hT,hd,U2,Zyl,hloop];unfold Kz Zfp;generalize decide ((v.list.length:Int)=0)=L;generalize decide ((v.columns.length:Int)=0)=C1;generalize decide ((v.rows.length:Int)=0)=C2;generalize decide (v.text=(⟨#[]⟩:ByteArray))=T;generalize decide (v.n=0)=N;generalize decide (v.step=0)=S;generalize ZaY v.n=I;generalize ZaY v.step=J;generalize Zjr v.text=X;generalize Zbr v=Y;generalize (decide (1<=v.n)&&decide (v.n<=8))=Z;generalize (v.list.any fun x=>!(Zr8 x&&b x))=A;generalize decide ((v.list.length:Int)<=8)=B8;generalize decide (d<=3)=D3
 by_cases h1:v.kind=1
 ·simp only [h1];cases L<;>cases C1<;>cases C2<;>cases T<;>cases S<;>rfl
 by_cases h2:v.kind=2
 ·simp only [h2];cases L<;>cases C1<;>cases C2<;>cases N<;>cases S<;>rfl
 by_cases h3:v.kind=3
 ·simp only [h3];cases L<;>cases A<;>cases B8<;>cases C1<;>cases C2<;>cases T<;>cases N<;>cases S<;>rfl
 by_cases h4:v.kind=4
 ·simp only [h4];cases L<;>cases C1<;>cases C2<;>cases T<;>cases I<;>cases J<;>rfl
 by_cases h5:v.kind=5
 ·simp only [h5];cases L<;>cases C1<;>cases C2<;>cases T<;>cases N<;>cases S<;>rfl
 by_cases h6:v.kind=6
 ·simp only [h6];cases L<;>cases C1<;>cases C2<;>cases T<;>cases S<;>rfl
 simp only [h1,h2,h3,h4,h5,h6,decide_false,if_false];cases L<;>cases C1<;>cases C2<;>rfl
structure VOk (v:Za):Prop where
 num:v.kind=1->ZaY v.n=true
 els:v.kind=3->∀x∈v.list,x.kind=1->ZaY x.n=true
 tab:v.kind=5->Zbr v=true
theorem Zhp:∀v:Za,v.bk<=1048576->∃b:Bool,(b=true->VOk v)/\Ev fun k=>ZK k v=some b/\ZD k v=some b:=by
 refine Za.ind fun v ih hb=> ?_;have sm:=Za.small hb;have hl:=sm.list;obtain ⟨b,hbv⟩:=V7 v.list (p:=fun x (b:Bool)=>(b=true->VOk x)/\Ev fun k=>ZK k x=some b/\ZD k x=some b) fun y hy=>ih y hy (by have:=Za.Zoq hy;omega);obtain ⟨d,hd⟩:=Zm5 v hb;have hall:=Ev.all v.list fun x hx=>(hbv x hx).2;have e1:Ev fun k=>JT k v=some (Zfp b d v):=((hall.and (hd.and (Ev.ge 1048700))).pred fun k ⟨h1,h2,h3⟩=>ZnY b d v hl (by omega) (fun x hx=>(h1 x hx).1) h2.1);refine ⟨Kz b d v,fun hv=> ?_,((hall.and (hd.and (e1.and (Ev.ge 1048701)))).pred fun k ⟨h1,h2,h3,h4⟩=>⟨ZmM b d v sm (by omega) fun _=>h3,ZmZ b d v sm (by omega) (fun x hx=>(h1 x hx).2) h2.2⟩)⟩;unfold Kz at hv;refine ⟨fun hk=> ?_,fun hk x hx hk1=> ?_,fun hk=> ?_⟩
 ·simp only [hk] at hv;simp only [if_true,Zyq] at hv;exact hv.2
 ·simp only [hk] at hv;simp [Zfp] at hv;exact ((hbv x hx).1 (hv.2.1 x hx).2).num hk1
 ·simp only [hk] at hv;simp at hv;exact hv.2
theorem ZoY {α:Type} {r:α->α->Prop} (ir:∀a,¬r a a) (tr:∀{a b c},r a b->r b c->r a c):∀{a b:List α},a.Pairwise r->b.Pairwise r->(∀x,x∈a↔x∈b)->a=b
 | [],[],_,_,_=>rfl
 | [],y::b,_,_,h=>absurd ((h y).2 (by simp)) (by simp)
 | x::a,[],_,_,h=>absurd ((h x).1 (by simp)) (by simp)
 | x::a,y::b,ha,hb,h=>by
  obtain ⟨ha1,ha2⟩:=List.pairwise_cons.1 ha;obtain ⟨hb1,hb2⟩:=List.pairwise_cons.1 hb
  have hxy:x=y:=by
   rcases List.mem_cons.1 ((h x).1 (by simp)) with e| e
   ·exact e
   ·rcases List.mem_cons.1 ((h y).2 (by simp)) with e'| e'
    ·exact e'.symm
    ·exact absurd (tr (hb1 x e) (ha1 y e')) (ir _)
  subst hxy;rw [ZoY ir tr ha2 hb2 fun z=>⟨fun hz=> ?_,fun hz=> ?_⟩]
  ·rcases List.mem_cons.1 ((h z).1 (List.mem_cons_of_mem _ hz)) with e| e
   ·subst e;exact absurd (ha1 z hz) (ir _)
   ·exact e
  ·rcases List.mem_cons.1 ((h z).2 (List.mem_cons_of_mem _ hz)) with e| e
   ·subst e;exact absurd (hb1 z hz) (ir _)
   ·exact e
theorem Zoy {α:Type} {r:α->α->Prop} (tr:∀{a b c},r a b->r b c->r a c) {out:List α} {x:α} {j:Nat} (h:out.Pairwise r) (h1:∀y∈out.take j,r y x) (h2:∀y,out[j]? =some y->r x y):(out.take j++x::out.drop j).Pairwise r:=by
 have hh:=h;rw [<-List.take_append_drop j out,List.pairwise_append] at hh;obtain ⟨p1,p2,p3⟩:=hh
 have h3:∀z∈out.drop j,r x z:=by
  cases hd:out.drop j with
  | nil=>simp
  | cons y l=>
   have hy:out[j]? =some y:=by
    have:=congrArg (fun l:List α=>l[0]?) hd
    simpa using this
   intro z hz;rw [hd] at p2;rcases List.mem_cons.1 hz with rfl| hz
   ·exact h2 _ hy
   ·exact tr (h2 _ hy) ((List.pairwise_cons.1 p2).1 z hz)
 refine List.pairwise_append.2 ⟨p1,List.pairwise_cons.2 ⟨h3,p2⟩,fun a ha b hb=> ?_⟩;rcases List.mem_cons.1 hb with rfl| hb
 ·exact h1 a ha
 ·exact p3 a ha b hb
theorem Zow {α:Type} {out:List α} {x z:α} {j:Nat}:z∈out.take j++x::out.drop j↔z=x\/z∈out:=by
 have:z∈out↔z∈out.take j\/z∈out.drop j:=by rw [<-List.mem_append,List.take_append_drop]
 rw [this];simp only [List.mem_append,List.mem_cons];constructor
 ·rintro (h| h| h)<;>simp [h]
 ·rintro (h| h| h)<;>simp [h]
theorem Zox {α:Type} {out:List α} {x:α} {j:Nat}:(out.take j++x::out.drop j).length=out.length+1:=by
 have:=congrArg List.length (List.take_append_drop j out);simp only [List.length_append,List.length_cons] at this ⊢;omega
def nLt (x y:ByteArray):Prop:=toL x<toL y
instance (x y:ByteArray):Decidable (nLt x y):=inferInstanceAs (Decidable (toL x<toL y))
theorem ZlM (x y:ByteArray):ZkK x y=decide (nLt x y):=by
 show Op.bytesLess x.toList y.toList=decide (toL x<toL y);rw [Go.Proofs.bytesLess_eq,Lib.toList_data,Lib.toList_data];rfl
theorem ZnG {x y:ByteArray} (h:toL x=toL y):x=y:=by rw [<-ZkQ x,h,ZkQ]
theorem Zoh (a:ByteArray):¬nLt a a:=List.lt_irrefl _
theorem Zqy {a b c:ByteArray} (h:nLt a b) (g:nLt b c):nLt a c:=List.lt_trans h g
theorem Zru {x y:ByteArray} (h:¬nLt y x) (hne:y≠x):nLt x y:=by
 by_cases g:nLt x y
 ·exact g
 ·exact absurd (ZnG (List.le_antisymm (List.not_lt.1 g) (List.not_lt.1 h))) hne
def NS (L r:List ByteArray):Prop:=r.Pairwise nLt/\∀z,z∈r↔z∈L
theorem NS.one {L M r s:List ByteArray} (h:NS L r) (g:NS M s) (e:∀z,z∈L↔z∈M):r=s:=ZoY Zoh Zqy h.1 g.1 fun z=>by rw [h.2,g.2,e]
theorem Q0 {α:Type} {L:List α} {i:Nat} {x:α} (hx:L[i]? =some x) {z:α}:z∈L.take (i+1)↔z=x\/z∈L.take i:=by
 obtain ⟨hi,rfl⟩:=List.getElem?_eq_some_iff.1 hx;rw [List.take_succ_eq_append_getElem hi,List.mem_append,List.mem_singleton];exact or_comm
theorem W3 {i:Int} (h:0<=i):(i+1).toNat=i.toNat+1:=by omega
theorem ZnP {xs:List ByteArray} (h:xs.Nodup):(Zjw xs).Pairwise nLt:=by
 unfold Zjw;rw [List.pairwise_map];have hp:=List.mergeSort_perm (xs.map toL) (fun x y=>decide (x<=y))
 have hn:((xs.map toL).mergeSort fun x y=>decide (x<=y)).Nodup:=hp.nodup_iff.2 (by
  rw [List.Nodup,List.pairwise_map];exact h.imp fun hne e=>hne (ZnG e))
 have hs:=List.pairwise_mergeSort (le:=fun x y:List UInt8=>decide (x<=y)) (fun a b c h1 h2=>by
  simp only [decide_eq_true_eq] at *;exact List.le_trans h1 h2) (fun a b=>by
  simp only [Bool.or_eq_true,decide_eq_true_eq];exact List.le_total a b) (xs.map toL)
 refine (hs.and hn).imp fun {a b} ⟨h1,h2⟩=> ?_;show toL (ofL a)<toL (ofL b);rw [Zky,Zky];simp only [decide_eq_true_eq] at h1
 by_cases g:a<b
 ·exact g
 ·exact absurd (List.le_antisymm h1 (List.not_lt.1 g)) h2
theorem ZnQ {xs:List Int} (h:xs.Nodup):(ZkC xs).Pairwise (· < ·):=by
 unfold ZkC;have hn:(xs.mergeSort fun x y=>decide (x<=y)).Nodup:=(List.mergeSort_perm xs _).nodup_iff.2 h
 have hs:=List.pairwise_mergeSort (le:=fun x y:Int=>decide (x<=y)) (fun a b c h1 h2=>by
  simp only [decide_eq_true_eq] at *;omega) (fun a b=>by
  simp only [Bool.or_eq_true,decide_eq_true_eq];omega) xs
 refine (hs.and hn).imp fun {a b} ⟨h1,h2⟩=> ?_;simp only [decide_eq_true_eq] at h1;omega
theorem Zs9 (L:List ByteArray) (hL:L.length<=4294967):Tot (NS L) fun k=>V4 k L:=by
 unfold V4
 refine .bind (p:=fun r:List ByteArray=>(r.Nodup/\∀z,z∈r↔z∈L)/\r.length<=L.length) ?_ fun r hr=>.of (v:=Zjw r) (by
  unfold Xr;rw [if_pos (by omega)];rfl) ⟨ZnP hr.1.1,fun z=>by rw [(Zca r).mem_iff,hr.1.2]⟩
 refine Tot.loop (fun k n (s:List ByteArray×Int)=>QM k L n s.1 s.2) (fun s=>((s.1.length:Int)<=s.2/\0<=s.2/\s.2<=L.length)/\s.1.Nodup/\∀z,z∈s.1↔z∈L.take s.2.toNat) (fun s=>(L.length-s.2).toNat) (s0:=([],0)) ⟨⟨by simp,by simp,by simp⟩,by simp,by simp⟩ ?_;rintro ⟨out,i⟩ ⟨⟨g1,g2,g3⟩,g4,g5⟩;simp only at g1 g2 g3 g4 g5;simp only [QM];refine .ite (fun e=> ?_) fun e=>.ret ?_
 ·have e:i<L.length:=by simpa using e
  rw [w64 (n:=i+1) (by omega) (by omega)];refine .bind (p:=fun r:List ByteArray=>((r.length:Int)<=i+1/\r.Nodup/\∀z,z∈r↔z∈L.take (i+1).toNat)) ?_ fun r hr=>.next2 ⟨⟨⟨hr.1,by simp only;omega,by simp only;omega⟩,hr.2⟩,by simp only;omega⟩;refine .bindAt g2 e fun x hx hm=> ?_;refine .bind (p:=fun v=>v=KY (fun y=>decide (y=x)) L) ⟨_,rfl,(Ev.ge (L.length+1)).mono fun k hk=>Zc0 L x (by omega) (by omega)⟩ fun v hv=> ?_;subst hv;obtain ⟨hi,rfl⟩:=List.getElem?_eq_some_iff.1 hx
  have hd:decide (KY (fun y=>decide (y=L[i.toNat])) L=i)= !ZgK L i.toNat L[i.toNat]:=by
   have:=ZiM L i.toNat hi;rw [show ((i.toNat:Nat):Int)=i by omega] at this;exact this
  simp only [hd];refine .ite (fun e2=>.bindApp (by omega) (by simp;omega) (.ret ⟨by simp;omega, ?_,fun z=> ?_⟩)) fun e2=>.ret ⟨by omega,g4,fun z=> ?_⟩
  ·have hnm:L[i.toNat]∉out:=fun hm2=>by
    rw [g5] at hm2;simp [ZgK] at e2;exact e2 _ hm2 rfl
   exact List.nodup_append.2 ⟨g4,by simp,fun a ha b hb e=>by simp at hb;subst hb;subst e;exact hnm ha⟩
  ·rw [W3 g2,Q0 hx,List.mem_append,g5];simp [or_comm]
  ·rw [W3 g2,Q0 hx,g5];constructor
   ·exact .inr
   ·rintro (h| h)
    ·simp [ZgK] at e2;rw [h];exact e2
    ·exact h
 ·have e:¬i<L.length:=by simpa using e
  obtain rfl:i=L.length:=by omega
  exact ⟨⟨g4,fun z=>by rw [g5];simp⟩,by omega⟩
theorem Zs8 (L:List ByteArray) (hL:L.length<=4294967):Tot (NS L) fun k=>VU k L:=by
 unfold VU;refine .bind (p:=NS L) ?_ fun r hr=>.ret hr;refine Tot.loop (fun k n (s:List ByteArray×Int)=>QI k L n s.1 s.2) (fun s=>((s.1.length:Int)<=s.2/\0<=s.2/\s.2<=L.length)/\NS (L.take s.2.toNat) s.1) (fun s=>(L.length-s.2).toNat) (s0:=([],0)) ⟨⟨by simp,by simp,by simp⟩,by simp [NS]⟩ ?_;rintro ⟨out,i⟩ ⟨⟨g1,g2,g3⟩,g4,g5⟩;simp only at g1 g2 g3 g4 g5;simp only [QI];refine .ite (fun e=> ?_) fun e=>.ret ?_
 ·have e:i<L.length:=by simpa using e
  rw [w64 (n:=i+1) (by omega) (by omega)];refine .bind (p:=fun r:List ByteArray=>(r.length:Int)<=i+1/\NS (L.take (i+1).toNat) r) ?_ fun r hr=>.next2 ⟨⟨⟨hr.1,by simp only;omega,by simp only;omega⟩,hr.2⟩,by simp only;omega⟩;obtain ⟨x,hx⟩:∃x,L[i.toNat]? =some x:=⟨_,Zyt (by omega)⟩;have hat:at? L i=some x:=by unfold at?;rw [if_pos g2];exact hx
  refine .bind (p:=fun j:Int=>(0<=j/\j<=out.length)/\(∀y∈out.take j.toNat,nLt y x)/\∀y,out[j.toNat]? =some y->¬nLt y x) ?_ fun j hj=> ?_
  ·refine Tot.loop (fun k n (s:Int)=>QH L out i n s) (fun s=>(0<=s/\s<=out.length)/\∀y∈out.take s.toNat,nLt y x) (fun s=>(out.length-s).toNat) (s0:=0) ⟨⟨by simp,by simp⟩,by simp⟩ ?_;rintro j ⟨⟨j1,j2⟩,j3⟩;simp only [QH,hat,Zyl];refine .bind (p:=fun b:Bool=>(b=true->j<out.length/\∀y,out[j.toNat]? =some y->nLt y x)/\(b=false->∀y,out[j.toNat]? =some y->¬nLt y x)) (.ite (fun e2=> ?_) fun e2=>.ret ⟨fun h=>(nomatch h),fun _ y hy=> ?_⟩) fun b hb=>.ite (fun e3=> ?_) fun e3=>.ret ⟨⟨j1,j2⟩,j3,hb.2 (by simpa using e3)⟩
   ·have e2:j<out.length:=by simpa using e2
    refine .bindAt j1 e2 fun y hy _=>.ret ⟨fun h=>⟨e2,fun z hz=> ?_⟩,fun h z hz=> ?_⟩
    ·rw [hy] at hz;cases hz;rw [ZlM] at h;simpa using h
    ·rw [hy] at hz;cases hz;rw [ZlM] at h;simpa using h
   ·have e2:¬j<out.length:=by simpa using e2
    have:=(List.getElem?_eq_some_iff.1 hy).1;omega
   ·obtain ⟨h1,h2⟩:=hb.1 e3;rw [w64 (n:=j+1) (by omega) (by omega)];refine .next ⟨⟨⟨by omega,by omega⟩,fun y hy=> ?_⟩,by omega⟩
    obtain ⟨y',hy'⟩:∃y,out[j.toNat]? =some y:=⟨_,Zyt (by omega)⟩;rw [W3 j1,Q0 hy'] at hy;rcases hy with rfl| hy
    ·exact h2 _ hy'
    ·exact j3 _ hy
  ·obtain ⟨⟨j1,j2⟩,j3,j4⟩:=hj;simp only [hat,Zyl];refine .bind (p:=fun b:Bool=>(b=true->out[j.toNat]? =some x)/\(b=false->∀y,out[j.toNat]? =some y->y≠x)) (.ite (fun e2=> ?_) fun e2=>.ret ⟨fun h=>(nomatch h),fun _ y hy=> ?_⟩) fun b hb=>.ite (fun e3=>.ret ?_) fun e3=> ?_
   ·have e2:j<out.length:=by simpa using e2
    refine .bindAt j1 e2 fun y hy _=>.ret ⟨fun h=> ?_,fun h z hz=> ?_⟩
    ·have h:y=x:=by simpa using h
     rw [hy,h]
    ·rw [hy] at hz;cases hz;simpa using h
   ·have e2:¬j<out.length:=by simpa using e2
    have:=(List.getElem?_eq_some_iff.1 hy).1;omega
   ·have hm:x∈out:=List.mem_of_getElem? (hb.1 e3);refine ⟨by omega,g4,fun z=> ?_⟩;rw [W3 g2,Q0 hx,<-g5];constructor
    ·exact .inr
    ·rintro (rfl| h)
     ·exact hm
     ·exact h
   ·have hne:=hb.2 (by simpa using e3);have s1:Zb8 out j (out.length:Int)=some (out.drop j.toNat):=by unfold Zb8;rw [if_pos ⟨j1,j2,Int.le_refl _⟩];simp
    have s2:Zb8 out 0 j=some (out.take j.toNat):=by unfold Zb8;rw [if_pos ⟨Int.le_refl _,j1,j2⟩];simp
    have hl:(out.take j.toNat).length+(out.drop j.toNat).length=out.length:=by rw [<-List.length_append,List.take_append_drop]
    simp only [s1,s2,Zyl];refine .bindApp (by omega) (by simp;omega) (.bindApp (by omega) (by simp;omega) (.bindApp (by omega) (by simp at hl ⊢;omega) (.ret ?_)));have e4:out.take j.toNat++[x]++([]++out.drop j.toNat)=out.take j.toNat++x::out.drop j.toNat:=by simp
    rw [e4,Zox];refine ⟨by omega,Zoy (r:=nLt) Zqy g4 j3 fun y hy=>Zru (j4 y hy) (hne y hy),fun z=> ?_⟩;rw [Zow,W3 g2,Q0 hx,g5]
 ·have e:¬i<L.length:=by simpa using e
  obtain rfl:i=L.length:=by omega
  exact ⟨g4,fun z=>by rw [g5];simp⟩
theorem Zra (L M:List ByteArray) (hL:L.length<=4294967) (hM:M.length<=4294967) (e:∀z,z∈L↔z∈M):∃r,NS L r/\Ev fun k=>VU k L=some r/\V4 k M=some r:=by
 obtain ⟨r,h1,h2⟩:=Zs8 L hL;obtain ⟨s,h3,h4⟩:=Zs9 M hM;obtain rfl:=h1.one h3 e;exact ⟨r,h1,h2.and h4⟩
theorem ZdU (cs:List Int) (x:Int) (hl:cs.length<=4294967296) {k:Nat} (hk:cs.length<k):Q4 k cs x=some (decide (x∈cs)):=by
 unfold Q4;rw [Xq cs (fun y=>decide (y=x)) (fun y=>some (decide (y=x))) true () (YS cs x) (fun _ _=>rfl) (fun n i=>by rw [YS];rfl) (by omega) hk]
 have:(cs.any fun y=>decide (y=x))=decide (x∈cs):=by
  by_cases h:x∈cs
  ·rw [decide_eq_true h,List.any_eq_true];exact ⟨x,h,by simp⟩
  ·rw [decide_eq_false h,List.any_eq_false];intro y hy e;simp at e;exact h (e▸hy)
 rw [this];cases decide (x∈cs)<;>rfl
theorem ZgB (cs:List Int) (x:Int) (hl:cs.length<=4294967296) {k:Nat} (hk:cs.length<k):ZaA k cs x=some (decide (x∈cs)):=by
 rw [<-ZdU cs x hl hk]
 have:∀n i,WK cs x n i=YS cs x n i:=fun n=>by
  induction n with
  | zero=>intro i;rfl
  | succ n ih=>intro i;rw [WK,YS];simp only [ih]
 unfold ZaA Q4;rw [this];cases YS cs x k 0 with
 | none=>rfl
 | some v=>cases v<;>rfl
theorem ZjD (cs:List Int) (x:Int) (hl:cs.length<=4294967296):Tot (fun b=>b=decide (x∈cs)) fun k=>Q4 k cs x:=⟨_,rfl,(Ev.ge (cs.length+1)).mono fun k hk=>ZdU cs x hl (by omega)⟩
theorem ZoE (cs:List Int) (x:Int) (hl:cs.length<=4294967296):Tot (fun b=>b=decide (x∈cs)) fun k=>ZaA k cs x:=⟨_,rfl,(Ev.ge (cs.length+1)).mono fun k hk=>ZgB cs x hl (by omega)⟩
theorem ZlW (x z:Int):∀M:List (Int×Bool),(Ziz (Ziy M x true) z).getD false=(decide (z=x)||(Ziz M z).getD false)
 | []=>by by_cases h:z=x<;>simp [Ziz,Ziy,h]
 | p::M=>by
  simp only [Ziy]
  by_cases h:x=p.1
  ·rw [if_pos h]
   by_cases g:z=x
   ·simp [Ziz,g]
   ·simp [Ziz,g,<-h]
  ·rw [if_neg h]
   by_cases g:z=p.1
   ·have:z≠x:=fun e=>h (e▸g);simp [Ziz,g,this];intro e;exact absurd e.symm h
   ·simp only [Ziz,if_neg g];exact ZlW x z M
theorem Zik (L:List Int) (hL:L.length<=1073741824):Tot (fun r=>r=ZnS L) fun k=>Zay k L:=by
 unfold Zay
 refine .bind (p:=fun r:List Int=>(r.Nodup/\∀z,z∈r↔z∈L)/\r.length<=L.length) ?_ fun r hr=>.of (v:=ZkC r) (by
  unfold Ve;rw [if_pos (by omega)];rfl) (ZnR (ZnQ hr.1.1) fun z=>by rw [(UU r).mem_iff,hr.1.2])
 refine Tot.loop (fun k n (s:List (Int×Bool)×List Int×Int)=>WI L n s.1 s.2.1 s.2.2) (fun s=>((s.2.1.length:Int)<=s.2.2/\0<=s.2.2/\s.2.2<=L.length)/\s.2.1.Nodup/\(∀z,(Ziz s.1 z).getD false=decide (z∈s.2.1))/\∀z,z∈s.2.1↔z∈L.take s.2.2.toNat) (fun s=>(L.length-s.2.2).toNat) (s0:=([],[],0)) ⟨⟨by simp,by simp,by simp⟩,by simp,by simp [Ziz],by simp⟩ ?_;rintro ⟨m,out,i⟩ ⟨⟨g1,g2,g3⟩,g4,g6,g5⟩;simp only at g1 g2 g3 g4 g5 g6;simp only [WI];refine .ite (fun e=> ?_) fun e=>.ret ?_
 ·have e:i<L.length:=by simpa using e
  rw [w64 (n:=i+1) (by omega) (by omega)];refine .bind (p:=fun r:List (Int×Bool)×List Int=>(r.2.length:Int)<=i+1/\r.2.Nodup/\(∀z,(Ziz r.1 z).getD false=decide (z∈r.2))/\∀z,z∈r.2↔z∈L.take (i+1).toNat) ?_ fun r hr=>.next3 (a:=r.1) (b:=r.2) (c:=i+1) ⟨⟨⟨hr.1,by simp only;omega,by simp only;omega⟩,hr.2⟩,by simp only;omega⟩;refine .bindAt g2 e fun x hx hm=> ?_;rw [g6];refine .ite (fun e2=>.bindApp (by omega) (by simp;omega) (.ret ⟨by simp;omega, ?_,fun z=> ?_,fun z=> ?_⟩)) fun e2=>.ret ⟨by simp only;omega,g4,g6,fun z=> ?_⟩
  ·have e2:x∉out:=by simpa using e2
   exact List.nodup_append.2 ⟨g4,by simp,fun a ha b hb e=>by simp at hb;subst hb;subst e;exact e2 ha⟩
  ·rw [ZlW,g6];simp only [List.mem_append,List.mem_singleton,Bool.decide_or,Bool.or_comm]
  ·simp only;rw [W3 g2,Q0 hx,List.mem_append,List.mem_singleton,g5];exact or_comm
  ·have e2:x∈out:=by simpa using e2
   simp only;rw [W3 g2,Q0 hx,g5];constructor
   ·exact .inr
   ·rintro (rfl| h)
    ·rw [<-g5];exact e2
    ·exact h
 ·have e:¬i<L.length:=by simpa using e
  obtain rfl:i=L.length:=by omega
  exact ⟨⟨g4,fun z=>by rw [g5];simp⟩,by omega⟩
theorem Zrb (L:List Int) (hL:L.length<=1073741824):Tot (fun r=>r=ZnS L) fun k=>Zal k L:=by
 unfold Zal;refine .bind (p:=fun r=>r=ZnS L) ?_ fun r hr=>.ret hr;refine Tot.loop (fun k n (s:List Int×Int)=>Wv k L n s.1 s.2) (fun s=>((s.1.length:Int)<=s.2/\0<=s.2/\s.2<=L.length)/\s.1.Pairwise (· < ·)/\∀z,z∈s.1↔z∈L.take s.2.toNat) (fun s=>(L.length-s.2).toNat) (s0:=([],0)) ⟨⟨by simp,by simp,by simp⟩,by simp,by simp⟩ ?_;rintro ⟨out,i⟩ ⟨⟨g1,g2,g3⟩,g4,g5⟩;simp only at g1 g2 g3 g4 g5;simp only [Wv];refine .ite (fun e=> ?_) fun e=>.ret ?_
 ·have e:i<L.length:=by simpa using e
  rw [w64 (n:=i+1) (by omega) (by omega)];refine .bind (p:=fun r:List Int=>(r.length:Int)<=i+1/\r.Pairwise (· < ·)/\∀z,z∈r↔z∈L.take (i+1).toNat) ?_ fun r hr=>.next2 ⟨⟨⟨hr.1,by simp only;omega,by simp only;omega⟩,hr.2⟩,by simp only;omega⟩;obtain ⟨x,hx⟩:∃x,L[i.toNat]? =some x:=⟨_,Zyt (by omega)⟩;have hat:at? L i=some x:=by unfold at?;rw [if_pos g2];exact hx
  simp only [hat,Zyl];refine .bind (ZjD out x (by omega)) fun b hb=>.ite (fun e3=>.ret ?_) fun e3=> ?_
  ·have hm:x∈out:=by rw [hb] at e3;simpa using e3
   refine ⟨by omega,g4,fun z=> ?_⟩;rw [W3 g2,Q0 hx,<-g5];constructor
   ·exact .inr
   ·rintro (rfl| h)
    ·exact hm
    ·exact h
  ·have hne:x∉out:=by rw [hb] at e3;simpa using e3
   refine .bind (p:=fun j:Int=>(0<=j/\j<=out.length)/\(∀y∈out.take j.toNat,y<x)/\∀y,out[j.toNat]? =some y->¬y<x) ?_ fun j hj=> ?_
   ·refine Tot.loop (fun k n (s:Int)=>Wu L out i n s) (fun s=>(0<=s/\s<=out.length)/\∀y∈out.take s.toNat,y<x) (fun s=>(out.length-s).toNat) (s0:=0) ⟨⟨by simp,by simp⟩,by simp⟩ ?_;rintro j ⟨⟨j1,j2⟩,j3⟩;simp only [Wu,hat,Zyl];refine .bind (p:=fun b:Bool=>(b=true->j<out.length/\∀y,out[j.toNat]? =some y->y<x)/\(b=false->∀y,out[j.toNat]? =some y->¬y<x)) (.ite (fun e2=> ?_) fun e2=>.ret ⟨fun h=>(nomatch h),fun _ y hy=> ?_⟩) fun b hb=>.ite (fun e3=> ?_) fun e3=>.ret ⟨⟨j1,j2⟩,j3,hb.2 (by simpa using e3)⟩
    ·have e2:j<out.length:=by simpa using e2
     refine .bindAt j1 e2 fun y hy _=>.ret ⟨fun h=>⟨e2,fun z hz=> ?_⟩,fun h z hz=> ?_⟩
     ·rw [hy] at hz;cases hz;simpa using h
     ·rw [hy] at hz;cases hz;simpa using h
    ·have e2:¬j<out.length:=by simpa using e2
     have:=(List.getElem?_eq_some_iff.1 hy).1;omega
    ·obtain ⟨h1,h2⟩:=hb.1 e3;rw [w64 (n:=j+1) (by omega) (by omega)];refine .next ⟨⟨⟨by omega,by omega⟩,fun y hy=> ?_⟩,by omega⟩
     obtain ⟨y',hy'⟩:∃y,out[j.toNat]? =some y:=⟨_,Zyt (by omega)⟩;rw [W3 j1,Q0 hy'] at hy;rcases hy with rfl| hy
     ·exact h2 _ hy'
     ·exact j3 _ hy
   ·obtain ⟨⟨j1,j2⟩,j3,j4⟩:=hj;have s1:Zb8 out j (out.length:Int)=some (out.drop j.toNat):=by unfold Zb8;rw [if_pos ⟨j1,j2,Int.le_refl _⟩];simp
    have s2:Zb8 out 0 j=some (out.take j.toNat):=by unfold Zb8;rw [if_pos ⟨Int.le_refl _,j1,j2⟩];simp
    have hl:(out.take j.toNat).length+(out.drop j.toNat).length=out.length:=by rw [<-List.length_append,List.take_append_drop]
    simp only [s1,s2,Zyl];refine .bindApp (by omega) (by simp;omega) (.bindApp (by omega) (by simp;omega) (.bindApp (by omega) (by simp at hl ⊢;omega) (.ret ?_)));have e4:[]++out.take j.toNat++[x]++out.drop j.toNat=out.take j.toNat++x::out.drop j.toNat:=by simp
    rw [e4,Zox];refine ⟨by omega,Zoy (r:=(· < ·)) (fun h1 h2=>by omega) g4 j3 fun y hy=> ?_,fun z=> ?_⟩
    ·have h1:=j4 y hy;have h2:y≠x:=fun e=>hne (e▸List.mem_of_getElem? hy);omega
    ·rw [Zow,W3 g2,Q0 hx,g5]
 ·have e:¬i<L.length:=by simpa using e
  obtain rfl:i=L.length:=by omega
  exact ZnR g4 fun z=>by rw [g5];simp
theorem Zll (a:ByteArray):Ya a=ZM a:=by unfold Ya ZM;rfl
mutual
def Zb.cnt:Zb->Nat
 | ⟨_,_,_,args⟩=>1+Zb.ZuS args
def Zb.ZuS:List Zb->Nat
 | []=>0
 | x::xs=>Zb.cnt x+Zb.ZuS xs
end
theorem Zb.ZoP:∀xs:List Zb,Zb.ZuS xs=Qx Zb.cnt xs
 | []=>rfl
 | x::xs=>by rw [Zb.ZuS,Zb.ZoP xs];rfl
theorem Zb.Zkb (x:Zb):x.cnt=1+Qx Zb.cnt x.args:=by cases x;simp only [Zb.cnt,Zb.ZoP]
mutual
def Zb.nest:Zb->Nat
 | ⟨_,_,_,args⟩=>Zb.Zgs 0 args+1
def Zb.Zgs:Nat->List Zb->Nat
 | n,[]=>n
 | n,x::xs=>Zb.Zgs (max n (Zb.nest x)) xs
end
theorem Zb.Zof (x:Zb):x.nest=Zb.Zgs 0 x.args+1:=by cases x;simp only [Zb.nest]
theorem Zb.ZhL:∀x:Zb,x.cnt<=x.bk+1:=by
 refine Zb.ind fun x ih=> ?_;rw [Zb.Zkb,Zb.ZH]
 have:∀xs:List Zb,(∀y∈xs,y.cnt<=y.bk+1)->Qx Zb.cnt xs<=bkS Zb.bk xs:=by
  intro xs
  induction xs with
  | nil=>intro _;simp [Qx]
  | cons y ys ih2=>
   intro h;have h1:=h y (by simp);have h2:=ih2 fun z hz=>h z (by simp [hz]);simp only [Qx,bkS,List.map_cons,List.sum_cons,List.length_cons] at h2 ⊢;omega
 have:=this x.args ih;omega
theorem Zb.ZlT:∀x:Zb,x.nest<=x.cnt:=by
 refine Zb.ind fun x ih=> ?_;rw [Zb.Zkb,Zb.Zof]
 have:∀(xs:List Zb) (n m:Nat),(∀y∈xs,y.nest<=y.cnt)->n<=m->Zb.Zgs n xs<=m+Qx Zb.cnt xs:=by
  intro xs
  induction xs with
  | nil=>intro n m _ h;simpa [Zb.Zgs,Qx] using h
  | cons y ys ih2=>
   intro n m h hn;have h1:=h y (by simp);have h2:=ih2 (max n y.nest) (m+y.cnt) (fun z hz=>h z (by simp [hz])) (by omega);simp only [Zb.Zgs,Qx,List.map_cons,List.sum_cons] at h2 ⊢;omega
 have:=this x.args 0 0 ih (by omega);omega
theorem Zb.ZjU (x:Zb):x.args.length<=x.bk:=by rw [Zb.ZH];have:=Yj (f:=Zb.bk) (xs:=x.args);omega
theorem Zb.Zq8 (x:Zb):x.text.size<=x.bk:=by rw [Zb.ZH];omega
theorem Zb.Zmw {x y:Zb} (h:y∈x.args):y.bk<=x.bk:=by rw [Zb.ZH x];have:=QA (f:=Zb.bk) h;omega
theorem ZjB:∀x:Zb,x.bk<=1048576->Ev fun k=>∀l:Int,0<=l->l<=1048576->Wy k x l=some (szR x.cnt l):=by
 refine Zb.ind fun x ih hb=> ?_;refine ((Ev.all x.args fun y hy=>ih y hy (by have:=Zb.Zmw hy;omega)).and (Ev.ge (x.args.length+2))).pred ?_;rintro k ⟨hx,hk⟩ l l0 l1;have hlen:=x.ZjU;rw [Wy,w64 (by omega) (by omega)]
 have key:∀(m n i:Nat) (c:Int),i+m=x.args.length->m<n-> -1<=c->c<=1048576->Xg (Wy k) x n c (i:Int)=some (if 0<=c then szR (Qx Zb.cnt (x.args.drop i)) c else-1):=by
  intro m
  induction m with
  | zero=>
   intro n i c hi hn c0 c1;obtain ⟨n,rfl⟩:∃j,n=j+1:=⟨n-1,by omega⟩;rw [Xg,if_neg (X6 (by omega)),List.drop_of_length_le (by omega)]
   by_cases h:0<=c
   ·simp [Qx,szR,h]
   ·rw [if_neg h];simp;omega
  | succ m ih2=>
   intro n i c hi hn c0 c1;obtain ⟨n,rfl⟩:∃j,n=j+1:=⟨n-1,by omega⟩;have hil:i<x.args.length:=by omega
   rw [Xg,if_pos (Z3 hil),Zyl]
   by_cases h:0<=c
   ·rw [if_pos (by simpa using h),YF hil,Zyl,hx _ (List.getElem_mem hil) c h c1,Zyl,wS i (by omega),if_pos h,List.drop_eq_getElem_cons hil];have e:Qx Zb.cnt (x.args[i]::x.args.drop (i+1))=x.args[i].cnt+Qx Zb.cnt (x.args.drop (i+1)):=by unfold Qx;rw [List.map_cons,List.sum_cons]
    rw [e];rcases XZ (b:=x.args[i].cnt) (left:=c) c1 with ⟨z,e1,g1,q1,p1,r1⟩| ⟨e1,q1⟩
    ·rw [e1,ih2 n (i+1) z (by omega) (by omega) (by omega) r1,if_pos p1,q1];unfold szR
     by_cases h2:(Qx Zb.cnt (x.args.drop (i+1)):Int)<=c-x.args[i].cnt
     ·rw [if_pos h2,if_pos (by omega)];congr 1;omega
     ·rw [if_neg h2,if_neg (by omega)]
    ·rw [e1,ih2 n (i+1) (-1) (by omega) (by omega) (by omega) (by omega),if_neg (by omega)];unfold szR;rw [if_neg (by omega)]
   ·rw [if_neg (by simpa using h),if_neg h];congr 1;omega
 have:=key x.args.length k 0 (l-1) (by omega) (by omega) (by omega) (by omega);rw [show ((0:Nat):Int)=0 from rfl] at this;rw [this,Zyl,x.Zkb,List.drop_zero]
 congr 1
 unfold szR
 by_cases h:0<=l-1
 ·rw [if_pos h]
  by_cases h2:(Qx Zb.cnt x.args:Int)<=l-1
  ·rw [if_pos h2,if_pos (by omega)];omega
  ·rw [if_neg h2,if_neg (by omega)]
 ·rw [if_neg h,if_neg (by omega)]
theorem Zhk:∀x:Zb,x.bk<=1048576->Ev fun k=>QZ k x=some (x.cnt:Int):=by
 refine Zb.ind fun x ih hb=> ?_;refine ((Ev.all x.args fun y hy=>ih y hy (by have:=Zb.Zmw hy;omega)).and (Ev.ge (x.args.length+2))).pred ?_;rintro k ⟨hx,hk⟩;have hlen:=x.ZjU;have hc:=x.ZhL;have he:=x.Zkb;rw [QZ]
 have key:∀(m n i:Nat) (c:Nat),i+m=x.args.length->m<n->c+Qx Zb.cnt (x.args.drop i)<=1048577->Qd (QZ k) x n (c:Int) (i:Int)=some ((c+Qx Zb.cnt (x.args.drop i):Nat):Int):=by
  intro m
  induction m with
  | zero=>
   intro n i c hi hn hc;obtain ⟨n,rfl⟩:∃j,n=j+1:=⟨n-1,by omega⟩;rw [Qd,if_neg (X6 (by omega)),List.drop_of_length_le (by omega)];simp [Qx]
  | succ m ih2=>
   intro n i c hi hn hc;obtain ⟨n,rfl⟩:∃j,n=j+1:=⟨n-1,by omega⟩;have hil:i<x.args.length:=by omega
   have e:Qx Zb.cnt (x.args.drop i)=x.args[i].cnt+Qx Zb.cnt (x.args.drop (i+1)):=by rw [List.drop_eq_getElem_cons hil];unfold Qx;rw [List.map_cons,List.sum_cons]
   rw [Qd,if_pos (Z3 hil),YF hil,Zyl,hx _ (List.getElem_mem hil),Zyl,wS i (by omega),w64 (by omega) (by omega)];rw [show (c:Int)+(x.args[i].cnt:Int)=((c+x.args[i].cnt:Nat):Int) by omega,ih2 n (i+1) _ (by omega) (by omega) (by omega)]
   congr 2;omega
 have:=key x.args.length k 0 1 (by omega) (by omega) (by rw [List.drop_zero];omega);rw [show ((0:Nat):Int)=0 from rfl,show ((1:Nat):Int)=1 from rfl] at this;rw [this,Zyl,List.drop_zero,he]
theorem Zrt (x:Zb) (hb:x.bk<=1048576):Ev fun k=>Qv k x=some (x.nest:Int)/\Qw k x=some (x.nest:Int):=by
 revert hb;refine Zb.ind (p:=fun x=>x.bk<=1048576->Ev fun k=>Qv k x=some (x.nest:Int)/\Qw k x=some (x.nest:Int)) (fun x ih hb=> ?_) x;refine ((Ev.all x.args fun y hy=>ih y hy (by have:=Zb.Zmw hy;omega)).and (Ev.ge (x.args.length+2))).pred ?_;rintro k ⟨hx,hk⟩;have hlen:=x.ZjU;have hc:=x.ZhL;have hn:=x.ZlT;have he:=x.Zof
 have key:∀(m n i:Nat) (c:Nat),i+m=x.args.length->m<n->Y9 (Qv k) x n (c:Int) (i:Int)=some ((Zb.Zgs c (x.args.drop i):Nat):Int)/\Qe (Qw k) x n (c:Int) (i:Int)=some ((Zb.Zgs c (x.args.drop i):Nat):Int):=by
  intro m
  induction m with
  | zero=>
   intro n i c hi hn;obtain ⟨n,rfl⟩:∃j,n=j+1:=⟨n-1,by omega⟩;rw [Y9,Qe,if_neg (X6 (by omega)),if_neg (X6 (by omega)),List.drop_of_length_le (by omega)];simp [Zb.Zgs]
  | succ m ih2=>
   intro n i c hi hn;obtain ⟨n,rfl⟩:∃j,n=j+1:=⟨n-1,by omega⟩;have hil:i<x.args.length:=by omega
   obtain ⟨h1,h2⟩:=hx _ (List.getElem_mem hil)
   have hm:Vs (c:Int) (x.args[i].nest:Int)=some ((max c x.args[i].nest:Nat):Int):=by
    unfold Vs
    by_cases h:(x.args[i].nest:Int)<c
    ·rw [if_pos (by simpa using h)];congr 1;omega
    ·rw [if_neg (by simpa using h)];congr 1;omega
   have hi2:(if (x.args[i].nest:Int)>(c:Int) then (x.args[i].nest:Int) else (c:Int))=((max c x.args[i].nest:Nat):Int):=by split<;>omega
   rw [Y9,Qe,if_pos (Z3 hil),if_pos (Z3 hil),YF hil,Zyl,Zyl,h1,h2,Zyl,Zyl,hm,Zyl,hi2,wS i (by omega),List.drop_eq_getElem_cons hil];simp only [Zb.Zgs];exact ih2 n (i+1) _ (by omega) (by omega)
 obtain ⟨k1,k2⟩:=key x.args.length k 0 0 (by omega) (by omega);rw [show ((0:Nat):Int)=0 from rfl,List.drop_zero] at k1 k2;have hw:IntKind.i64.wrap ((Zb.Zgs 0 x.args:Nat)+1:Int)=(x.nest:Int):=by rw [w64 (by omega) (by omega)];omega
 constructor
 ·rw [Qv,k1,Zyl,hw]
 ·rw [Qw,k2,Zyl,hw]
theorem Zrr (x:Zb) (hs:(x.text.size:Int)<=9223372036854775807) {k:Nat} (hk:x.text.size<k) (hk2:24<k):∃b,Jh k x=some b/\Zaz k x=some b/\∀j,x.text.size<j->24<j->Jh j x=some b/\Zaz j x=some b:=by
 have key:∃b,∀j,x.text.size<j->24<j->Jh j x=some b/\Zaz j x=some b:=by
  have hac:∃z,Ya x.text=some z/\ZM x.text=some z:=by
   rw [Zll];obtain ⟨z,hz⟩:=Zeu x.text;exact ⟨z,hz,hz⟩
  obtain ⟨z,z1,z2⟩:=hac;obtain ⟨tx,ht⟩:∃tx,tx=(!(x.text.data.toList.any V8)&&decide ((x.text.size:Int)<=20)):=⟨_,rfl⟩;obtain ⟨nx,hn⟩:∃nx,nx=WH x.text:=⟨_,rfl⟩
  refine ⟨if x.kind=1 then decide ((x.args.length:Int)=0)&&decide (x.text=⟨#[]⟩)&&(decide (0<=x.n)&&decide (x.n<=1000000000)) else if x.kind=2 then decide ((x.args.length:Int)=0)&&decide (x.n=0)&&tx
   else if x.kind=3 then decide ((x.args.length:Int)=0)&&decide (x.n=0)&&nx else if x.kind=4 then decide (x.n=0)&&decide (x.text=⟨#[]⟩)&&decide ((x.args.length:Int)<=8)
   else if x.kind=5 then decide (x.n=0)&&decide ((x.args.length:Int)=z) else if x.kind=6 then decide (x.text=⟨#[]⟩)&&decide ((x.args.length:Int)=2)&&(decide (1<=x.n)&&decide (x.n<=5))
   else if x.kind=7 then decide (x.n=0)&&decide ((x.args.length:Int)=2)&&nx else if x.kind=9 then decide (x.n=0)&&decide ((x.args.length:Int)=2)&&nx else if x.kind=8 then decide (x.n=0)&&decide (x.text=⟨#[]⟩)&&decide ((x.args.length:Int)=3) else false,fun j hj hj2=> ?_⟩
  obtain ⟨t1,t2⟩:=ZdG x.text hs hj;obtain ⟨n1,n2⟩:=Ja x.text hs hj hj2;rw [<-ht] at t1 t2;rw [<-hn] at n1 n2;unfold Jh Zaz;rw [t1,t2,n1,n2,z1,z2];simp only [Km,U2,Zyl]
  by_cases k1:x.kind=1
  ·simp only [k1,decide_true,if_true,if_pos];cases decide ((x.args.length:Int)=0)<;>cases decide (x.text=(⟨#[]⟩:ByteArray))<;>cases decide (0<=x.n)<;>cases decide (x.n<=1000000000)<;>simp
  by_cases k2:x.kind=2
  ·simp only [k2];cases decide ((x.args.length:Int)=0)<;>cases decide (x.n=0)<;>cases tx<;>simp
  by_cases k3:x.kind=3
  ·simp only [k3];cases decide ((x.args.length:Int)=0)<;>cases decide (x.n=0)<;>cases nx<;>simp
  by_cases k4:x.kind=4
  ·simp only [k4];cases decide (x.n=0)<;>cases decide (x.text=(⟨#[]⟩:ByteArray))<;>simp
  by_cases k5:x.kind=5
  ·simp only [k5];cases decide (x.n=0)<;>simp
  by_cases k6:x.kind=6
  ·simp only [k6];cases decide ((x.args.length:Int)=2)<;>cases decide (x.text=(⟨#[]⟩:ByteArray))<;>cases decide (1<=x.n)<;>cases decide (x.n<=5)<;>simp
  by_cases k7:x.kind=7
  ·simp only [k7];cases decide ((x.args.length:Int)=2)<;>cases decide (x.n=0)<;>cases nx<;>simp
  by_cases k9:x.kind=9
  ·simp only [k9];cases decide ((x.args.length:Int)=2)<;>cases decide (x.n=0)<;>cases nx<;>simp
  by_cases k8:x.kind=8
  ·simp only [k8];cases decide (x.n=0)<;>cases decide (x.text=(⟨#[]⟩:ByteArray))<;>simp
  simp [k1,k2,k3,k4,k5,k6,k7,k8,k9]
 obtain ⟨b,hb⟩:=key;exact ⟨b,(hb k hk hk2).1,(hb k hk hk2).2,hb⟩
theorem Zb.ZsY {x:Zb} (h:x.bk<=1048576):(x.text.size:Int)<=9223372036854775807:=by have:=x.Zq8;omega
theorem nodes (x:Zb) (hb:x.bk<=1048576):∃b,Ev fun k=>Wj k x=some b/\Qt k x=some b:=by
 revert hb;refine Zb.ind (p:=fun x=>x.bk<=1048576->∃b,Ev fun k=>Wj k x=some b/\Qt k x=some b) (fun x ih hb=> ?_) x;obtain ⟨f,hf⟩:=V7 (p:=fun y b=>Ev fun k=>Wj k y=some b/\Qt k y=some b) x.args fun y hy=>ih y hy (by have:=Zb.Zmw hy;omega);obtain ⟨b,_,_,hn⟩:=Zrr x (Zb.ZsY hb) (k:=x.text.size+25) (by omega) (by omega);have hlen:=x.ZjU;refine ⟨!(x.args.any fun y=>!f y)&&b, ?_⟩;refine ((Ev.all x.args hf).and ((Ev.ge (x.args.length+2)).and (Ev.ge (x.text.size+25)))).pred ?_;rintro k ⟨hx,hk,hk2⟩;obtain ⟨n1,n2⟩:=hn k (by omega) (by omega);constructor
 ·rw [Wj,Xq x.args (fun y=>!f y) (fun y=>(Wj k y).bind fun z=>some (!z)) false () (Wz (Wj k) x) (fun y hy=>by (try simp only);rw [(hx y hy).1];rfl)
   (fun n i=>by rw [Wz];simp only [Option.bind_assoc,Zyl]) (by omega) (by omega)]
  cases x.args.any fun y=>!f y<;>simp [n1]
 ·rw [Qt,Xq x.args (fun y=>!f y) (fun y=>(Qt k y).bind fun z=>some (!z)) false () (Xm (Qt k) x) (fun y hy=>by (try simp only);rw [(hx y hy).2];rfl)
   (fun n i=>by rw [Xm];simp only [Option.bind_assoc,Zyl]) (by omega) (by omega)]
  cases x.args.any fun y=>!f y<;>simp [n2]
theorem ZnB (x:Zb) (hb:x.bk<=1048576):∃v,Ev fun k=>WV k x=some v/\W0 k x=some v:=by
 obtain ⟨q,hq⟩:=nodes x hb;have hc:=x.ZhL;have hn:=x.ZlT;refine ⟨decide (x.cnt<=40)&&decide (x.nest<=8)&&q, ?_⟩;refine (hq.and ((Zrt x hb).and ((ZjB x hb).and (Zhk x hb)))).mono ?_;rintro k ⟨⟨q1,q2⟩,⟨n1,n2⟩,l,c⟩;constructor
 ·unfold WV;rw [l 40 (by omega) (by omega),n1,q1]
  by_cases h:x.cnt<=40
  ·have e:szR x.cnt 40=40-x.cnt:=by unfold szR;rw [if_pos (by omega)]
   rw [e];simp only [Zyl];rw [if_pos (by simp;omega)]
   by_cases h8:x.nest<=8
   ·rw [if_pos (by simp;omega)];simp [h,h8]
   ·rw [if_neg (by simp;omega)];simp [h8]
  ·have e:szR x.cnt 40= -1:=by unfold szR;rw [if_neg (by omega)]
   rw [e];simp [h]
 ·unfold W0;rw [c,n2,q2];simp only [Zyl]
  by_cases h:x.cnt<=40
  ·rw [if_pos (by simp;omega)]
   by_cases h8:x.nest<=8
   ·rw [if_pos (by simp;omega)];simp [h,h8]
   ·rw [if_neg (by simp;omega)];simp [h8]
  ·rw [if_neg (by simp;omega)];simp [h]
theorem ZjN {α:Type} [DecidableEq α]:∀{l m:List α},l.Nodup->(∀z∈l,z∈m)->l.length<=m.length
 | [],m,_,_=>by simp
 | x::l,m,hn,h=>by
  obtain ⟨h1,h2⟩:=List.nodup_cons.1 hn;have h3:=ZjN (m:=m.erase x) h2 fun z hz=>(List.mem_erase_of_ne (fun e=>h1 (by rw [<-e];exact hz))).2 (h z (List.mem_cons_of_mem _ hz));have hx:x∈m:=h x List.mem_cons_self;have h4:=List.length_erase_of_mem hx;have h5:=List.length_pos_of_mem hx;rw [List.length_cons];omega
def FS (y:Zb) (b:List ByteArray):Prop:=∃N:List ByteArray,N.length<=y.cnt/\Ev fun k=>QY k y b=some N/\∀out:List ByteArray,out.length+y.cnt<=1073741824->Z4 k y b out=some (out++N)
def ZsP (x:Zb) (b:List ByteArray) (j:Nat):List ByteArray:=if (decide (x.kind=7)||decide (x.kind=9))=true/\0<j then b++[x.text] else b
theorem Zm3 (x:Zb) (b:List ByteArray) (hb:b.length+x.bk<=1073741824) (ih:∀y∈x.args,∀b:List ByteArray,b.length+y.bk<=1073741824->FS y b):∀m j,j+m=x.args.length->∃N:List ByteArray,N.length<=Qx Zb.cnt (x.args.drop j)/\Ev fun k=>∀n,m<n->
  (∀acc:List ByteArray,acc.length+Qx Zb.cnt (x.args.drop j)<=1073741824->Qh (QY k) x b n acc (j:Int)=some (acc++N))/\
  (∀out:List ByteArray,out.length+Qx Zb.cnt (x.args.drop j)<=1073741824->Yg (Z4 k) x b (decide (x.kind=7)||decide (x.kind=9)) n out (j:Int)=some (out++N)):=by
 have hlen:=x.ZjU;intro m
 induction m with
 | zero=>
  intro j hj;refine ⟨[],by simp,Ev.of fun k n hn=> ?_⟩;obtain ⟨n,rfl⟩:∃q,n=q+1:=⟨n-1,by omega⟩;obtain rfl:j=x.args.length:=by omega
  exact ⟨fun acc _=>by rw [Qh,if_neg (X6 (Zyr _))];simp,fun acc _=>by rw [Yg,if_neg (X6 (Zyr _))];simp⟩
 | succ m hm=>
  intro j hj;have hlt:j<x.args.length:=by omega
  have hmem:=List.getElem_mem hlt
  have hab:x.args[j].bk+1<=x.bk:=by
   rw [Zb.ZH x];have:=QA (f:=Zb.bk) hmem;have h2:Zb.bk x.args[j]<=Qx Zb.bk x.args:=Zgd _ hmem;unfold bkS;omega
  obtain ⟨N1,q1,q2⟩:=ih x.args[j] hmem (ZsP x b j) (by
   unfold ZsP;split
   ·rw [List.length_append,List.length_singleton];omega
   ·omega)
  obtain ⟨N2,q3,q4⟩:=hm (j+1) (by omega);have hs:Qx Zb.cnt (x.args.drop j)=x.args[j].cnt+Qx Zb.cnt (x.args.drop (j+1)):=by rw [List.drop_eq_getElem_cons hlt];rfl
  refine ⟨N1++N2,by rw [List.length_append];omega,(q2.and q4).mono fun k ⟨⟨e1,e2⟩,e3⟩ n hn=> ?_⟩;obtain ⟨n,rfl⟩:∃q,n=q+1:=⟨n-1,by omega⟩;obtain ⟨e4,e5⟩:=e3 n (by omega);have hbl:b.length<=1073741824:=by omega
  have happ:Yv 16 ([]:List ByteArray) b=some b:=by rw [WS (by simp;omega) (by omega)];rfl
  have happ2:Yv 16 b [x.text]=some (b++[x.text]):=WS (by simp;omega) (by omega);have hj0:decide ((0:Int)<(j:Int))=decide (0<j):=decide_eq_decide.2 (by omega);refine ⟨fun acc ha=> ?_,fun out ha=> ?_⟩
  ·rw [Qh,if_pos (Z3 hlt),hj0,happ]
   have eb:(if decide (x.kind=7)=true then some (decide (0<j)) else if decide (x.kind=9)=true then some (decide (0<j)) else some false:Option Bool)=some ((decide (x.kind=7)||decide (x.kind=9))&&decide (0<j)):=by
    cases decide (x.kind=7)<;>cases decide (x.kind=9)<;>rfl
   have ec:(if ((decide (x.kind=7)||decide (x.kind=9))&&decide (0<j))=true then (some b).bind fun x9=>(Yv 16 x9 [x.text]).bind fun x10=>some x10 else some b:Option (List ByteArray))=some (ZsP x b j):=by
    unfold ZsP;simp only [Zyl,happ2,Zyq,decide_eq_true_eq]
    split<;>rfl
   rw [eb,Zyl,ec,Zyl,YF hlt,Zyl,e1,Zyl,WS (by omega) (by omega),Zyl,wS j (by omega),e4 _ (by rw [List.length_append];omega),List.append_assoc]
  ·rw [Yg,if_pos (Z3 hlt),hj0,happ,YF hlt]
   have eb:(if (decide (x.kind=7)||decide (x.kind=9))=true then some (decide (0<j)) else some false:Option Bool)=some ((decide (x.kind=7)||decide (x.kind=9))&&decide (0<j)):=by
    cases decide (x.kind=7)<;>cases decide (x.kind=9)<;>rfl
   have ec:(if ((decide (x.kind=7)||decide (x.kind=9))&&decide (0<j))=true then (some b).bind fun x9=>(Yv 16 x9 [x.text]).bind fun x10=>some x10 else some b:Option (List ByteArray))=some (ZsP x b j):=by
    unfold ZsP;simp only [Zyl,happ2,Zyq,decide_eq_true_eq]
    split<;>rfl
   rw [Zyl,eb,Zyl,ec,Zyl,e2 _ (by omega),Zyl,wS j (by omega),e5 _ (by rw [List.length_append];omega),List.append_assoc]
theorem ZoH:∀x:Zb,∀b:List ByteArray,b.length+x.bk<=1073741824->FS x b:=by
 refine Zb.ind fun x ih b hb=> ?_;have hc:=x.Zkb;obtain ⟨N,h1,h2⟩:=Zm3 x b hb ih x.args.length 0 (by omega);rw [List.drop_zero] at h1 h2
 have ed:KY (fun y=>decide (y=x.text)) b<0↔¬(b.any fun y=>decide (y=x.text))=true:=by
  constructor
  ·intro h g;obtain ⟨y,hy,e⟩:=List.any_eq_true.1 g;rw [ZoI h y hy] at e;cases e
  ·intro h;unfold KY;rw [if_neg ?_]; · omega
   intro g;exact h (List.any_eq_true.2 ⟨_,List.getElem_mem g,List.findIdx_getElem (p:=fun y=>decide (y=x.text)) (w:=g)⟩)
 have en:(decide (x.kind=7)||decide (x.kind=9))=(if decide (x.kind=7)=true then true else decide (x.kind=9)):=by cases decide (x.kind=7)<;>rfl
 by_cases h3:x.kind=3
 ·by_cases hin:(b.any fun y=>decide (y=x.text))=true
  ·refine ⟨N,by omega,(h2.and (Ev.ge (x.args.length+b.length+1))).pred fun k ⟨e,hk⟩=> ?_⟩;obtain ⟨e1,e2⟩:=e k (by omega);refine ⟨?_,fun out ho=> ?_⟩
   ·rw [QY,decide_eq_true h3,Zn0 b x.text (by omega) (by omega),hin];have:=e1 [] (by simp;have:=Zb.ZhL x;omega);simp only [if_true,Zyl,Bool.not_true,Zys,if_false];rw [show Qh (QY k) x b k [] 0=some ([]++N) from this];rfl
   ·rw [Z4,decide_eq_true h3,Zc0 b x.text (by omega) (by omega)];have:=e2 out (by omega);rw [decide_eq_false (show ¬x.kind=7 by omega),decide_eq_false (show ¬x.kind=9 by omega)] at this ⊢;simp only [if_true,Zyl,decide_eq_false (show ¬KY (fun y=>decide (y=x.text)) b<0 by rw [ed];exact fun h=>h hin),Zys,if_false];exact this
  ·refine ⟨[x.text],by simp;omega,(Ev.ge (x.args.length+b.length+1)).pred fun k hk=> ?_⟩;refine ⟨?_,fun out ho=> ?_⟩
   ·rw [QY,decide_eq_true h3,Zn0 b x.text (by omega) (by omega),Bool.eq_false_iff.2 hin];simp only [if_true,Zyl,Bool.not_false];rw [WS (by simp) (by omega)];rfl
   ·rw [Z4,decide_eq_true h3,Zc0 b x.text (by omega) (by omega)];simp only [if_true,Zyl,decide_eq_true (ed.2 hin)];unfold UQ;rw [WS (by simp;omega) (by omega)];rfl
 ·refine ⟨N,by omega,(h2.and (Ev.ge (x.args.length+b.length+1))).pred fun k ⟨e,hk⟩=> ?_⟩;obtain ⟨e1,e2⟩:=e k (by omega);refine ⟨?_,fun out ho=> ?_⟩
  ·rw [QY,decide_eq_false h3];have:=e1 [] (by simp;have:=Zb.ZhL x;omega);simp only [Zyl,Zys,if_false];rw [show Qh (QY k) x b k [] 0=some ([]++N) from this];rfl
  ·rw [Z4,decide_eq_false h3];have:=e2 out (by omega);simp only [Zyl,Zys,if_false];revert this;cases decide (x.kind=7)<;>cases decide (x.kind=9)<;>exact id
theorem ZnD (p:Zq) (hp:p.bk<=2097152):∃U:List ByteArray,U.length<=2097153/\Ev fun k=>JX k p=some U/\J3 k p=some U:=by
 by_cases h2:p.kind=2
 ·have hx:p.expr.bk<=2097152:=by have:=Zq.ZH p;omega
  have hc:=Zb.ZhL p.expr;obtain ⟨N,q1,q2⟩:=ZoH p.expr [] (by simp;omega);obtain ⟨r,⟨q3,q5⟩,q4⟩:=Zra N N (by omega) (by omega) fun _=>Iff.rfl
  have hr:r.length<=N.length:=by
   have hn:r.Nodup:=by
    refine List.Pairwise.imp ?_ q3;intro a b h e;subst e;exact Zoh _ h
   exact ZjN hn fun z hz=>(q5 z).1 hz
  refine ⟨r,by omega,(q2.and q4).mono fun k ⟨⟨e1,e2⟩,e3,e4⟩=> ?_⟩;unfold JX J3 Zat ZaE;have:=e2 [] (by simp;omega);rw [decide_eq_true h2,e1,this];simp only [Bool.not_true,Zys,if_false,Zyl,List.nil_append,e3,e4,and_self]
 ·refine ⟨[],by simp,Ev.of fun k=> ?_⟩;unfold JX J3;rw [decide_eq_false h2];exact ⟨rfl,rfl⟩
theorem Zmg (ps:List Zq) (s:ByteArray):∀(n:Nat) (out:List Int) (i:Int),Qa ps s n out i=Xo ps s n out i
 | 0,_,_=>rfl
 | n+1,out,i=>by
  rw [Qa,Xo];simp only [Option.bind_assoc,Zmg ps s n]
theorem Zt6 (ps:List Zq) (s:ByteArray) (hl:ps.length<=1048576):∃ds:List Int,ds.length<=ps.length/\(∀x∈ds,0<=x/\x<ps.length)/\Ev fun k=>WX k ps s=some ds/\Vm k ps s=some ds:=by
 have:Tot (fun ds:List Int=>ds.length<=ps.length/\∀x∈ds,0<=x/\x<ps.length) fun k=>WX k ps s:=by
  unfold WX;refine .bind (p:=fun ds:List Int=>ds.length<=ps.length/\∀x∈ds,0<=x/\x<ps.length) ?_ fun r hr=>.ret hr;refine Tot.loop (fun k n (t:List Int×Int)=>Qa ps s n t.1 t.2) (fun t=>((t.1.length:Int)<=t.2/\0<=t.2/\t.2<=ps.length)/\∀x∈t.1,0<=x/\x<ps.length) (fun t=>(ps.length-t.2).toNat) (s0:=([],0)) ⟨⟨by simp,by simp,by simp⟩,by simp⟩ ?_;rintro ⟨out,i⟩ ⟨⟨g1,g2,g3⟩,g4⟩;simp only at g1 g2 g3 g4;simp only [Qa];refine .ite (fun e=> ?_) fun e=>.ret ⟨by omega,g4⟩;have e:i<ps.length:=by simpa using e
  rw [w64 (n:=i+1) (by omega) (by omega)];refine .bind (p:=fun r:List Int=>(r.length:Int)<=i+1/\∀x∈r,0<=x/\x<ps.length) (.bind (p:=fun _=>True) (.bindAt g2 e fun x _ _=>.ite (fun _=>.ret trivial) fun _=>.ret trivial) fun b _=>.ite (fun _=>.bindApp (by omega) (by simp;omega) (.ret ⟨by simp;omega,fun x hx=> ?_⟩)) fun _=>.ret ⟨by omega,g4⟩) fun r hr=>.next2 ⟨⟨⟨hr.1,by simp only;omega,by simp only;omega⟩,hr.2⟩,by simp only;omega⟩;rcases List.mem_append.1 hx with h| h
  ·exact g4 x h
  ·simp at h;omega
 obtain ⟨ds,h1,h2⟩:=this;refine ⟨ds,h1.1,h1.2,h2.mono fun k h=>⟨h,(show Vm k ps s=WX k ps s by unfold Vm WX;rw [Zmg]).trans h⟩⟩
def UL:List Int->Int
 | []=> -1
 | [x]=>x
 | _::_::_=> -2
theorem ZlP {n:Nat}:∀{ds:List Int},(∀x∈ds,0<=x/\x<n)-> -2<=UL ds/\UL ds<n/\(UL ds= -2↔1<ds.length)
 | [],_=>by simp [UL];omega
 | [x],h=>by have:=h x (by simp);simp [UL];omega
 | _::_::l,_=>by simp [UL];omega
theorem ZmP {ds:List Int} {k:Nat} {ps:List Zq} {s:ByteArray} (h:WX k ps s=some ds/\Vm k ps s=some ds):Vu k ps s=some (UL ds)/\Ux k ps s=some (UL ds):=by
 unfold Vu Ux;rw [h.1,h.2]
 match ds with
 | []=>exact ⟨rfl,rfl⟩
 | [x]=>exact ⟨rfl,rfl⟩
 | x::y::l=>
  simp only [Zyl];rw [decide_eq_false (show ¬(((x::y::l).length:Int)=0) by simp;omega),decide_eq_false (show ¬(((x::y::l).length:Int)=1) by simp;omega)];exact ⟨rfl,rfl⟩
theorem Zhx (ps:List Zq) (s:ByteArray) (hl:ps.length<=1048576):∃r:Int,(-2<=r/\r<ps.length)/\Ev fun k=>Vu k ps s=some r/\Ux k ps s=some r:=by
 obtain ⟨ds,h1,h2,h3⟩:=Zt6 ps s hl;exact ⟨UL ds,⟨(ZlP h2).1,(ZlP h2).2.1⟩,h3.mono fun k h=>ZmP h⟩
theorem ZoJ (k:Nat) (ps:List Zq) (U:List ByteArray) (h:∀s∈U,Vu k ps s=Ux k ps s):∀(n:Nat) (out:List Int) (i:Int),Z9 k ps U n out i=Qn k ps U n out i
 | 0,_,_=>rfl
 | n+1,out,i=>by
  rw [Z9,Qn];simp only [ZoJ k ps U h n];cases hat:at? U i with
  | none=>rfl
  | some s=>
   have hm:s∈U:=by
    unfold at? at hat
    split at hat
    ·exact List.mem_of_getElem? hat
    ·cases hat
   simp only [Zyl,h s hm]
theorem ZoK (ps:List Zq) (hl:ps.length<=1048576) (hp:∀p∈ps,p.bk<=2097152) (i:Nat) (hi:i<ps.length):∃D:List Int,(D.Pairwise (· < ·)/\∀z∈D,0<=z/\z<ps.length)/\Ev fun k=>Xh k ps (i:Int)=some D/\XU k ps (i:Int)=some D:=by
 obtain ⟨U,hU,hev⟩:=ZnD ps[i] (hp _ (List.getElem_mem hi))
 have hres:Ev fun k=>∀s∈U,Vu k ps s=Ux k ps s:=Ev.all U fun s _=>by
  obtain ⟨r,_,h⟩:=Zhx ps s hl;exact h.mono fun k h=>h.1.trans h.2.symm
 have htot:Tot (fun r:List Int=>r.length<=U.length/\∀z∈r,0<=z/\z<ps.length) fun k=>Z9 k ps U k [] 0:=by
  refine Tot.loop (fun k n (t:List Int×Int)=>Z9 k ps U n t.1 t.2) (fun t=>((t.1.length:Int)<=t.2/\0<=t.2/\t.2<=U.length)/\∀x∈t.1,0<=x/\x<ps.length) (fun t=>(U.length-t.2).toNat) (s0:=([],0)) ⟨⟨by simp,by simp,by simp⟩,by simp⟩ ?_;rintro ⟨out,i⟩ ⟨⟨g1,g2,g3⟩,g4⟩;simp only at g1 g2 g3 g4;simp only [Z9];refine .ite (fun e=> ?_) fun e=>.ret ⟨by omega,g4⟩;have e:i<U.length:=by simpa using e
  rw [w64 (n:=i+1) (by omega) (by omega)];refine .bind (p:=fun r:List Int=>(r.length:Int)<=i+1/\∀x∈r,0<=x/\x<ps.length) (.bindAt g2 e fun x _ _=>.bind (p:=fun r:Int=> -2<=r/\r<ps.length) ?_ fun r hr=>.ite (fun e2=>.bindApp (by omega) (by simp;omega) (.ret ⟨by simp;omega,fun x hx=> ?_⟩)) fun _=>.ret ⟨by omega,g4⟩) fun r hr=>.next2 ⟨⟨⟨hr.1,by simp only;omega,by simp only;omega⟩,hr.2⟩,by simp only;omega⟩
  ·obtain ⟨r,h1,h2⟩:=Zhx ps x hl;exact ⟨r,h1,h2.mono fun k h=>h.1⟩
  ·rcases List.mem_append.1 hx with h| h
   ·exact g4 x h
   ·have e2:0<=r:=by simpa using e2
    simp at h;omega
 obtain ⟨r,⟨r1,r2⟩,r3⟩:=htot;obtain ⟨s1,hs1,e1⟩:=Zrb r (by omega);obtain ⟨s2,hs2,e2⟩:=Zik r (by omega);subst hs1;subst hs2;refine ⟨ZnS r,⟨Zcc r,fun z hz=>r2 z (Zcb.1 hz)⟩,((hev.and hres).and (r3.and (e1.and e2))).mono fun k ⟨⟨⟨u1,u2⟩,hr⟩,q1,q2,q3⟩=> ?_⟩;have hw:IntKind.i64.wrap ((ps.length:Int)-1)=(ps.length:Int)-1:=w64 (by omega) (by omega);unfold Xh XU;rw [Km,hw,YF hi,decide_eq_true (show (0:Int)<=(i:Int) by omega),decide_eq_true (show (i:Int)<=(ps.length:Int)-1 by omega),decide_eq_false (show ¬(i:Int)<0 by omega),decide_eq_false (show ¬(ps.length:Int)<=(i:Int) by omega)];simp only [Zyl,Bool.and_true,Bool.not_true,Zys,if_false,u1,u2,q1,q2,<-ZoJ k ps U hr,q3,and_self]
structure GU (ps:List Zq) (U:Int->List Int):Prop where
 asc:∀i,(U i).Pairwise (· < ·)
 bd:∀i,∀z∈U i,0<=z/\z<ps.length
 ev:Ev fun k=>∀i,Xh k ps i=some (U i)/\XU k ps i=some (U i)
theorem GU.len {ps:List Zq} {U:Int->List Int} (h:GU ps U) (i:Int):(U i).length<=ps.length:=Uu (Zet (h.asc i)) (h.bd i)
theorem ZpZ (ps:List Zq) (hl:ps.length<=1048576) (hp:∀p∈ps,p.bk<=2097152):∃U,GU ps U:=by
 obtain ⟨f,hf⟩:=V7 (p:=fun (i:Nat) (D:List Int)=>(D.Pairwise (· < ·)/\∀z∈D,0<=z/\z<ps.length)/\Ev fun k=>Xh k ps (i:Int)=some D/\XU k ps (i:Int)=some D) (List.range ps.length) fun i hi=>ZoK ps hl hp i (List.mem_range.1 hi);have hall:=Ev.all (List.range ps.length) fun i hi=>(hf i hi).2;have hr:∀i:Int,0<=i/\i<ps.length->i.toNat∈List.range ps.length:=fun i h=>List.mem_range.2 (by omega);refine ⟨fun i=>if 0<=i/\i<ps.length then f i.toNat else [],fun i=> ?_,fun i=> ?_,hall.mono fun k h i=> ?_⟩
 ·split
  ·exact (hf _ (hr i ‹_›)).1.1
  ·simp
 ·split
  ·exact (hf _ (hr i ‹_›)).1.2
  ·simp
 ·split
  ·rename_i hi;have:=h _ (hr i hi);rw [show ((i.toNat:Nat):Int)=i by omega] at this;exact this
  ·rename_i hi;have hw:IntKind.i64.wrap ((ps.length:Int)-1)=(ps.length:Int)-1:=w64 (by omega) (by omega);unfold Xh XU;rw [Km,hw]
   by_cases h0:0<=i
   ·rw [decide_eq_true h0,decide_eq_false (show ¬i<=(ps.length:Int)-1 by omega),decide_eq_false (show ¬i<0 by omega),decide_eq_true (show (ps.length:Int)<=i by omega)];exact ⟨rfl,rfl⟩
   ·rw [decide_eq_false h0,decide_eq_true (show i<0 by omega)];exact ⟨rfl,rfl⟩
theorem ZtA {a b n:Nat} (ha:a<=n) (hb:b<=n) (hn:n<=1048576):a*b<=1099511627776:=by
 have h1:a*b<=1048576*1048576:=Nat.mul_le_mul (by omega) (by omega);omega
theorem ZeH {α:Type} {l:List α} {x:α} (h:l.Nodup) (g:x∉l):(l++[x]).Nodup:=List.nodup_append.2 ⟨h,by simp,fun a ha b hb e=>by
 rw [List.mem_singleton] at hb;rw [e,hb] at ha;exact g ha⟩
def RS (U:Int->List Int) (i:Int) (r:List Int):Prop:=r.Pairwise (· < ·)/\∀z,z∈r↔Reach U i z
theorem RS.one {U:Int->List Int} {i:Int} {r s:List Int} (h:RS U i r) (g:RS U i s):r=s:=Zmu h.1 g.1 fun z=>by rw [h.2,g.2]
theorem Zrg {U:Int->List Int} {n:Nat} (hn:n<=1048576) (bd:∀i,∀z∈U i,0<=z/\z<n) (len:∀i,(U i).length<=n) (i:Int):Tot (RS U i) fun k=>ZeM k (fun x=>some (U x)) i:=by
 unfold ZeM;simp only [Zyl];have hlen:=len i;simp only [if_pos (show (U i).length<=17592186044416 by omega)];refine .bind (p:=fun r:List Int=>r.length<=n/\∀z,z∈r↔Reach U i z) ?_ fun r hr=> ?_
 ·refine Tot.loop (fun k m (s:List Int×List Int×Nat)=>WY k (fun x=>some (U x)) m s.1 s.2.1 s.2.2) (fun s=>s.1.Nodup/\(∀z∈s.1,Reach U i z)/\(∀z∈s.2.1,Reach U i z)/\(∀z∈U i,z∈s.1\/z∈s.2.1)/\(∀y∈s.1,∀z∈U y,z∈s.1\/z∈s.2.1)/\s.2.2<=n+s.1.length*n) (fun s=>(n-s.1.length)*(n+1)+s.2.1.length) (s0:=([],U i,(U i).length)) ⟨by simp,by simp,fun z hz=>.one hz,fun z hz=>.inr hz,by simp,by simp only [List.length_nil];omega⟩ ?_;rintro ⟨out,todo,t⟩ ⟨g1,g2,g3,g4,g5,g6⟩;simp only at g1 g2 g3 g4 g5 g6
  have rb:∀{z},Reach U i z->0<=z/\z<n:=fun h=>by cases h with
   | one h=>exact bd _ _ h
   | more _ h=>exact bd _ _ h
  have hout:out.length<=n:=Uu g1 fun z hz=>rb (g2 z hz);simp only [WY];cases todo with
  | nil=>
   refine .ite (fun e=>absurd e (by simp)) fun _=>.ret ⟨hout,Zfy (fun x hx=> ?_) (fun y hy x hx=> ?_) g2⟩
   ·simpa using g4 x hx
   ·simpa using g5 y hy x hx
  | cons x rest=>
   refine .ite (fun _=> ?_) fun e=>absurd (show decide (0<((x::rest).length:Int))=true by simp only [List.length_cons,decide_eq_true_eq];omega) e;have hat:at? (x::rest) 0=some x:=rfl;simp only [hat,Zyl];have hx:=g3 x (by simp);refine .bind (ZoE out x (by omega)) fun b hb=> ?_;subst hb;refine .ite (fun e=> ?_) fun e=> ?_
   ·have hne:x∉out:=by simpa using e
    have hout2:(out++[x]).length<=n:=Uu (ZeH g1 hne) fun z hz=>by
     rcases List.mem_append.1 hz with h| h
     ·exact rb (g2 z h)
     ·simp at h;subst h;exact rb hx
    have hl1:(out++[x]).length=out.length+1:=by simp
    refine .bindApp (by omega) (by simp;omega) ?_;have ht:t+(U x).length<=n+(out.length+1)*n:=by rw [Nat.add_mul,Nat.one_mul];have:=len x;omega
    have hm:=ZtA (show out.length+1<=n by omega) (Zyr n) hn;simp only [if_pos (show t+(U x).length<=17592186044416 by omega)];refine .next3 ⟨⟨?_,fun z hz=> ?_,fun z hz=> ?_,fun z hz=> ?_,fun y hy z hz=> ?_,by rw [hl1];exact ht⟩, ?_⟩
    ·exact ZeH g1 hne
    ·rcases List.mem_append.1 hz with h| h
     ·exact g2 z h
     ·simp at h;subst h;exact hx
    ·rcases List.mem_append.1 hz with h| h
     ·exact g3 z (List.mem_cons_of_mem _ h)
     ·exact .more hx h
    ·simp only;rcases g4 z hz with h| h
     ·exact .inl (List.mem_append_left _ h)
     ·rcases List.mem_cons.1 h with rfl| h
      ·exact .inl (by simp)
      ·exact .inr (List.mem_append_left _ h)
    ·simp only;rcases List.mem_append.1 hy with h| h
     ·rcases g5 y h z hz with h| h
      ·exact .inl (List.mem_append_left _ h)
      ·rcases List.mem_cons.1 h with rfl| h
       ·exact .inl (by simp)
       ·exact .inr (List.mem_append_left _ h)
     ·simp at h;subst h;exact .inr (List.mem_append_right _ hz)
    ·simp only [hl1,List.length_append,List.length_cons,List.drop_succ_cons,List.drop_zero]
     have e1:(n-out.length)*(n+1)=(n-(out.length+1))*(n+1)+(n+1):=by
      have:n-out.length=(n-(out.length+1))+1:=by omega
      rw [this,Nat.add_mul,Nat.one_mul]
     have:=len x;omega
   ·have hin:x∈out:=by simpa using e
    refine .next3 ⟨⟨g1,g2,fun z hz=>g3 z (List.mem_cons_of_mem _ hz),fun z hz=> ?_,fun y hy z hz=> ?_,g6⟩,by simp⟩
    ·simp only;rcases g4 z hz with h| h
     ·exact .inl h
     ·rcases List.mem_cons.1 h with rfl| h
      ·exact .inl hin
      ·exact .inr h
    ·simp only;rcases g5 y hy z hz with h| h
     ·exact .inl h
     ·rcases List.mem_cons.1 h with rfl| h
      ·exact .inl hin
      ·exact .inr h
 ·obtain ⟨s,h1,h2⟩:=Zik r (by omega);subst h1;exact .bind ⟨ZnS r,⟨Zcc r,fun z=>by rw [Zcb,hr.2]⟩,h2⟩ fun v hv=>.ret hv
theorem bfs {U:Int->List Int} {n:Nat} (hn:n<=1048576) (nd:∀i,(U i).Nodup) (bd:∀i,∀z∈U i,0<=z/\z<n) (i:Int) (u1:Nat->Nat->List Int->Int->Option (List Int)) (u2:Nat->List Int->Nat->List Int->Int->Option (List Int)) (near:Nat->Int->Option (List Int))
  (hnear:∀x:Int,0<=x->x<n->Tot (fun v=>v=U x) fun k=>near k x)
  (h1:∀k m l j,u1 k (m+1) l j=if decide (j<(l.length:Int))=true then ((at? l j).bind fun x=>(near k x).bind fun v=>u2 k v k l 0).bind fun y=>u1 k m y (IntKind.i64.wrap (j+1)) else some l)
  (h2:∀k v m l j,u2 k v (m+1) l j=if decide (j<(v.length:Int))=true then ((at? v j).bind fun x=>(Q4 k l x).bind fun c=>if (!c)=true then (Yv 8 l [x]).bind fun y=>some y else some l).bind fun y=>u2 k v m y (IntKind.i64.wrap (j+1)) else some l):
  Tot (fun r:List Int=>r.length<=n/\∀z,z∈r↔Reach U i z) fun k=>u1 k k (U i) 0:=by
 have rb:∀{z},Reach U i z->0<=z/\z<n:=fun h=>by cases h with
  | one h=>exact bd _ _ h
  | more _ h=>exact bd _ _ h
 refine Tot.loop (fun k m (s:List Int×Int)=>u1 k m s.1 s.2) (fun s=>(0<=s.2/\s.2<=s.1.length)/\s.1.Nodup/\(∀z∈s.1,Reach U i z)/\(∀z∈U i,z∈s.1)/\(∀y∈s.1.take s.2.toNat,∀z∈U y,z∈s.1)) (fun s=>(n+1-s.2).toNat) (s0:=(U i,0)) ⟨⟨by simp,by simp⟩,nd i,fun z hz=>.one hz,fun z hz=>hz,by simp⟩ ?_;rintro ⟨l,j⟩ ⟨⟨g1,g2⟩,g3,g4,g5,g6⟩;simp only at g1 g2 g3 g4 g5 g6;have hl:l.length<=n:=Uu g3 fun z hz=>rb (g4 z hz);simp only [h1];refine .ite (fun e=> ?_) fun e=>.ret ⟨hl,Zfy g5 (fun y hy x hx=>g6 y ?_ x hx) g4⟩
 ·have e:j<l.length:=by simpa using e
  rw [w64 (n:=j+1) (by omega) (by omega)];refine .bind (p:=fun r:List Int=>(∃t,r=l++t)/\r.Nodup/\(∀z∈r,Reach U i z)/\∀y∈l.take (j+1).toNat,∀z∈U y,z∈r) ?_ fun r hr=>.next2 ⟨⟨⟨by simp only;omega, ?_⟩,hr.2.1,hr.2.2.1,fun z hz=> ?_, ?_⟩,by simp only;omega⟩
  ·refine .bindAt g1 e fun x hx hm=>.bind (hnear x (rb (g4 x hm)).1 (rb (g4 x hm)).2) fun v hv=> ?_;subst hv;have hrx:=g4 x hm;have hux:(U x).length<=n:=Uu (nd x) (bd x);refine .mono (p:=fun r:List Int=>((∃t,r=l++t)/\r.Nodup/\(∀z∈r,Reach U i z))/\∀z∈U x,z∈r) ?_ fun r hr=>⟨hr.1.1,hr.1.2.1,hr.1.2.2,fun y hy z hz=> ?_⟩
   ·refine Tot.loop (fun k m (s:List Int×Int)=>u2 k (U x) m s.1 s.2) (fun s=>(0<=s.2/\s.2<=(U x).length)/\((∃t,s.1=l++t)/\s.1.Nodup/\(∀z∈s.1,Reach U i z))/\∀z∈(U x).take s.2.toNat,z∈s.1) (fun s=>((U x).length-s.2).toNat) (s0:=(l,0)) ⟨⟨by simp,by simp⟩,⟨⟨[],by simp⟩,g3,g4⟩,by simp⟩ ?_;rintro ⟨o,q⟩ ⟨⟨p1,p2⟩,⟨⟨t,p3⟩,p4,p5⟩,p6⟩;simp only at p1 p2 p3 p4 p5 p6;have ho:o.length<=n:=Uu p4 fun z hz=>rb (p5 z hz);simp only [h2];refine .ite (fun e2=> ?_) fun e2=>.ret ⟨⟨⟨t,p3⟩,p4,p5⟩, ?_⟩
    ·have e2:q<(U x).length:=by simpa using e2
     rw [w64 (n:=q+1) (by omega) (by omega)];refine .bind (p:=fun r:List Int=>((∃t,r=l++t)/\r.Nodup/\(∀z∈r,Reach U i z))/\∀z∈(U x).take (q+1).toNat,z∈r) ?_ fun r hr=>.next2 ⟨⟨⟨by simp only;omega,by simp only;omega⟩,hr.1,hr.2⟩,by simp only;omega⟩;refine .bindAt p1 e2 fun y hy hym=>.bind (ZjD o y (by omega)) fun c hc=> ?_;subst hc;have ty:∀{z},z∈(U x).take (q+1).toNat↔z=y\/z∈(U x).take q.toNat:=by rw [W3 p1];exact Q0 hy
     refine .ite (fun e3=>.bindApp (by omega) (by simp;omega) (.ret ⟨⟨⟨t++[y],by rw [p3,List.append_assoc]⟩, ?_,fun z hz=> ?_⟩,fun z hz=> ?_⟩)) fun e3=>.ret ⟨⟨⟨t,p3⟩,p4,p5⟩,fun z hz=> ?_⟩
     ·have e3:y∉o:=by simpa using e3
      exact ZeH p4 e3
     ·rcases List.mem_append.1 hz with h| h
      ·exact p5 z h
      ·simp at h;subst h;exact .more hrx hym
     ·rcases ty.1 hz with rfl| h
      ·simp
      ·exact List.mem_append_left _ (p6 z h)
     ·rcases ty.1 hz with rfl| h
      ·simpa using e3
      ·exact p6 z h
    ·have e2:¬q<(U x).length:=by simpa using e2
     obtain rfl:q=(U x).length:=by omega
     simpa using p6
   ·rw [W3 g1,Q0 hx] at hy;rcases hy with rfl| hy
    ·exact hr.2 z hz
    ·obtain ⟨t,ht⟩:=hr.1.1;rw [ht];exact List.mem_append_left _ (g6 y hy z hz)
  ·obtain ⟨t,ht⟩:=hr.1;simp only;rw [ht,List.length_append];omega
  ·obtain ⟨t,ht⟩:=hr.1;simp only;rw [ht];exact List.mem_append_left _ (g5 z hz)
  ·obtain ⟨t,ht⟩:=hr.1;simp only;intro y hy z hz;refine hr.2.2.2 y ?_ z hz;rw [ht,List.take_append_of_le_length (by omega)] at hy;exact hy
 ·have e:¬j<l.length:=by simpa using e
  obtain rfl:j=l.length:=by omega
  simpa using hy
theorem ZwG {U:Int->List Int} {ps:List Zq} {b:Bool} {n:Nat} (hn:n<=1048576) (nd:∀i,(U i).Nodup) (bd:∀i,∀z∈U i,0<=z/\z<n) (hev:Ev fun k=>∀i,Un k ps i b=some (U i)) (i:Int):Tot (RS U i) fun k=>Zcd k ps i b:=by
 have near:∀x,Tot (fun v=>v=U x) fun k=>Un k ps x b:=fun x=>⟨U x,rfl,hev.mono fun k h=>h x⟩;unfold Zcd;refine .bind (near i) fun v hv=> ?_;subst hv;refine .bind (bfs hn nd bd i (fun k=>Wx k ps b) (fun k v=>Ww k v) (fun k x=>Un k ps x b) (fun x _ _=>near x) (fun k m l j=>by rw [Wx]) (fun k v m l j=>by rw [Ww])) fun r hr=> ?_;obtain ⟨s,h1,h2⟩:=Zrb r (by omega);subst h1;exact .bind ⟨ZnS r,⟨Zcc r,fun z=>by rw [Zcb,hr.2]⟩,h2⟩ fun v hv=>.ret hv
def ZaX (p:Nat->Bool) (n:Nat):List Int:=((List.range n).filter p).map fun (i:Nat)=>(i:Int)
theorem Jw (p:Nat->Bool) (n:Nat):(ZaX p n).length<=n:=by unfold ZaX;rw [List.length_map];have:=List.length_filter_le p (List.range n);simpa using this
theorem Zcg (p:Nat->Bool) (n:Nat):ZaX p (n+1)=if p n=true then ZaX p n++[(n:Int)] else ZaX p n:=by
 unfold ZaX;rw [List.range_succ,List.filter_append,List.map_append];cases h:p n<;>simp [h]
theorem Jv {p:Nat->Bool} {n:Nat} {z:Int}:z∈ZaX p n↔(0<=z/\z<n)/\p z.toNat=true:=by
 unfold ZaX;constructor
 ·intro h;obtain ⟨i,hi,rfl⟩:=List.mem_map.1 h;obtain ⟨h1,h2⟩:=List.mem_filter.1 hi;have:=List.mem_range.1 h1;exact ⟨⟨by omega,by omega⟩,by simpa using h2⟩
 ·rintro ⟨⟨h1,h2⟩,h3⟩;exact List.mem_map.2 ⟨z.toNat,List.mem_filter.2 ⟨List.mem_range.2 (by omega),h3⟩,by omega⟩
theorem Zn8 (p:Nat->Bool) (n:Nat):(ZaX p n).Pairwise (· < ·):=by
 unfold ZaX;rw [List.pairwise_map];exact List.Pairwise.imp (fun {a b} hab=>by omega) (List.Pairwise.filter _ List.pairwise_lt_range)
def Zhh (U:Int->List Int) (n:Nat) (j:Int):List Int:=ZaX (fun i=>decide (j∈U (i:Int))) n
theorem Zpl {ps:List Zq} (hl:ps.length<=1048576) {U:Int->List Int} (h:GU ps U):Ev fun k=>∀j,Zgk k ps j=some (Zhh U ps.length j)/\ZgC k ps j=some (Zhh U ps.length j):=by
 refine (h.ev.and (Ev.ge (ps.length+1))).mono fun k ⟨hk,hk2⟩ j=>⟨?_, ?_⟩
 ·unfold Zgk
  rw [show Wc k ps j k [] 0=_ from ZfI (fun m (s:List Int) i=>Wc k ps j m s i) (fun i=>ZaX (fun i=>decide (j∈U (i:Int))) i) (some (Zhh U ps.length j)) ps.length
   (fun m i hi=>by
    have hp:=Jw (fun i=>decide (j∈U (i:Int))) i;have hu:=h.len (i:Int)
    try simp only
    rw [Wc,if_pos (Z3 hi),(hk i).1,Zyl,ZdU _ _ (by omega) (by omega),Zyl,WS (by simp;omega) (by omega),wS i (by omega),Zcg];cases decide (j∈U (i:Int))<;>rfl)
   (fun m=>by
    try simp only
    rw [Wc,if_neg (X6 (Zyr _))];rfl) (k:=k) (by omega)]
  rfl
 ·unfold ZgC
  rw [show Wf k ps j k [] 0=_ from ZfI (fun m (s:List Int) i=>Wf k ps j m s i) (fun i=>ZaX (fun i=>decide (j∈U (i:Int))) i) (some (Zhh U ps.length j)) ps.length
   (fun m i hi=>by
    have hp:=Jw (fun i=>decide (j∈U (i:Int))) i;have hu:=h.len (i:Int)
    try simp only
    rw [Wf,if_pos (Z3 hi),(hk i).2,Zyl,ZgB _ _ (by omega) (by omega),Zyl,WS (by simp;omega) (by omega),wS i (by omega),Zcg];cases decide (j∈U (i:Int))<;>rfl)
   (fun m=>by
    try simp only
    rw [Wf,if_neg (X6 (Zyr _))];rfl) (k:=k) (by omega)]
  rfl
theorem ZgY {ps:List Zq} (hl:ps.length<=1048576) {U:Int->List Int} (h:GU ps U) (i:Int):∃A,RS (Zhh U ps.length) i A/\Ev fun k=>KI k ps i=some A/\KV k ps i=some A:=by
 have hu:=Zpl hl h;have bd:∀i,∀z∈Zhh U ps.length i,0<=z/\z<ps.length:=fun i z hz=>(Jv.1 hz).1;obtain ⟨A,h1,h2⟩:=ZwG hl (fun i=>Zet (Zn8 _ _)) bd (b:=true) (hu.mono fun k h i=>by unfold Un;rw [if_pos rfl,(h i).1];rfl) i;obtain ⟨B,h3,h4⟩:=Zrg hl bd (fun i=>Jw _ _) i;obtain rfl:=h1.one h3;refine ⟨A,h1,(h2.and (h4.and hu)).mono fun k ⟨e1,e2,e3⟩=>⟨?_, ?_⟩⟩
 ·have e1:Zcd k ps i true=some A:=e1;unfold KI;rw [e1];rfl
 ·unfold KV;have:(fun x=>Vo k x ps)=fun x=>some (Zhh U ps.length x):=funext fun x=>by unfold Vo;rw [(e3 x).2];rfl
  rw [this];exact e2
def Zuy (V:Int->List Int) (n:Nat) (xs r:List Int):Prop:=r.Pairwise (· < ·)/\∀z,z∈r↔∃x∈xs,(0<=x/\x<n)/\(z=x\/Reach V x z)
theorem Zuy.one {V:Int->List Int} {n:Nat} {xs ys r s:List Int} (h:Zuy V n xs r) (g:Zuy V n ys s) (e:∀x:Int,0<=x->x<n->(x∈xs↔x∈ys)):r=s:=Zmu h.1 g.1 fun z=>by
 rw [h.2,g.2];exact ⟨fun ⟨x,h1,h2,h3⟩=>⟨x,(e x h2.1 h2.2).1 h1,h2,h3⟩,fun ⟨x,h1,h2,h3⟩=>⟨x,(e x h2.1 h2.2).2 h1,h2,h3⟩⟩
theorem Zo3 {ps:List Zq} (hl:ps.length<=8) {U:Int->List Int} (h:GU ps U) (xs:List Int) (hx:xs.length<=4194304):
  Tot (Zuy (Zhh U ps.length) ps.length xs) (fun k=>Vj k ps xs)/\Tot (Zuy (Zhh U ps.length) ps.length xs) (fun k=>Vp k ps xs):=by
 have hw:IntKind.i64.wrap ((ps.length:Int)-1)=(ps.length:Int)-1:=w64 (by omega) (by omega)
 have step:∀{z:Int} {x:Int} {out A:List Int} {i:Nat},xs[i]? =some x->(0<=x/\x<ps.length)->RS (Zhh U ps.length) x A->(∀z,z∈out↔∃x∈xs.take i,(0<=x/\x<ps.length)/\(z=x\/Reach (Zhh U ps.length) x z))->(z∈out++[x]++A↔∃x∈xs.take (i+1),(0<=x/\x<ps.length)/\(z=x\/Reach (Zhh U ps.length) x z)):=fun {z x out A i} hxi hr hA ho=>by
  rw [List.mem_append,List.mem_append,List.mem_singleton,ho,hA.2];constructor
  ·rintro ((⟨y,h1,h2⟩| h1)| h1)
   ·exact ⟨y,(Q0 hxi).2 (.inr h1),h2⟩
   ·exact ⟨x,(Q0 hxi).2 (.inl rfl),hr,.inl h1⟩
   ·exact ⟨x,(Q0 hxi).2 (.inl rfl),hr,.inr h1⟩
  ·rintro ⟨y,h1,h2,h3⟩;rcases (Q0 hxi).1 h1 with rfl| h1
   ·rcases h3 with h3| h3
    ·exact .inl (.inr h3)
    ·exact .inr h3
   ·exact .inl (.inl ⟨y,h1,h2,h3⟩)
 have skip:∀{z:Int} {x:Int} {out:List Int} {i:Nat},xs[i]? =some x->¬(0<=x/\x<ps.length)->(∀z,z∈out↔∃x∈xs.take i,(0<=x/\x<ps.length)/\(z=x\/Reach (Zhh U ps.length) x z))->(z∈out↔∃x∈xs.take (i+1),(0<=x/\x<ps.length)/\(z=x\/Reach (Zhh U ps.length) x z)):=fun {z x out i} hxi hr ho=>by
  rw [ho];constructor
  ·rintro ⟨y,h1,h2⟩;exact ⟨y,(Q0 hxi).2 (.inr h1),h2⟩
  ·rintro ⟨y,h1,h2,h3⟩;rcases (Q0 hxi).1 h1 with rfl| h1
   ·exact absurd h2 hr
   ·exact ⟨y,h1,h2,h3⟩
 have alen:∀{x A},RS (Zhh U ps.length) x A->A.length<=ps.length:=fun hA=>Uu (Zet hA.1) fun z hz=>by
  cases (hA.2 z).1 hz with
  | one g=>exact (Jv.1 g).1
  | more _ g=>exact (Jv.1 g).1
 constructor
 ·unfold Vj;refine .bind (p:=fun r:List Int=>r.length<=1073741824/\∀z,z∈r↔∃x∈xs,(0<=x/\x<ps.length)/\(z=x\/Reach (Zhh U ps.length) x z)) ?_ fun r hr=> ?_
  ·refine Tot.loop (fun k m (s:List Int×Int)=>Qj k ps xs m s.1 s.2) (fun s=>((0<=s.2/\s.2<=xs.length)/\(s.1.length:Int)<=9*s.2)/\∀z,z∈s.1↔∃x∈xs.take s.2.toNat,(0<=x/\x<ps.length)/\(z=x\/Reach (Zhh U ps.length) x z)) (fun s=>(xs.length-s.2).toNat) (s0:=([],0)) ⟨⟨⟨by simp,by simp⟩,by simp⟩,by simp⟩ ?_;rintro ⟨out,i⟩ ⟨⟨⟨g1,g2⟩,g3⟩,g4⟩;simp only at g1 g2 g3 g4;simp only [Qj];refine .ite (fun e=> ?_) fun e=>.ret ?_
   ·have e:i<xs.length:=by simpa using e
    rw [w64 (n:=i+1) (by omega) (by omega)];refine .bind (p:=fun r:List Int=>(r.length:Int)<=9*(i+1)/\∀z,z∈r↔∃x∈xs.take (i+1).toNat,(0<=x/\x<ps.length)/\(z=x\/Reach (Zhh U ps.length) x z)) ?_ fun r hr=>.next2 ⟨⟨⟨⟨by simp only;omega,by simp only;omega⟩,hr.1⟩,hr.2⟩,by simp only;omega⟩;refine .bindAt g1 e fun x hxi hm=> ?_;rw [Km,hw];simp only [Zyl];refine .ite (fun e2=> ?_) fun e2=>.ret ⟨by omega,fun z=> ?_⟩
    ·have e2:0<=x/\x<ps.length:=by simp at e2;omega
     obtain ⟨A,hA,hev⟩:=ZgY (by omega) h x;have:=alen hA;refine .bindApp (by omega) (by simp;omega) (.bind (p:=fun v=>v=A) ⟨A,rfl,hev.mono fun k h=>h.1⟩ fun v hv=> ?_);subst hv;refine .bindApp (by omega) (by simp;omega) (.ret ⟨by simp;omega,fun z=> ?_⟩);rw [W3 g1];exact step hxi e2 hA g4
    ·have e2:¬(0<=x/\x<ps.length):=by simp at e2;omega
     rw [W3 g1];exact skip hxi e2 g4
   ·have e:¬i<xs.length:=by simpa using e
    obtain rfl:i=xs.length:=by omega
    exact ⟨by omega,fun z=>by rw [g4];simp⟩
  ·obtain ⟨s,h1,h2⟩:=Zrb r (by omega);subst h1;exact .bind ⟨ZnS r,⟨Zcc r,fun z=>by rw [Zcb,hr.2]⟩,h2⟩ fun v hv=>.ret hv
 ·unfold Vp;refine .bind (p:=fun r:List Int=>r.length<=1073741824/\∀z,z∈r↔∃x∈xs,(0<=x/\x<ps.length)/\(z=x\/Reach (Zhh U ps.length) x z)) ?_ fun r hr=> ?_
  ·refine Tot.loop (fun k m (s:List Int×Int)=>Qp k ps xs m s.1 s.2) (fun s=>((0<=s.2/\s.2<=xs.length)/\(s.1.length:Int)<=9*s.2)/\∀z,z∈s.1↔∃x∈xs.take s.2.toNat,(0<=x/\x<ps.length)/\(z=x\/Reach (Zhh U ps.length) x z)) (fun s=>(xs.length-s.2).toNat) (s0:=([],0)) ⟨⟨⟨by simp,by simp⟩,by simp⟩,by simp⟩ ?_;rintro ⟨out,i⟩ ⟨⟨⟨g1,g2⟩,g3⟩,g4⟩;simp only at g1 g2 g3 g4;simp only [Qp];refine .ite (fun e=> ?_) fun e=>.ret ?_
   ·have e:i<xs.length:=by simpa using e
    rw [w64 (n:=i+1) (by omega) (by omega)];refine .bind (p:=fun r:List Int=>(r.length:Int)<=9*(i+1)/\∀z,z∈r↔∃x∈xs.take (i+1).toNat,(0<=x/\x<ps.length)/\(z=x\/Reach (Zhh U ps.length) x z)) ?_ fun r hr=>.next2 ⟨⟨⟨⟨by simp only;omega,by simp only;omega⟩,hr.1⟩,hr.2⟩,by simp only;omega⟩;refine .bindAt g1 e fun x hxi hm=> ?_;have ec:(if decide (0<=x)=true then some (decide (x<(ps.length:Int))) else some false:Option Bool)=some (decide (0<=x)&&decide (x<(ps.length:Int))):=by cases decide (0<=x)<;>rfl
    simp only [ec,Zyl];refine .ite (fun e2=> ?_) fun e2=>.ret ⟨by omega,fun z=> ?_⟩
    ·have e2:0<=x/\x<ps.length:=by simp at e2;omega
     obtain ⟨A,hA,hev⟩:=ZgY (by omega) h x;have:=alen hA;refine .bindApp (by omega) (by simp;omega) (.bind (p:=fun v=>v=A) ⟨A,rfl,hev.mono fun k h=>h.2⟩ fun v hv=> ?_);subst hv;refine .bindApp (by omega) (by simp;omega) (.ret ⟨by simp;omega,fun z=> ?_⟩);rw [W3 g1];exact step hxi e2 hA g4
    ·have e2:¬(0<=x/\x<ps.length):=by simp at e2;omega
     rw [W3 g1];exact skip hxi e2 g4
   ·have e:¬i<xs.length:=by simpa using e
    obtain rfl:i=xs.length:=by omega
    exact ⟨by omega,fun z=>by rw [g4];simp⟩
  ·obtain ⟨s,h1,h2⟩:=Zik r (by omega);subst h1;exact .bind ⟨ZnS r,⟨Zcc r,fun z=>by rw [Zcb,hr.2]⟩,h2⟩ fun v hv=>.ret hv
theorem Zuu {ps:List Zq} (hl:ps.length<=8) {U:Int->List Int} (h:GU ps U) (xs ys:List Int) (hx:xs.length<=4194304) (hy:ys.length<=4194304) (e:∀x:Int,0<=x->x<ps.length->(x∈xs↔x∈ys)):∃r:List Int,r.length<=ps.length/\Ev fun k=>Vj k ps xs=some r/\Vp k ps ys=some r:=by
 obtain ⟨r,h1,h2⟩:=(Zo3 hl h xs hx).1;obtain ⟨s,h3,h4⟩:=(Zo3 hl h ys hy).2;obtain rfl:=h1.one h3 e;refine ⟨r,Uu (Zet h1.1) fun z hz=> ?_,h2.and h4⟩;obtain ⟨x,_,hx,rfl| g⟩:=(h1.2 z).1 hz
 ·exact hx
 ·cases g with
  | one g=>exact (Jv.1 g).1
  | more _ g=>exact (Jv.1 g).1
end Go.Proofs.YtbkllghhcphkaaaGreatDoor
