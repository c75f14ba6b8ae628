import Derived.Test.YtpblakfidofgfaaGreatDoorZJ6
import Derived.Sort.Walk0
set_option linter.unusedSimpArgs false
set_option linter.unusedVariables false
namespace Go.Proofs.YtpblakfidofgfaaGreatDoor
theorem ZqW:∀{a b:List Int},a.Pairwise (· < ·)->b.Pairwise (· < ·)->(∀x,x∈a↔x∈b)->a=b
 | [],[],_,_,_=>rfl
 | [],y::b,_,_,h=>absurd ((h y).2 (by simp)) (by simp)
 | x::a,[],_,_,h=>absurd ((h x).1 (by simp)) (by simp)
 | x::a,y::b,ha,hb,h=>by
  obtain ⟨ha1,ha2⟩:=List.pairwise_cons.1 ha;obtain ⟨hb1,hb2⟩:=List.pairwise_cons.1 hb
  have hxy:x=y:=by
   rcases List.mem_cons.1 ((h x).1 (by simp)) with e| e
   ·exact e
   ·rcases List.mem_cons.1 ((h y).2 (by simp)) with e'| e'
    ·exact e'.symm
    ·have h1:=hb1 x e;have h2:=ha1 y e';omega
  subst hxy;rw [ZqW ha2 hb2 fun z=>⟨fun hz=> ?_,fun hz=> ?_⟩]
  ·rcases List.mem_cons.1 ((h z).1 (List.mem_cons_of_mem _ hz)) with e| e
   ·subst e;exact absurd (ha1 z hz) (by omega)
   ·exact e
  ·rcases List.mem_cons.1 ((h z).2 (List.mem_cons_of_mem _ hz)) with e| e
   ·subst e;exact absurd (hb1 z hz) (by omega)
   ·exact e
def Zqt (x:Int):List Int->List Int
 | []=>[x]
 | y::l=>if x<y then x::y::l else if x=y then y::l else y::Zqt x l
theorem Zkl {x z:Int}:∀{l:List Int},z∈Zqt x l↔z=x\/z∈l
 | []=>by simp [Zqt]
 | y::l=>by
  simp only [Zqt]
  split
  ·simp
  ·split
   ·rename_i h;subst h;simp
   ·simp only [List.mem_cons,Zkl (l:=l)];constructor
    ·rintro (h| h| h)<;>simp [h]
    ·rintro (h| h| h)<;>simp [h]
theorem ZnW {x:Int}:∀{l:List Int},l.Pairwise (· < ·)->(Zqt x l).Pairwise (· < ·)
 | [],_=>by simp [Zqt]
 | y::l,h=>by
  obtain ⟨h1,h2⟩:=List.pairwise_cons.1 h;simp only [Zqt]
  split
  ·rename_i hx;refine List.pairwise_cons.2 ⟨fun z hz=> ?_,h⟩;rcases List.mem_cons.1 hz with rfl| hz
   ·exact hx
   ·have:=h1 z hz;omega
  ·split
   ·exact h
   ·refine List.pairwise_cons.2 ⟨fun z hz=> ?_,ZnW h2⟩;rcases Zkl.1 hz with rfl| hz
    ·omega
    ·exact h1 z hz
def ZoA (xs:List Int):List Int:=xs.foldl (fun s x=>Zqt x s) []
theorem ZhA:∀(xs s:List Int),s.Pairwise (· < ·)->(xs.foldl (fun s x=>Zqt x s) s).Pairwise (· < ·)/\∀z,z∈xs.foldl (fun s x=>Zqt x s) s↔z∈xs\/z∈s
 | [],s,h=>⟨h,fun z=>by simp⟩
 | x::xs,s,h=>by
  obtain ⟨h1,h2⟩:=ZhA xs (Zqt x s) (ZnW h);refine ⟨h1,fun z=> ?_⟩;rw [List.foldl_cons,h2,Zkl,List.mem_cons];constructor
  ·rintro (h| h| h)<;>simp [h]
  ·rintro ((h| h)| h)<;>simp [h]
theorem Zg6 (xs:List Int):(ZoA xs).Pairwise (· < ·):=(ZhA xs [] List.Pairwise.nil).1
theorem ZeD {xs:List Int} {z:Int}:z∈ZoA xs↔z∈xs:=by
 have:=(ZhA xs [] List.Pairwise.nil).2 z;simp only [List.not_mem_nil,or_false] at this;exact this
theorem ZpN {xs r:List Int} (h:r.Pairwise (· < ·)) (hm:∀z,z∈r↔z∈xs):r=ZoA xs:=ZqW h (Zg6 xs) fun z=>by rw [hm,ZeD]
theorem Zag {l:List Int} (h:l.Pairwise (· < ·)):l.Nodup:=h.imp fun h=>by omega
theorem ZmK:∀{n:Nat} {l:List Nat},l.Nodup->(∀x∈l,x<n)->l.length<=n
 | 0,l,_,hb=>by
  cases l with
  | nil=>simp
  | cons x l=>exact absurd (hb x (by simp)) (by omega)
 | n+1,l,hn,hb=>by
  by_cases h:n∈l
  ·have h1:=ZmK (hn.erase n) (n:=n) fun x hx=>by
    obtain ⟨h2,h3⟩:=(List.Nodup.mem_erase_iff hn).1 hx;have:=hb x h3;omega
   rw [List.length_erase_of_mem h] at h1;omega
  ·have:=ZmK hn (n:=n) fun x hx=>by
    have:=hb x hx;have:x≠n:=fun e=>h (e▸hx);omega
   omega
theorem Q9 {n:Nat}:∀{l:List Int},l.Nodup->(∀x∈l,0<=x/\x<n)->l.length<=n:=by
 intro l hn hb
 have h1:(l.map Int.toNat).Nodup:=by
  rw [List.Nodup,List.pairwise_map];exact (List.Pairwise.imp_of_mem (fun {a b} ha hb' hne e=>hne (by have:=hb a ha;have:=hb b hb';omega)) hn)
 have h2:=ZmK h1 fun x hx=>by
  obtain ⟨y,hy,rfl⟩:=List.mem_map.1 hx;have:=hb y hy;show y.toNat<n;omega
 simpa using h2
inductive Reach (U:Int->List Int) (i:Int):Int->Prop where
 | one {j:Int} (h:j∈U i):Reach U i j
 | more {j k:Int} (h:Reach U i j) (hk:k∈U j):Reach U i k
theorem ZgS {U:Int->List Int} {i:Int} {l:List Int} (h0:∀x∈U i,x∈l) (h1:∀y∈l,∀x∈U y,x∈l) (h2:∀x∈l,Reach U i x) (z:Int):z∈l↔Reach U i z:=
 ⟨h2 z,fun h=>by induction h with
  | one h=>exact h0 _ h
  | more _ h ih=>exact h1 _ ih _ h⟩
def iter (f:Int->Int):Nat->Int->Int
 | 0,x=>x
 | n+1,x=>f (iter f n x)
theorem Zjj {U:Int->List Int} {f:Int->Int} {S:Int->Prop} (hf:∀x,S x->f x∈U x/\S (f x)) {x:Int} (hx:S x):∀n,S (iter f n x)/\∀m,m<n->Reach U (iter f m x) (iter f n x)
 | 0=>⟨hx,fun m h=>absurd h (by omega)⟩
 | n+1=>by
  obtain ⟨h1,h2⟩:=Zjj hf hx n;refine ⟨(hf _ h1).2,fun m hm=> ?_⟩
  by_cases e:m=n
  ·subst e;exact .one (hf _ h1).1
  ·exact .more (h2 m (by omega)) (hf _ h1).1
theorem ZrW {U:Int->List Int} {n:Nat} {S:Int->Prop} (hS:∀x,S x->0<=x/\x<n) (hne:∃x,S x) (hstep:∀x,S x->∃y,y∈U x/\S y):∃x,S x/\Reach U x x:=by
 obtain ⟨x,hx⟩:=hne
 classical
 have hch:∃f:Int->Int,∀x,S x->f x∈U x/\S (f x):=by
  refine ⟨fun x=>if h:S x then (hstep x h).choose else 0,fun x hx=> ?_⟩;simp only [dif_pos hx];exact (hstep x hx).choose_spec
 obtain ⟨f,hf⟩:=hch;have hit:=Zjj (U:=U) hf hx
 have:¬((List.range (n+1)).map fun m=>iter f m x).Nodup:=fun hn=>by
  have:=Q9 hn (n:=n) fun y hy=>by
   obtain ⟨m,_,rfl⟩:=List.mem_map.1 hy;exact hS _ (hit m).1
  simp at this;omega
 have hp:∃a b,a<b/\iter f a x=iter f b x:=by
  refine Classical.byContradiction fun hno=>this ?_;rw [List.Nodup,List.pairwise_map];refine List.Pairwise.imp_of_mem (fun {a b} _ _ hab e=>hno ⟨a,b,hab,e⟩) List.pairwise_lt_range
 obtain ⟨a,b,hab,e⟩:=hp;exact ⟨iter f b x,(hit b).1,e▸(hit b).2 a hab⟩
open Go.RowKit Am
def Tot {α:Type} (p:α->Prop) (f:Nat->Option α):Prop:=∃v,p v/\Ev fun k=>f k=some v
section
variable {α β γ ε O:Type} {p:α->Prop} {q:β->Prop}
theorem Tot.ret {v:α} (h:p v):Tot p fun _=>some v:=⟨v,h,Ev.of fun _=>rfl⟩
theorem Tot.mono {p':α->Prop} {f:Nat->Option α} (h:Tot p f) (g:∀v,p v->p' v):Tot p' f:=by obtain ⟨v,h1,h2⟩:=h;exact ⟨v,g v h1,h2⟩
theorem Tot.bind {f:Nat->Option α} {g:Nat->α->Option β} (h:Tot p f) (hg:∀v,p v->Tot q fun k=>g k v):Tot q fun k=>(f k).bind (g k):=by
 obtain ⟨v,h1,h2⟩:=h;obtain ⟨u,h3,h4⟩:=hg v h1;exact ⟨u,h3,(h2.and h4).mono fun k ⟨e1,e2⟩=>by simp only [e1,Zz8,e2]⟩
theorem Tot.ite {b:Prop} [Decidable b] {f g:Nat->Option β} (h1:b->Tot q f) (h2:¬b->Tot q g):Tot q fun k=>if b then f k else g k:=by
 by_cases h:b
 ·simp only [if_pos h];exact h1 h
 ·simp only [if_neg h];exact h2 h
theorem Tot.of {f:Option α} {v:α} (e:f=some v) (h:p v):Tot p fun _=>f:=⟨v,h,Ev.of fun _=>e⟩
theorem Tot.at {xs:List α} {i:Int} (h0:0<=i) (h1:i<xs.length) (h:∀x,xs[i.toNat]? =some x->x∈xs->p x):Tot p fun _=>at? xs i:=by
 have hl:i.toNat<xs.length:=by omega
 refine .of (v:=xs[i.toNat]) ?_ (h _ (ZAg hl) (List.getElem_mem hl));unfold at?;rw [if_pos h0,ZAg hl]
theorem Tot.bindAt {xs:List α} {i:Int} {g:Nat->α->Option β} (h0:0<=i) (h1:i<xs.length) (h:∀x,xs[i.toNat]? =some x->x∈xs->Tot q fun k=>g k x):Tot q fun k=>(at? xs i).bind (g k):=
 Tot.bind (p:=fun x=>xs[i.toNat]? =some x/\x∈xs) (Tot.at h0 h1 fun x e m=>⟨e,m⟩) fun x hx=>h x hx.1 hx.2
theorem Tot.bindApp {b:Nat} {xs ys:List α} {g:Nat->List α->Option β} (hb:b<=128) (h0:xs.length+ys.length<=1099511627776) (h:Tot q fun k=>g k (xs++ys)):Tot q fun k=>(YH b xs ys).bind (g k):=by
 simp only [XG h0 hb,Zz8];exact h
def ZkJ (Inv:O->Prop) (Post:ε->Prop) (U:Nat->Nat->O->Option ε) (f:Nat->Nat->Option ε):Prop:=
 (∃s,Inv s/\Ev fun k=>∀m,f k m=U k m s)\/∃r,Post r/\Ev fun k=>∀m,f k m=some r
variable {Inv:O->Prop} {Post:ε->Prop} {U:Nat->Nat->O->Option ε}
theorem ZkJ.bind {f:Nat->Option α} {g:Nat->Nat->α->Option ε} (h:Tot p f) (hg:∀v,p v->ZkJ Inv Post U fun k m=>g k m v):ZkJ Inv Post U fun k m=>(f k).bind (g k m):=by
 obtain ⟨v,h1,h2⟩:=h;rcases hg v h1 with ⟨s,h3,h4⟩| ⟨r,h3,h4⟩
 ·exact .inl ⟨s,h3,(h2.and h4).mono fun k ⟨e1,e2⟩ m=>by simp only [e1,Zz8,e2]⟩
 ·exact .inr ⟨r,h3,(h2.and h4).mono fun k ⟨e1,e2⟩ m=>by simp only [e1,Zz8,e2]⟩
theorem ZkJ.ite {b:Prop} [Decidable b] {f g:Nat->Nat->Option ε} (h1:b->ZkJ Inv Post U f) (h2:¬b->ZkJ Inv Post U g):ZkJ Inv Post U fun k m=>if b then f k m else g k m:=by
 by_cases h:b
 ·simp only [if_pos h];exact h1 h
 ·simp only [if_neg h];exact h2 h
theorem ZkJ.ret {r:ε} (h:Post r):ZkJ Inv Post U fun _ _=>some r:=.inr ⟨r,h,Ev.of fun _ _=>rfl⟩
theorem ZkJ.next {s:O} (h:Inv s):ZkJ Inv Post U fun k m=>U k m s:=.inl ⟨s,h,Ev.of fun _ _=>rfl⟩
theorem ZkJ.bindApp {b:Nat} {xs ys:List α} {g:Nat->Nat->List α->Option ε} (hb:b<=128) (h0:xs.length+ys.length<=1099511627776) (h:ZkJ Inv Post U fun k m=>g k m (xs++ys)):ZkJ Inv Post U fun k m=>(YH b xs ys).bind (g k m):=by
 simp only [XG h0 hb,Zz8];exact h
theorem Tot.loop (U:Nat->Nat->O->Option ε) (Inv:O->Prop) (μ:O->Nat) {Post:ε->Prop} {s0:O} (h0:Inv s0)
  (step:∀s,Inv s->ZkJ (fun s'=>Inv s'/\μ s'<μ s) Post U fun k m=>U k (m+1) s):Tot Post fun k=>U k k s0:=by
 have key:∀n s,μ s=n->Inv s->∃r,Post r/\Ev fun k=>∀j,μ s<j->U k j s=some r:=by
  intro n
  induction n using Nat.strongRecOn with
  | _ n ih=>
   intro s hn hs;rcases step s hs with ⟨s',⟨h1,h2⟩,h3⟩| ⟨r,h1,h2⟩
   ·obtain ⟨r,h4,h5⟩:=ih _ (by omega) s' rfl h1;refine ⟨r,h4,(h3.and h5).mono fun k ⟨e1,e2⟩ j hj=> ?_⟩;obtain ⟨j,rfl⟩:∃i,j=i+1:=⟨j-1,by omega⟩;exact (e1 j).trans (e2 j (by omega))
   ·refine ⟨r,h1,h2.mono fun k e j hj=> ?_⟩;obtain ⟨j,rfl⟩:∃i,j=i+1:=⟨j-1,by omega⟩;exact e j
 obtain ⟨r,h1,h2⟩:=key _ s0 rfl h0;exact ⟨r,h1,(h2.and (Ev.ge (μ s0+1))).mono fun k ⟨e,hk⟩=>e k (by omega)⟩
end
theorem ZkJ.next2 {A B ε:Type} {Inv:A×B->Prop} {Post:ε->Prop} {U:Nat->Nat->A×B->Option ε} {a:A} {b:B} (h:Inv (a,b)):ZkJ Inv Post U fun k m=>U k m (a,b):=.next h
theorem ZkJ.next3 {A B C ε:Type} {Inv:A×B×C->Prop} {Post:ε->Prop} {U:Nat->Nat->A×B×C->Option ε} {a:A} {b:B} {c:C} (h:Inv (a,b,c)):ZkJ Inv Post U fun k m=>U k m (a,b,c):=.next h
theorem Qi (s:ByteArray):s.data.toList.length=s.size:=by simp
theorem V8 (a lo hi:Int):UK a lo hi=some (decide (lo<=a)&&decide (a<=hi)):=by
 unfold UK;cases decide (lo<=a)<;>simp
theorem Kf (a lo hi:Int):XZ a lo hi=some (decide (lo<=a)&&decide (a<=hi)):=by
 unfold XZ;cases decide (lo<=a)<;>simp
theorem Zp6 (n:Int):YN n=some (decide (-1000000000<=n)&&decide (n<=1000000000)):=by
 unfold YN;simp only [V8,Zz8]
theorem ZmI (n:Int):XS n=some (decide (-1000000000<=n)&&decide (n<=1000000000)):=by
 unfold XS;simp only [Kf,Zz8]
def ZkT (c:UInt8):Bool:=decide (97<=(c.toNat:Int))&&decide ((c.toNat:Int)<=122)
def Zmi (c:UInt8):Bool:=decide (48<=(c.toNat:Int))&&decide ((c.toNat:Int)<=57)
def Zir (i:Nat) (c:UInt8):Bool:=!ZkT c&&(decide (i=0)||!Zmi c)
theorem Zro (s:ByteArray) (hs:(s.size:Int)<=9223372036854775807) {k:Nat} (hk:s.size<k):ZbI k s=some (!(anyI Zir 0 s.data.toList)&&decide (0<(s.size:Int))):=by
 unfold ZbI
 rw [U9 s.data.toList Zir (fun i c=>(if (decide (97<=(c.toNat:Int)))=true then some (decide ((c.toNat:Int)<=122)) else some false:Option Bool).bind fun x2=>(if (decide (48<=(c.toNat:Int)))=true then some (decide ((c.toNat:Int)<=57)) else some false:Option Bool).bind fun x4=>
     (if (!x2)=true then if (decide (i=0))=true then some true else some (!x4) else some false:Option Bool)) false () (Vh s) (fun j hj=> ?_) (fun n i=> ?_) (by rw [Qi];exact hs) (by rw [Qi];exact hk)]
 ·cases anyI Zir 0 s.data.toList<;>simp
 ·unfold Zir ZkT Zmi;cases decide (97<=((s.data.toList[j]).toNat:Int))<;>cases decide (((s.data.toList[j]).toNat:Int)<=122)<;>cases decide (48<=((s.data.toList[j]).toNat:Int))<;>by_cases h0:j=0<;>simp [h0]
 ·rw [Vh,Qi];cases at? s.data.toList i with
  | none=>rfl
  | some c=>simp only [Zz8,Option.bind_assoc]
theorem ZsN (s:ByteArray) (hs:(s.size:Int)<=9223372036854775807) {k:Nat} (hk:s.size<k):Zfi k s=some (!(anyI Zir 0 s.data.toList)&&(decide (1<=(s.size:Int))&&decide ((s.size:Int)<=8))):=by
 unfold Zfi
 rw [U9 s.data.toList Zir (fun i c=>(if (decide (97<=(c.toNat:Int)))=true then some (decide ((c.toNat:Int)<=122)) else some false:Option Bool).bind fun x2=>
     (if (!x2)=true then if (decide (i=0))=true then some true else (if (decide ((c.toNat:Int)<48))=true then some true else some (decide (57<(c.toNat:Int)))) else some false:Option Bool)) false () (Ub s) (fun j hj=> ?_) (fun n i=> ?_) (by rw [Qi];exact hs) (by rw [Qi];exact hk)]
 ·rw [Kf];cases anyI Zir 0 s.data.toList<;>simp
 ·unfold Zir ZkT Zmi;obtain ⟨c,hc⟩:∃c,c=s.data.toList[j]:=⟨_,rfl⟩;rw [<-hc]
  by_cases h0:j=0
  ·cases decide (97<=(c.toNat:Int))<;>cases decide ((c.toNat:Int)<=122)<;>simp [h0]
  ·by_cases h1:(c.toNat:Int)<48
   ·have h2:¬(48<=(c.toNat:Int)):=by omega
    cases decide (97<=(c.toNat:Int))<;>cases decide ((c.toNat:Int)<=122)<;>simp [h0,h1,h2]
   ·have h2:48<=(c.toNat:Int):=by omega
    by_cases h3:(c.toNat:Int)<=57
    ·have h4:¬(57<(c.toNat:Int)):=by omega
     cases decide (97<=(c.toNat:Int))<;>cases decide ((c.toNat:Int)<=122)<;>simp [h0,h1,h2,h3,h4]
    ·have h4:57<(c.toNat:Int):=by omega
     cases decide (97<=(c.toNat:Int))<;>cases decide ((c.toNat:Int)<=122)<;>simp [h0,h1,h2,h3,h4]
 ·rw [Ub,Qi];cases at? s.data.toList i with
  | none=>rfl
  | some c=>simp only [Zz8,Option.bind_assoc]
def QY:List ByteArray:=(QB).getD []
theorem ZmB:QB=some QY:=rfl
theorem ZoE (a:ByteArray) {k:Nat} (hk:24<k):Ux k a=some (QY.any fun x=>decide (x=a)):=by
 unfold Ux;rw [ZmB,Zz8];unfold Zav;rw [YV QY (fun x=>decide (x=a)) (fun x=>some (decide (x=a))) true () (Vi QY a) (fun _ _=>rfl) (fun n i=>by rw [Vi];rfl) (by decide) (show QY.length<k from hk)];cases QY.any fun x=>decide (x=a)<;>rfl
theorem ZoR (a:ByteArray):UD a=some (QY.any fun x=>decide (x=a)):=by
 by_cases h:a∈QY
 ·have hb:(QY.any fun x=>decide (x=a))=true:=List.any_eq_true.2 ⟨a,h,by simp⟩;rw [hb];simp only [QY,QB,Option.getD_some,List.mem_cons,List.not_mem_nil,or_false] at h;rcases h with rfl| rfl| rfl| rfl| rfl| rfl| rfl| rfl| rfl| rfl| rfl| rfl| rfl| rfl| rfl| rfl| rfl| rfl| rfl| rfl| rfl| rfl| rfl| rfl<;>rfl
 ·have hb:(QY.any fun x=>decide (x=a))=false:=by
   rw [List.any_eq_false];intro x hx;simp;rintro rfl;exact h hx
  rw [hb];simp only [QY,QB,Option.getD_some,List.mem_cons,List.not_mem_nil,or_false,not_or] at h;obtain ⟨h1,h2,h3,h4,h5,h6,h7,h8,h9,h10,h11,h12,h13,h14,h15,h16,h17,h18,h19,h20,h21,h22,h23,h24⟩:=h;unfold UD ZG;simp [h1,h2,h3,h4,h5,h6,h7,h8,h9,h10,h11,h12,h13,h14,h15,h16,h17,h18,h19,h20,h21,h22,h23,h24]
theorem Zfz (a:ByteArray):∃z,ZG a=some z:=by
 by_cases h:a∈QY
 ·simp only [QY,QB,Option.getD_some,List.mem_cons,List.not_mem_nil,or_false] at h;rcases h with rfl| rfl| rfl| rfl| rfl| rfl| rfl| rfl| rfl| rfl| rfl| rfl| rfl| rfl| rfl| rfl| rfl| rfl| rfl| rfl| rfl| rfl| rfl| rfl<;>exact ⟨_,rfl⟩
 ·simp only [QY,QB,Option.getD_some,List.mem_cons,List.not_mem_nil,or_false,not_or] at h;obtain ⟨h1,h2,h3,h4,h5,h6,h7,h8,h9,h10,h11,h12,h13,h14,h15,h16,h17,h18,h19,h20,h21,h22,h23,h24⟩:=h;unfold ZG;simp [h1,h2,h3,h4,h5,h6,h7,h8,h9,h10,h11,h12,h13,h14,h15,h16,h17,h18,h19,h20,h21,h22,h23,h24]
def WJ (s:ByteArray):Bool:=!(anyI Zir 0 s.data.toList)&&decide (0<(s.size:Int))&&decide ((s.size:Int)<=8)&&!(QY.any fun x=>decide (x=s))
theorem Jh (s:ByteArray) (hs:(s.size:Int)<=9223372036854775807) {k:Nat} (hk:s.size<k) (hk2:24<k):ZR k s=some (WJ s)/\ZS k s=some (WJ s):=by
 constructor
 ·unfold ZR WJ;rw [Zro s hs hk,ZoE s hk2];cases anyI Zir 0 s.data.toList<;>cases decide (0<(s.size:Int))<;>cases decide ((s.size:Int)<=8)<;>simp
 ·unfold ZS WJ;rw [ZsN s hs hk,ZoR s];have e:decide (1<=(s.size:Int))=decide (0<(s.size:Int)):=by rw [decide_eq_decide];omega
  rw [e];cases anyI Zir 0 s.data.toList<;>cases decide (0<(s.size:Int))<;>cases decide ((s.size:Int)<=8)<;>simp
def Uh (c:UInt8):Bool:=decide ((c.toNat:Int)<32)||(decide (126<(c.toNat:Int))||decide ((c.toNat:Int)=34))
theorem ZeA (s:ByteArray) (hs:(s.size:Int)<=9223372036854775807) {k:Nat} (hk:s.size<k):Xq k s=some (!(s.data.toList.any Uh)&&decide ((s.size:Int)<=20))/\Xw k s=some (!(s.data.toList.any Uh)&&decide ((s.size:Int)<=20)):=by
 have hT:∀x∈s.data.toList,(fun c:UInt8=>(if (decide ((c.toNat:Int)<32))=true then some true else if (decide (126<(c.toNat:Int)))=true then some true else some (decide ((c.toNat:Int)=34)):Option Bool)) x=some (Uh x):=by
  intro x _;unfold Uh;simp only;cases decide ((x.toNat:Int)<32)<;>cases decide (126<(x.toNat:Int))<;>simp
 constructor
 ·unfold Xq;rw [YV s.data.toList Uh _ false () (Qt s) hT (fun n i=>by rw [Qt,Qi];simp only [Option.bind_assoc]) (by rw [Qi];exact hs) (by rw [Qi];exact hk)];cases s.data.toList.any Uh<;>simp
 ·unfold Xw;rw [YV s.data.toList Uh _ false () (Qx s) hT (fun n i=>by rw [Qx,Qi];simp only [Option.bind_assoc]) (by rw [Qi];exact hs) (by rw [Qi];exact hk)];cases s.data.toList.any Uh<;>simp
theorem Zd4 {α:Type} {b:Nat} {xs ys:List α} (h:xs.length+ys.length<=4294967296) (hb:b<=16384):YH b xs ys=some (xs++ys):=by
 unfold YH;rw [if_pos ⟨by omega,Nat.le_trans (Nat.mul_le_mul h hb) (by omega)⟩]
theorem Zki {α β:Type} (b:Nat) (hb:b<=16384) (xs:List α) (g:α->β) (G:α->Option β) (u:Nat->List β->Int->Option (List β)) (hG:∀x∈xs,G x=some (g x))
  (hu:∀n out i,u (n+1) out i=if (decide (i<(xs.length:Int)))=true then (at? xs i).bind fun x=>(G x).bind fun y=>(YH b out [y]).bind fun z=>u n z (IntKind.i64.wrap (i+1)) else some out)
  (hl:xs.length<=1073741824) {k:Nat} (hk:xs.length<k):u k [] 0=some (xs.map g):=by
 have:=ZiS (fun n (s:List β) i=>u n s i) (fun i=>(xs.take i).map g) (some (xs.map g)) xs.length
  (fun n i hi=>by
   try simp only
   rw [hu,if_pos (ZE hi),ZJ hi,Zz8,hG _ (List.getElem_mem hi),Zz8,Zd4 (by simp;omega) hb,Zz8,wS i (by omega),List.take_succ_eq_append_getElem hi,List.map_append]
   rfl)
  (fun n=>by rw [hu,if_neg (Ql (ZAe _)),List.take_length]) hk
 simpa using this
theorem Zfw {α:Type} (b:Nat) (hb:b<=16384) (xs:List α) (G:α->Option α) (u:Nat->List α->Int->Option (List α)) (hG:∀x∈xs,G x=some x)
  (hu:∀n out i,u (n+1) out i=if (decide (i<(xs.length:Int)))=true then (at? xs i).bind fun x=>(G x).bind fun y=>(YH b out [y]).bind fun z=>u n z (IntKind.i64.wrap (i+1)) else some out)
  (hl:xs.length<=1073741824) {k:Nat} (hk:xs.length<k):u k [] 0=some xs:=by
 have:=Zki b hb xs id G u hG hu hl hk
 simpa using this
theorem Ziz {α ε:Type} (xs:List α) (t:Nat->α->Bool) (u:Nat->Int->Option ε) (yes no:Option ε)
  (hstep:∀n j (h:j<xs.length),t j xs[j]=false->u (n+1) (j:Int)=u n ((j+1:Nat):Int)) (hyes:∀n j (h:j<xs.length),t j xs[j]=true->u (n+1) (j:Int)=yes) (hno:∀n,u (n+1) (xs.length:Int)=no)
  {k:Nat} (hk:xs.length<k):u k 0=if anyI t 0 xs=true then yes else no:=by
 have key:∀(m n i:Nat),i+m=xs.length->m<n->u n (i:Int)=if anyI t i (xs.drop i)=true then yes else no:=by
  intro m
  induction m with
  | zero=>
   intro n i hi hn;obtain ⟨n,rfl⟩:∃j,n=j+1:=⟨n-1,by omega⟩;obtain rfl:i=xs.length:=by omega
   rw [hno,List.drop_length];rfl
  | succ m ih=>
   intro n i hi hn;obtain ⟨n,rfl⟩:∃j,n=j+1:=⟨n-1,by omega⟩;have hil:i<xs.length:=by omega
   rw [List.drop_eq_getElem_cons hil];have e:anyI t i (xs[i]::xs.drop (i+1))=(t i xs[i]||anyI t (i+1) (xs.drop (i+1))):=rfl;rw [e];rcases Bool.eq_false_or_eq_true (t i xs[i]) with ht| ht
   ·rw [hyes n i hil ht,ht];simp
   ·rw [hstep n i hil ht,ih n (i+1) (by omega) (by omega),ht];simp
 have:=key xs.length k 0 (by omega) hk
 simpa using this
theorem Zmd {α ε:Type} (xs:List α) (t:α->Bool) (u:Nat->Int->Option ε) (yes no:Option ε)
  (hstep:∀n j (h:j<xs.length),t xs[j]=false->u (n+1) (j:Int)=u n ((j+1:Nat):Int)) (hyes:∀n j (h:j<xs.length),t xs[j]=true->u (n+1) (j:Int)=yes) (hno:∀n,u (n+1) (xs.length:Int)=no)
  {k:Nat} (hk:xs.length<k):u k 0=if xs.any t=true then yes else no:=by
 have h:=Ziz xs (fun _=>t) u yes no hstep hyes hno hk
 have e:∀(ys:List α) i,anyI (fun _=>t) i ys=ys.any t:=by
  intro ys
  induction ys with
  | nil=>intro i;rfl
  | cons y ys ih=>intro i;simp [anyI,ih]
 rw [h,e]
def before (y x:Zl):Bool:=decide (y.cell<x.cell)||(decide (y.cell=x.cell)&&decide (y.row<x.row))
theorem Zrq (y x:Zl):V0 y x=some (before y x):=by
 unfold V0 before;cases decide (y.cell<x.cell)<;>cases decide (y.cell=x.cell)<;>simp
theorem ZrJ (y x:Zl):QT y x=some (before y x):=by
 unfold QT before;cases decide (y.cell<x.cell)<;>cases decide (y.cell=x.cell)<;>simp
def Ziu (xs:List Zl) (j:Nat) (x:Zl):Bool:=decide (x.cell<0)||decide (x.row<0)||(decide (0<j)&&!(match xs[j-1]? with | some y=>before y x| none=>true))
theorem Zol (B:Zl->Zl->Option Bool) (hB:∀y x,B y x=some (before y x)) (xs:List Zl) (hl:xs.length<=4294967296) (j:Nat) (h:j<xs.length):
  (if decide (xs[j].cell<0)=true then some true else if decide (xs[j].row<0)=true then some true else if decide (0<(j:Int))=true then (at? xs (IntKind.i64.wrap ((j:Int)-1))).bind fun x11=>(B x11 xs[j]).bind fun x12=>some (!x12) else some false)=some (Ziu xs j xs[j]):=by
 unfold Ziu
 by_cases h0:0<j
 ·have e:IntKind.i64.wrap ((j:Int)-1)=((j-1:Nat):Int):=by rw [w64 (by omega) (by omega)];omega
  have h1:j-1<xs.length:=by omega
  rw [e,ZJ h1,ZAg h1];cases decide (xs[j].cell<0)<;>cases decide (xs[j].row<0)<;>simp [h0,hB]
 ·have:j=0:=by omega
  subst this;cases decide (xs[0].cell<0)<;>cases decide (xs[0].row<0)<;>simp
def Zl8 (xs:List Zl):Bool:=!anyI (Ziu xs) 0 xs
theorem ZwN (xs:List Zl) (hl:xs.length<=4294967296) {k:Nat} (hk:xs.length<k):Wr k xs=some (Zl8 xs):=by
 unfold Wr Zl8
 rw [U9 xs (Ziu xs) (fun i x3=>if decide (x3.cell<0)=true then some true else if decide (x3.row<0)=true then some true else if decide (0<i)=true then (at? xs (IntKind.i64.wrap (i-1))).bind fun x11=>(V0 x11 x3).bind fun x12=>some (!x12) else some false) false () (Qs xs)
  (fun j h=>Zol V0 Zrq xs hl j h) (fun n i=>by rw [Qs];simp only [Option.bind_assoc]) (by omega) hk]
 cases anyI (Ziu xs) 0 xs<;>rfl
def Za8 (n:Int):Bool:=decide (-1000000000<=n)&&decide (n<=1000000000)
theorem Zu3 (n:Int):YN n=some (Za8 n):=Zp6 n
theorem Zvz (n:Int):XS n=some (Za8 n):=ZmI n
def Zin (cs:List ByteArray) (j:Nat) (x:ByteArray):Bool:=(cs.take j).any fun y=>decide (y=x)
def Zcm (cs:List ByteArray):Bool:=!anyI (Zin cs) 0 cs
theorem Zs7 (cs:List ByteArray) (x:ByteArray) (hl:cs.length<=4294967296) {k:Nat} (hk:cs.length<k):Zav k cs x=some (cs.any fun y=>decide (y=x)):=by
 unfold Zav;rw [YV cs (fun y=>decide (y=x)) (fun y=>some (decide (y=x))) true () (Vi cs x) (fun _ _=>rfl) (fun n i=>by rw [Vi];rfl) (by omega) hk];cases cs.any fun y=>decide (y=x)<;>rfl
theorem Zh1 (cs:List ByteArray) (x:ByteArray) (hl:cs.length<=4294967296) {k:Nat} (hk:cs.length<k):Jy k cs x=some (Za9 (fun y=>decide (y=x)) cs):=by
 unfold Jy Za9
 rw [Zck cs (fun y=>decide (y=x)) (Xm cs x) (fun i=>some (.inr (i:Int))) (some (.inl ()))
  (fun n i h hp=>by rw [Xm,if_pos (ZE h),ZJ h,Zz8,if_neg (by simpa using hp),wS i (by omega)])
  (fun n i h hp=>by rw [Xm,if_pos (ZE h),ZJ h,Zz8,if_pos hp])
  (fun n=>by rw [Xm,if_neg (Ql (ZAe _))]) hk]
 split<;>rfl
theorem Zkw (cs:List ByteArray) (j:Nat) (h:j<cs.length):decide (Za9 (fun y=>decide (y=cs[j])) cs=(j:Int))= !Zin cs j cs[j]:=by
 have hlt:cs.findIdx (fun y=>decide (y=cs[j]))<cs.length:=List.findIdx_lt_length_of_exists ⟨cs[j],List.getElem_mem h,by simp⟩;unfold Za9 Zin;rw [if_pos hlt]
 have hle:cs.findIdx (fun y=>decide (y=cs[j]))<=j:=by
  rcases Nat.lt_or_ge j (cs.findIdx (fun y=>decide (y=cs[j]))) with g| g
  ·have:=List.not_of_lt_findIdx g;simp at this
  ·exact g
 cases hd:(cs.take j).any fun y=>decide (y=cs[j]) with
 | true=>
  obtain ⟨y,hy,hyx⟩:=List.any_eq_true.1 hd;obtain ⟨i,hi,rfl⟩:=List.mem_take_iff_getElem.1 hy
  have:cs.findIdx (fun y=>decide (y=cs[j]))<=i:=by
   rcases Nat.lt_or_ge i (cs.findIdx (fun y=>decide (y=cs[j]))) with g| g
   ·have:=List.not_of_lt_findIdx g;simp at this hyx;exact absurd hyx this
   ·exact g
  simp;omega
 | false=>
  have:¬cs.findIdx (fun y=>decide (y=cs[j]))<j:=by
   intro g;have h1:=List.any_eq_false.1 hd (cs[cs.findIdx fun y=>decide (y=cs[j])]) (List.mem_take_iff_getElem.2 ⟨_,by omega,rfl⟩);have h2:=List.findIdx_getElem (xs:=cs) (p:=fun y=>decide (y=cs[j])) (w:=hlt);exact h1 h2
  simp;omega
theorem ZoF (cs:List ByteArray) (hl:cs.length<=4294967296) {k:Nat} (hk:cs.length<k):Vv k cs=some (Zcm cs):=by
 unfold Vv Zcm
 have hs:∀j:Nat,j<cs.length->ZiE cs 0 (j:Int)=some (cs.take j):=fun j h=>by
  unfold ZiE;rw [if_pos ⟨by omega,by omega,by omega⟩];simp
 have hh:∀j (h:j<cs.length),Zav k (cs.take j) cs[j]=some (Zin cs j cs[j]):=fun j h=>Zs7 (cs.take j) cs[j] (by simp;omega) (by simp;omega)
 rw [Ziz cs (Zin cs) (Yw k cs) (some (.inr false)) (some (.inl ()))
  (fun n j h ht=>by rw [Yw,if_pos (ZE h),hs j h,Zz8,ZJ h,Zz8,hh j h,Zz8,ht,if_neg (by simp),wS j (by omega)])
  (fun n j h ht=>by rw [Yw,if_pos (ZE h),hs j h,Zz8,ZJ h,Zz8,hh j h,Zz8,ht,if_pos rfl])
  (fun n=>by rw [Yw,if_neg (Ql (ZAe _))]) hk]
 cases anyI (Zin cs) 0 cs<;>rfl
theorem ZoS (cs:List ByteArray) (hl:cs.length<=4294967296) {k:Nat} (hk:cs.length<k):VF k cs=some (Zcm cs):=by
 unfold VF Zcm
 rw [Ziz cs (Zin cs) (YB k cs) (some (.inr false)) (some (.inl ()))
  (fun n j h ht=>by rw [YB,if_pos (ZE h),ZJ h,Zz8,Zh1 cs _ hl hk,Zz8,Zkw cs j h,ht,if_neg (by simp),wS j (by omega)])
  (fun n j h ht=>by rw [YB,if_pos (ZE h),ZJ h,Zz8,Zh1 cs _ hl hk,Zz8,Zkw cs j h,ht];rfl)
  (fun n=>by rw [YB,if_neg (Ql (ZAe _))]) hk]
 cases anyI (Zin cs) 0 cs<;>rfl
def Zdz (cs:List ByteArray):Bool:=!(cs.any fun s=>!WJ s)&&(decide (1<=(cs.length:Int))&&decide ((cs.length:Int)<=4))&&Zcm cs
theorem Zl0 (cs:List ByteArray) (hl:cs.length<=1048576) (hs:∀s∈cs,s.size<=1048576) {k:Nat} (hk:1048600<k):VZ k cs=some (Zdz cs)/\Vl k cs=some (Zdz cs):=by
 have hn:∀s∈cs,ZR k s=some (WJ s)/\ZS k s=some (WJ s):=fun s h=>Jh s (by have:=hs s h;omega) (by have:=hs s h;omega) (by omega);constructor
 ·unfold VZ Zdz;rw [YV cs (fun s=>!WJ s) (fun s=>(ZR k s).bind fun b=>some (!b)) false () (XN k cs) (fun s h=>by rw [(hn s h).1];rfl) (fun n i=>by rw [XN];simp only [Option.bind_assoc,Zz8]) (by omega) (by omega)];simp only [V8,ZoF cs (by omega) (show cs.length<k by omega),Zz8];cases cs.any fun s=>!WJ s<;>cases decide (1<=(cs.length:Int))<;>cases decide ((cs.length:Int)<=4)<;>simp
 ·unfold Vl Zdz;rw [YV cs (fun s=>!WJ s) (fun s=>(ZS k s).bind fun b=>some (!b)) false () (Xb k cs) (fun s h=>by rw [(hn s h).2];rfl) (fun n i=>by rw [Xb];simp only [Option.bind_assoc,Zz8]) (by omega) (by omega)];simp only [Kf,ZoS cs (by omega) (show cs.length<k by omega),Zz8];cases cs.any fun s=>!WJ s<;>cases decide (1<=(cs.length:Int))<;>cases decide ((cs.length:Int)<=4)<;>simp
def Ze1 (nc:Nat) (r:ZM):Bool:=!decide ((r.cells.length:Int)=(nc:Int))||!Zl8 r.from_||r.cells.any fun n=>!Za8 n
def ZbA (v:Za):Bool:=Zdz v.columns&&!decide (12<(v.rows.length:Int))&&!v.rows.any (Ze1 v.columns.length)
structure Small (v:Za):Prop where
 cols:v.columns.length<=1048576
 names:∀s∈v.columns,s.size<=1048576
 rows:v.rows.length<=1048576
 cells:∀r∈v.rows,r.cells.length<=1048576/\r.from_.length<=1048576
 list:v.list.length<=1048576
 text:v.text.size<=1048576
theorem Za.small {v:Za} (h:v.bk<=1048576):Small v:=by
 have e:=v.ZB;have l1:=ZL (f:=Za.bk) (xs:=v.list);have l2:=ZL (f:=ByteArray.size) (xs:=v.columns);have l3:=ZL (f:=ZM.bk) (xs:=v.rows);refine ⟨by omega,fun s hs=>by have:=Yl (f:=ByteArray.size) hs;omega,by omega,fun r hr=> ?_,by omega,by omega⟩;have h1:=Yl (f:=ZM.bk) hr;have h2:=r.ZB;have h3:=ZL (f:=fun _:Int=>0) (xs:=r.cells);have h4:=ZL (f:=fun _:Zl=>0) (xs:=r.from_);constructor<;>omega
theorem Za.Zqj {v x:Za} (h:x∈v.list):x.bk<=v.bk:=by rw [Za.ZB v];have:=Yl (f:=Za.bk) h;omega
theorem Zi3 (v:Za) (h:Small v) {k:Nat} (hk:1048600<k):ZbE k v=some (ZbA v)/\Zb3 k v=some (ZbA v):=by
 obtain ⟨c1,c2⟩:=Zl0 v.columns h.cols h.names hk;have l:=h.rows;constructor
 ·unfold ZbE ZbA
  have cells:∀r∈v.rows,X4 r k 0=some (if (r.cells.any fun n=>!Za8 n)=true then .inr false else .inl ()):=fun r hr=>
   YV r.cells (fun n=>!Za8 n) (fun n=>(YN n).bind fun b=>some (!b)) false () (X4 r) (fun n _=>by rw [Zu3];rfl) (fun n i=>by rw [X4];simp only [Option.bind_assoc,Zz8]) (by have:=(h.cells r hr).1;omega) (by have:=(h.cells r hr).1;omega)
  have asc:∀r∈v.rows,Wr k r.from_=some (Zl8 r.from_):=fun r hr=>ZwN r.from_ (by have:=(h.cells r hr).2;omega) (by have:=(h.cells r hr).2;omega)
  have hb:∀n j (hj:j<v.rows.length),QA k v (n+1) (j:Int)=if Ze1 v.columns.length v.rows[j]=true then some (.inr false) else QA k v n ((j+1:Nat):Int):=fun n j hj=>by
   rw [QA,if_pos (ZE hj),ZJ hj,Zz8,asc _ (List.getElem_mem hj),cells _ (List.getElem_mem hj),wS j (by omega)];unfold Ze1;cases decide ((v.rows[j].cells.length:Int)=(v.columns.length:Int))<;>cases Zl8 v.rows[j].from_<;>cases v.rows[j].cells.any fun n=>!Za8 n<;>simp
  rw [Zmd v.rows (Ze1 v.columns.length) (QA k v) (some (.inr false)) (some (.inl ()))
   (fun n j hj ht=>by rw [hb n j hj,ht,if_neg (by simp)]) (fun n j hj ht=>by rw [hb n j hj,ht,if_pos rfl]) (fun n=>by rw [QA,if_neg (Ql (ZAe _))]) (by omega),c1]
  cases Zdz v.columns<;>cases decide (12<(v.rows.length:Int))<;>cases v.rows.any (Ze1 v.columns.length)<;>simp
 ·unfold Zb3 ZbA
  have cells:∀r∈v.rows,Wh r k 0=some (if (r.cells.any fun n=>!Za8 n)=true then .inr false else .inl ()):=fun r hr=>
   YV r.cells (fun n=>!Za8 n) (fun n=>(XS n).bind fun b=>some (!b)) false () (Wh r) (fun n _=>by rw [Zvz];rfl) (fun n i=>by rw [Wh];simp only [Option.bind_assoc,Zz8]) (by have:=(h.cells r hr).1;omega) (by have:=(h.cells r hr).1;omega)
  have asc:∀r∈v.rows,Wg r k 0=some (if Zl8 r.from_=true then .inl () else .inr false):=fun r hr=>by
   have:=U9 r.from_ (Ziu r.from_) (fun i x3=>if decide (x3.cell<0)=true then some true else if decide (x3.row<0)=true then some true else if decide (0<i)=true then (at? r.from_ (IntKind.i64.wrap (i-1))).bind fun x11=>(QT x11 x3).bind fun x12=>some (!x12) else some false) false () (Wg r)
    (fun j hj=>Zol QT ZrJ r.from_ (by have:=(h.cells r hr).2;omega) j hj) (fun n i=>by rw [Wg]) (by have:=(h.cells r hr).2;omega) (k:=k) (by have:=(h.cells r hr).2;omega)
   rw [this];unfold Zl8;cases anyI (Ziu r.from_) 0 r.from_<;>rfl
  have hb:∀n j (hj:j<v.rows.length),QJ k v (n+1) (j:Int)=if Ze1 v.columns.length v.rows[j]=true then some (.inr false) else QJ k v n ((j+1:Nat):Int):=fun n j hj=>by
   rw [QJ,if_pos (ZE hj),ZJ hj,Zz8,asc _ (List.getElem_mem hj),cells _ (List.getElem_mem hj),wS j (by omega)];unfold Ze1;cases decide ((v.rows[j].cells.length:Int)=(v.columns.length:Int))<;>cases Zl8 v.rows[j].from_<;>cases v.rows[j].cells.any fun n=>!Za8 n<;>simp
  rw [Zmd v.rows (Ze1 v.columns.length) (QJ k v) (some (.inr false)) (some (.inl ()))
   (fun n j hj ht=>by rw [hb n j hj,ht,if_neg (by simp)]) (fun n j hj ht=>by rw [hb n j hj,ht,if_pos rfl]) (fun n=>by rw [QJ,if_neg (Ql (ZAe _))]) (by omega),c2]
  cases Zdz v.columns<;>cases decide (12<(v.rows.length:Int))<;>cases v.rows.any (Ze1 v.columns.length)<;>simp
theorem ZlS {α O:Type} (xs:List α) (F:O->α->O) (G:O->α->Option O) (z:O) (u:Nat->O->Int->Option O) (hG:∀s,∀x∈xs,G s x=some (F s x))
  (hu:∀n s i,u (n+1) s i=if decide (i<(xs.length:Int))=true then (at? xs i).bind fun x=>(G s x).bind fun y=>u n y (IntKind.i64.wrap (i+1)) else some s) (hl:xs.length<=4294967296) {k:Nat} (hk:xs.length<k):u k z 0=some (xs.foldl F z):=by
 have:=ZiS u (fun i=>(xs.take i).foldl F z) (some (xs.foldl F z)) xs.length
  (fun n i hi=>by
   rw [hu,if_pos (ZE hi),ZJ hi,Zz8,hG _ _ (List.getElem_mem hi),Zz8,wS i (by omega),List.take_succ_eq_append_getElem hi,List.foldl_append]
   rfl)
  (fun n=>by rw [hu,if_neg (Ql (ZAe _)),List.take_length]) hk
 simpa using this
theorem ZwL (a b:Int):Zau a b=some (if b>a then b else a):=by
 unfold Zau
 by_cases h:b<a
 ·rw [if_pos (by simpa using h),if_neg (by omega)]
 ·rw [if_neg (by simpa using h)]
  split<;>first | rfl| (congr 1;omega)
theorem ZoW:∀v:Za,v.bk<=1048576->∃d,Ev fun k=>XA k v=some d/\XF k v=some d:=by
 refine Za.ind fun v ih hb=> ?_;have l:=(Za.small hb).list;obtain ⟨d,hd⟩:=YO v.list (p:=fun x d=>Ev fun k=>XA k x=some d/\XF k x=some d) fun y hy=>ih y hy (by have:=Za.Zqj hy;omega);refine ⟨IntKind.i64.wrap (v.list.foldl (fun a x=>if d x>a then d x else a) 0+1),(((Ev.all v.list hd).and (Ev.ge (v.list.length+1))).pred ?_)⟩;rintro k ⟨hx,hk⟩;constructor
 ·rw [XA,ZlS v.list (fun a x=>if d x>a then d x else a) (fun s x=>(XA k x).bind fun y=>Zau s y) 0 (Vj (XA k) v) (fun s x h=>by rw [(hx x h).1,Zz8,ZwL]) (fun n s i=>by rw [Vj];simp only [Option.bind_assoc]) (by omega) (by omega)]
  rfl
 ·rw [XF,ZlS v.list (fun a x=>if d x>a then d x else a) (fun s x=>(XF k x).bind fun y=>some (if y>s then y else s)) 0 (Vm (XF k) v) (fun s x h=>by rw [(hx x h).2,Zz8]) (fun n s i=>by rw [Vm];simp only [Option.bind_assoc,Zz8]) (by omega) (by omega)]
  rfl
def Zt0 (x:Za):Bool:=decide (x.kind=1)||decide (x.kind=2)||decide (x.kind=3)
def ZgL (b:Za->Bool) (d:Int) (v:Za):Bool:=!(v.list.any fun x=>!(Zt0 x&&b x))&&(decide ((v.list.length:Int)<=8)&&decide (d<=3))
def Zli (s:ByteArray):Bool:=!(s.data.toList.any Uh)&&decide ((s.size:Int)<=20)
def Km (b:Za->Bool) (d:Int) (v:Za):Bool:=
 let L:=decide ((v.list.length:Int)=0)
 let C:=decide ((v.columns.length:Int)=0)&&decide ((v.rows.length:Int)=0)
 let T:=decide (v.text=(⟨#[]⟩:ByteArray))
 let N:=decide (v.n=0)
 let S:=decide (v.step=0)
 if v.kind=1 then L&&C&&S&&T&&Za8 v.n
 else if v.kind=2 then L&&C&&N&&S&&Zli v.text
 else if v.kind=3 then C&&N&&S&&T&&ZgL b d v
 else if v.kind=4 then L&&C&&T&&Za8 v.n&&Za8 v.step
 else if v.kind=5 then L&&N&&S&&T&&ZbA v
 else if v.kind=6 then L&&C&&S&&T&&(decide (1<=v.n)&&decide (v.n<=8))
 else false
theorem ZnF (n:Nat):decide (0<(n:Int))= !decide ((n:Int)=0):=by
 cases n with
 | zero=>rfl
 | succ n=>simp;omega
theorem two_pos (m n:Nat) (hm:m<=1048576) (hn:n<=1048576):decide (0<IntKind.i64.wrap ((m:Int)+(n:Int)))= !(decide ((m:Int)=0)&&decide ((n:Int)=0)):=by
 rw [w64 (by omega) (by omega)];cases m with
 | zero=>rw [Int.natCast_zero,Int.zero_add,ZnF];simp
 | succ m=>
  have e1:decide (0<(((m+1:Nat):Int))+(n:Int))=true:=by simp;omega
  have e2:decide (((m+1:Nat):Int)=0)=false:=by simp;omega
  rw [e1,e2];rfl
theorem ZpT (b:Za->Bool) (d:Int) (v:Za) (hl:v.list.length<=1048576) {k:Nat} (hk:v.list.length<k) (hb:∀x∈v.list,ZK k x=some (b x)) (hd:XA k v=some d):JR (k+1) v=some (ZgL b d v):=by
 rw [JR,YV v.list (fun x=>!(Zt0 x&&b x)) (fun x=>(Jl x).bind fun x4=>if (!x4)=true then some true else (ZK k x).bind fun x5=>some (!x5)) false () (VW (ZK k) v)
  (fun x h=>by
   rw [hb x h];unfold Jl Zt0;cases decide (x.kind=1)<;>cases decide (x.kind=2)<;>cases decide (x.kind=3)<;>cases b x<;>rfl)
  (fun n i=>by rw [VW];simp only [Option.bind_assoc]) (by omega) (by omega)]
 unfold ZgL;rw [hd];cases v.list.any fun x=>!(Zt0 x&&b x)<;>cases decide ((v.list.length:Int)<=8)<;>simp
theorem ZoD (b:Za->Bool) (d:Int) (v:Za) (sm:Small v) {k:Nat} (hk:1048700<k) (hl:v.kind=3->JR k v=some (ZgL b d v)):ZK (k+1) v=some (Km b d v):=by
 have ht:=(ZeA v.text (by have:=sm.text;omega) (k:=k) (by have:=sm.text;omega)).1;have hT:=(Zi3 v sm (k:=k) (by omega)).1;have htx:(!(v.text.data.toList.any Uh)&&decide ((v.text.size:Int)<=20))=Zli v.text:=rfl;rw [htx] at ht;rw [ZK];simp only [Zu3,ht,hT,V8,Zz8,ZnF,two_pos _ _ sm.cols sm.rows];unfold Km;generalize decide ((v.list.length:Int)=0)=L;generalize decide ((v.columns.length:Int)=0)=C1;generalize decide ((v.rows.length:Int)=0)=C2;generalize decide (v.text=(⟨#[]⟩:ByteArray))=T;generalize decide (v.n=0)=N;generalize decide (v.step=0)=S;generalize Za8 v.n=I;generalize Za8 v.step=J;generalize Zli v.text=X;generalize ZbA v=Y;generalize (decide (1<=v.n)&&decide (v.n<=8))=Z
 by_cases h1:v.kind=1
 ·simp only [h1];cases L<;>cases C1<;>cases C2<;>cases T<;>cases S<;>rfl
 by_cases h2:v.kind=2
 ·simp only [h2];cases L<;>cases C1<;>cases C2<;>cases N<;>cases S<;>rfl
 by_cases h3:v.kind=3
 ·rw [hl h3];simp only [h3,Zz8];generalize ZgL b d v=Q;cases C1<;>cases C2<;>cases T<;>cases N<;>cases S<;>rfl
 by_cases h4:v.kind=4
 ·simp only [h4];cases L<;>cases C1<;>cases C2<;>cases T<;>cases I<;>cases J<;>rfl
 by_cases h5:v.kind=5
 ·simp only [h5];cases L<;>cases T<;>cases N<;>cases S<;>rfl
 by_cases h6:v.kind=6
 ·simp only [h6];cases L<;>cases C1<;>cases C2<;>cases T<;>cases S<;>rfl
 simp only [h1,h2,h3,h4,h5,h6,decide_false,if_false,Bool.not_false,if_true];cases L<;>cases C1<;>cases C2<;>cases T<;>cases S<;>rfl
theorem ZoQ (b:Za->Bool) (d:Int) (v:Za) (sm:Small v) {k:Nat} (hk:1048700<k) (hb:∀x∈v.list,ZA k x=some (b x)) (hd:XF k v=some d):ZA (k+1) v=some (Km b d v):=by
 have ht:=(ZeA v.text (by have:=sm.text;omega) (k:=k) (by have:=sm.text;omega)).2;have hT:=(Zi3 v sm (k:=k) (by omega)).2;have htx:(!(v.text.data.toList.any Uh)&&decide ((v.text.size:Int)<=20))=Zli v.text:=rfl;rw [htx] at ht
 have hloop:=YV v.list (fun x=>!(Zt0 x&&b x)) (fun x14=>if (!decide (x14.kind=1))=true then if (!decide (x14.kind=2))=true then if (!decide (x14.kind=3))=true then some true else (ZA k x14).bind fun x16=>some (!x16) else (ZA k x14).bind fun x17=>some (!x17) else (ZA k x14).bind fun x18=>some (!x18)) false () (Qf (ZA k) v)
  (fun x h=>by
   rw [hb x h];unfold Zt0;cases decide (x.kind=1)<;>cases decide (x.kind=2)<;>cases decide (x.kind=3)<;>cases b x<;>rfl)
  (fun n i=>by rw [Qf]) (by have:=sm.list;omega) (k:=k) (by have:=sm.list;omega)
 rw [ZA];simp only [Zvz,ht,hT,hd,Kf,Zz8,hloop];unfold Km ZgL;generalize decide ((v.list.length:Int)=0)=L;generalize decide ((v.columns.length:Int)=0)=C1;generalize decide ((v.rows.length:Int)=0)=C2;generalize decide (v.text=(⟨#[]⟩:ByteArray))=T;generalize decide (v.n=0)=N;generalize decide (v.step=0)=S;generalize Za8 v.n=I;generalize Za8 v.step=J;generalize Zli v.text=X;generalize ZbA v=Y;generalize (decide (1<=v.n)&&decide (v.n<=8))=Z;generalize (v.list.any fun x=>!(Zt0 x&&b x))=A;generalize decide ((v.list.length:Int)<=8)=B8;generalize decide (d<=3)=D3
 by_cases h1:v.kind=1
 ·simp only [h1];cases L<;>cases C1<;>cases C2<;>cases T<;>cases S<;>rfl
 by_cases h2:v.kind=2
 ·simp only [h2];cases L<;>cases C1<;>cases C2<;>cases N<;>cases S<;>rfl
 by_cases h3:v.kind=3
 ·simp only [h3];cases L<;>cases A<;>cases B8<;>cases C1<;>cases C2<;>cases T<;>cases N<;>cases S<;>rfl
 by_cases h4:v.kind=4
 ·simp only [h4];cases L<;>cases C1<;>cases C2<;>cases T<;>cases I<;>cases J<;>rfl
 by_cases h5:v.kind=5
 ·simp only [h5];cases L<;>cases C1<;>cases C2<;>cases T<;>cases N<;>cases S<;>rfl
 by_cases h6:v.kind=6
 ·simp only [h6];cases L<;>cases C1<;>cases C2<;>cases T<;>cases S<;>rfl
 simp only [h1,h2,h3,h4,h5,h6,decide_false,if_false];cases L<;>cases C1<;>cases C2<;>rfl
structure VOk (v:Za):Prop where
 num:v.kind=1->Za8 v.n=true
 els:v.kind=3->∀x∈v.list,x.kind=1->Za8 x.n=true
 tab:v.kind=5->ZbA v=true
theorem Zi1:∀v:Za,v.bk<=1048576->∃b:Bool,(b=true->VOk v)/\Ev fun k=>ZK k v=some b/\ZA k v=some b:=by
 refine Za.ind fun v ih hb=> ?_;have sm:=Za.small hb;have hl:=sm.list;obtain ⟨b,hbv⟩:=YO v.list (p:=fun x (b:Bool)=>(b=true->VOk x)/\Ev fun k=>ZK k x=some b/\ZA k x=some b) fun y hy=>ih y hy (by have:=Za.Zqj hy;omega);obtain ⟨d,hd⟩:=ZoW v hb;have hall:=Ev.all v.list fun x hx=>(hbv x hx).2;have e1:Ev fun k=>JR k v=some (ZgL b d v):=((hall.and (hd.and (Ev.ge 1048700))).pred fun k ⟨h1,h2,h3⟩=>ZpT b d v hl (by omega) (fun x hx=>(h1 x hx).1) h2.1);refine ⟨Km b d v,fun hv=> ?_,((hall.and (hd.and (e1.and (Ev.ge 1048701)))).pred fun k ⟨h1,h2,h3,h4⟩=>⟨ZoD b d v sm (by omega) fun _=>h3,ZoQ b d v sm (by omega) (fun x hx=>(h1 x hx).2) h2.2⟩)⟩;unfold Km at hv;refine ⟨fun hk=> ?_,fun hk x hx hk1=> ?_,fun hk=> ?_⟩
 ·simp only [hk] at hv;simp only [if_true,ZAd] at hv;exact hv.2
 ·simp only [hk] at hv;simp [ZgL] at hv;exact ((hbv x hx).1 (hv.2.1 x hx).2).num hk1
 ·simp only [hk] at hv;simp at hv;exact hv.2
theorem ZqV {α:Type} {r:α->α->Prop} (ir:∀a,¬r a a) (tr:∀{a b c},r a b->r b c->r a c):∀{a b:List α},a.Pairwise r->b.Pairwise r->(∀x,x∈a↔x∈b)->a=b
 | [],[],_,_,_=>rfl
 | [],y::b,_,_,h=>absurd ((h y).2 (by simp)) (by simp)
 | x::a,[],_,_,h=>absurd ((h x).1 (by simp)) (by simp)
 | x::a,y::b,ha,hb,h=>by
  obtain ⟨ha1,ha2⟩:=List.pairwise_cons.1 ha;obtain ⟨hb1,hb2⟩:=List.pairwise_cons.1 hb
  have hxy:x=y:=by
   rcases List.mem_cons.1 ((h x).1 (by simp)) with e| e
   ·exact e
   ·rcases List.mem_cons.1 ((h y).2 (by simp)) with e'| e'
    ·exact e'.symm
    ·exact absurd (tr (hb1 x e) (ha1 y e')) (ir _)
  subst hxy;rw [ZqV ir tr ha2 hb2 fun z=>⟨fun hz=> ?_,fun hz=> ?_⟩]
  ·rcases List.mem_cons.1 ((h z).1 (List.mem_cons_of_mem _ hz)) with e| e
   ·subst e;exact absurd (ha1 z hz) (ir _)
   ·exact e
  ·rcases List.mem_cons.1 ((h z).2 (List.mem_cons_of_mem _ hz)) with e| e
   ·subst e;exact absurd (hb1 z hz) (ir _)
   ·exact e
theorem Zqs {α:Type} {r:α->α->Prop} (tr:∀{a b c},r a b->r b c->r a c) {out:List α} {x:α} {j:Nat} (h:out.Pairwise r) (h1:∀y∈out.take j,r y x) (h2:∀y,out[j]? =some y->r x y):(out.take j++x::out.drop j).Pairwise r:=by
 have hh:=h;rw [<-List.take_append_drop j out,List.pairwise_append] at hh;obtain ⟨p1,p2,p3⟩:=hh
 have h3:∀z∈out.drop j,r x z:=by
  cases hd:out.drop j with
  | nil=>simp
  | cons y l=>
   have hy:out[j]? =some y:=by
    have:=congrArg (fun l:List α=>l[0]?) hd
    simpa using this
   intro z hz;rw [hd] at p2;rcases List.mem_cons.1 hz with rfl| hz
   ·exact h2 _ hy
   ·exact tr (h2 _ hy) ((List.pairwise_cons.1 p2).1 z hz)
 refine List.pairwise_append.2 ⟨p1,List.pairwise_cons.2 ⟨h3,p2⟩,fun a ha b hb=> ?_⟩;rcases List.mem_cons.1 hb with rfl| hb
 ·exact h1 a ha
 ·exact p3 a ha b hb
theorem Zqq {α:Type} {out:List α} {x z:α} {j:Nat}:z∈out.take j++x::out.drop j↔z=x\/z∈out:=by
 have:z∈out↔z∈out.take j\/z∈out.drop j:=by rw [<-List.mem_append,List.take_append_drop]
 rw [this];simp only [List.mem_append,List.mem_cons];constructor
 ·rintro (h| h| h)<;>simp [h]
 ·rintro (h| h| h)<;>simp [h]
theorem Zqr {α:Type} {out:List α} {x:α} {j:Nat}:(out.take j++x::out.drop j).length=out.length+1:=by
 have:=congrArg List.length (List.take_append_drop j out);simp only [List.length_append,List.length_cons] at this ⊢;omega
def nLt (x y:ByteArray):Prop:=toL x<toL y
instance (x y:ByteArray):Decidable (nLt x y):=inferInstanceAs (Decidable (toL x<toL y))
theorem ZnI (x y:ByteArray):ZmA x y=decide (nLt x y):=by
 show Op.bytesLess x.toList y.toList=decide (toL x<toL y);rw [Go.Proofs.bytesLess_eq,Lib.toList_data,Lib.toList_data];rfl
theorem Zpz {x y:ByteArray} (h:toL x=toL y):x=y:=by rw [<-ZmH x,h,ZmH]
theorem Zp8 (a:ByteArray):¬nLt a a:=List.lt_irrefl _
theorem Zsp {a b c:ByteArray} (h:nLt a b) (g:nLt b c):nLt a c:=List.lt_trans h g
theorem Ztt {x y:ByteArray} (h:¬nLt y x) (hne:y≠x):nLt x y:=by
 by_cases g:nLt x y
 ·exact g
 ·exact absurd (Zpz (List.le_antisymm (List.not_lt.1 g) (List.not_lt.1 h))) hne
def NS (L r:List ByteArray):Prop:=r.Pairwise nLt/\∀z,z∈r↔z∈L
theorem NS.one {L M r s:List ByteArray} (h:NS L r) (g:NS M s) (e:∀z,z∈L↔z∈M):r=s:=ZqV Zp8 Zsp h.1 g.1 fun z=>by rw [h.2,g.2,e]
theorem WN {α:Type} {L:List α} {i:Nat} {x:α} (hx:L[i]? =some x) {z:α}:z∈L.take (i+1)↔z=x\/z∈L.take i:=by
 obtain ⟨hi,rfl⟩:=List.getElem?_eq_some_iff.1 hx;rw [List.take_succ_eq_append_getElem hi,List.mem_append,List.mem_singleton];exact or_comm
theorem UG {i:Int} (h:0<=i):(i+1).toNat=i.toNat+1:=by omega
theorem ZpL {xs:List ByteArray} (h:xs.Nodup):(Zlo xs).Pairwise nLt:=by
 unfold Zlo;rw [List.pairwise_map];have hp:=List.mergeSort_perm (xs.map toL) (fun x y=>decide (x<=y))
 have hn:((xs.map toL).mergeSort fun x y=>decide (x<=y)).Nodup:=hp.nodup_iff.2 (by
  rw [List.Nodup,List.pairwise_map];exact h.imp fun hne e=>hne (Zpz e))
 have hs:=List.pairwise_mergeSort (le:=fun x y:List UInt8=>decide (x<=y)) (fun a b c h1 h2=>by
  simp only [decide_eq_true_eq] at *;exact List.le_trans h1 h2) (fun a b=>by
  simp only [Bool.or_eq_true,decide_eq_true_eq];exact List.le_total a b) (xs.map toL)
 refine (hs.and hn).imp fun {a b} ⟨h1,h2⟩=> ?_;show toL (ofL a)<toL (ofL b);rw [Zmp,Zmp];simp only [decide_eq_true_eq] at h1
 by_cases g:a<b
 ·exact g
 ·exact absurd (List.le_antisymm h1 (List.not_lt.1 g)) h2
theorem ZpM {xs:List Int} (h:xs.Nodup):(Zmu xs).Pairwise (· < ·):=by
 unfold Zmu;have hn:(xs.mergeSort fun x y=>decide (x<=y)).Nodup:=(List.mergeSort_perm xs _).nodup_iff.2 h
 have hs:=List.pairwise_mergeSort (le:=fun x y:Int=>decide (x<=y)) (fun a b c h1 h2=>by
  simp only [decide_eq_true_eq] at *;omega) (fun a b=>by
  simp only [Bool.or_eq_true,decide_eq_true_eq];omega) xs
 refine (hs.and hn).imp fun {a b} ⟨h1,h2⟩=> ?_;simp only [decide_eq_true_eq] at h1;omega
theorem ZuV (L:List ByteArray) (hL:L.length<=4294967):Tot (NS L) fun k=>Uf k L:=by
 unfold Uf
 refine .bind (p:=fun r:List ByteArray=>(r.Nodup/\∀z,z∈r↔z∈L)/\r.length<=L.length) ?_ fun r hr=>.of (v:=Zlo r) (by
  unfold QN;rw [if_pos (by omega)];rfl) ⟨ZpL hr.1.1,fun z=>by rw [(ZcF r).mem_iff,hr.1.2]⟩
 refine Tot.loop (fun k n (s:List ByteArray×Int)=>XU k L n s.1 s.2) (fun s=>((s.1.length:Int)<=s.2/\0<=s.2/\s.2<=L.length)/\s.1.Nodup/\∀z,z∈s.1↔z∈L.take s.2.toNat) (fun s=>(L.length-s.2).toNat) (s0:=([],0)) ⟨⟨by simp,by simp,by simp⟩,by simp,by simp⟩ ?_;rintro ⟨out,i⟩ ⟨⟨g1,g2,g3⟩,g4,g5⟩;simp only at g1 g2 g3 g4 g5;simp only [XU];refine .ite (fun e=> ?_) fun e=>.ret ?_
 ·have e:i<L.length:=by simpa using e
  rw [w64 (n:=i+1) (by omega) (by omega)];refine .bind (p:=fun r:List ByteArray=>((r.length:Int)<=i+1/\r.Nodup/\∀z,z∈r↔z∈L.take (i+1).toNat)) ?_ fun r hr=>.next2 ⟨⟨⟨hr.1,by simp only;omega,by simp only;omega⟩,hr.2⟩,by simp only;omega⟩;refine .bindAt g2 e fun x hx hm=> ?_;refine .bind (p:=fun v=>v=Za9 (fun y=>decide (y=x)) L) ⟨_,rfl,(Ev.ge (L.length+1)).mono fun k hk=>Zh1 L x (by omega) (by omega)⟩ fun v hv=> ?_;subst hv;obtain ⟨hi,rfl⟩:=List.getElem?_eq_some_iff.1 hx
  have hd:decide (Za9 (fun y=>decide (y=L[i.toNat])) L=i)= !Zin L i.toNat L[i.toNat]:=by
   have:=Zkw L i.toNat hi;rw [show ((i.toNat:Nat):Int)=i by omega] at this;exact this
  simp only [hd];refine .ite (fun e2=>.bindApp (by omega) (by simp;omega) (.ret ⟨by simp;omega, ?_,fun z=> ?_⟩)) fun e2=>.ret ⟨by omega,g4,fun z=> ?_⟩
  ·have hnm:L[i.toNat]∉out:=fun hm2=>by
    rw [g5] at hm2;simp [Zin] at e2;exact e2 _ hm2 rfl
   exact List.nodup_append.2 ⟨g4,by simp,fun a ha b hb e=>by simp at hb;subst hb;subst e;exact hnm ha⟩
  ·rw [UG g2,WN hx,List.mem_append,g5];simp [or_comm]
  ·rw [UG g2,WN hx,g5];constructor
   ·exact .inr
   ·rintro (h| h)
    ·simp [Zin] at e2;rw [h];exact e2
    ·exact h
 ·have e:¬i<L.length:=by simpa using e
  obtain rfl:i=L.length:=by omega
  exact ⟨⟨g4,fun z=>by rw [g5];simp⟩,by omega⟩
theorem ZuU (L:List ByteArray) (hL:L.length<=4294967):Tot (NS L) fun k=>V4 k L:=by
 unfold V4;refine .bind (p:=NS L) ?_ fun r hr=>.ret hr;refine Tot.loop (fun k n (s:List ByteArray×Int)=>XQ k L n s.1 s.2) (fun s=>((s.1.length:Int)<=s.2/\0<=s.2/\s.2<=L.length)/\NS (L.take s.2.toNat) s.1) (fun s=>(L.length-s.2).toNat) (s0:=([],0)) ⟨⟨by simp,by simp,by simp⟩,by simp [NS]⟩ ?_;rintro ⟨out,i⟩ ⟨⟨g1,g2,g3⟩,g4,g5⟩;simp only at g1 g2 g3 g4 g5;simp only [XQ];refine .ite (fun e=> ?_) fun e=>.ret ?_
 ·have e:i<L.length:=by simpa using e
  rw [w64 (n:=i+1) (by omega) (by omega)];refine .bind (p:=fun r:List ByteArray=>(r.length:Int)<=i+1/\NS (L.take (i+1).toNat) r) ?_ fun r hr=>.next2 ⟨⟨⟨hr.1,by simp only;omega,by simp only;omega⟩,hr.2⟩,by simp only;omega⟩;obtain ⟨x,hx⟩:∃x,L[i.toNat]? =some x:=⟨_,ZAg (by omega)⟩;have hat:at? L i=some x:=by unfold at?;rw [if_pos g2];exact hx
  refine .bind (p:=fun j:Int=>(0<=j/\j<=out.length)/\(∀y∈out.take j.toNat,nLt y x)/\∀y,out[j.toNat]? =some y->¬nLt y x) ?_ fun j hj=> ?_
  ·refine Tot.loop (fun k n (s:Int)=>XP L out i n s) (fun s=>(0<=s/\s<=out.length)/\∀y∈out.take s.toNat,nLt y x) (fun s=>(out.length-s).toNat) (s0:=0) ⟨⟨by simp,by simp⟩,by simp⟩ ?_;rintro j ⟨⟨j1,j2⟩,j3⟩;simp only [XP,hat,Zz8];refine .bind (p:=fun b:Bool=>(b=true->j<out.length/\∀y,out[j.toNat]? =some y->nLt y x)/\(b=false->∀y,out[j.toNat]? =some y->¬nLt y x)) (.ite (fun e2=> ?_) fun e2=>.ret ⟨fun h=>(nomatch h),fun _ y hy=> ?_⟩) fun b hb=>.ite (fun e3=> ?_) fun e3=>.ret ⟨⟨j1,j2⟩,j3,hb.2 (by simpa using e3)⟩
   ·have e2:j<out.length:=by simpa using e2
    refine .bindAt j1 e2 fun y hy _=>.ret ⟨fun h=>⟨e2,fun z hz=> ?_⟩,fun h z hz=> ?_⟩
    ·rw [hy] at hz;cases hz;rw [ZnI] at h;simpa using h
    ·rw [hy] at hz;cases hz;rw [ZnI] at h;simpa using h
   ·have e2:¬j<out.length:=by simpa using e2
    have:=(List.getElem?_eq_some_iff.1 hy).1;omega
   ·obtain ⟨h1,h2⟩:=hb.1 e3;rw [w64 (n:=j+1) (by omega) (by omega)];refine .next ⟨⟨⟨by omega,by omega⟩,fun y hy=> ?_⟩,by omega⟩
    obtain ⟨y',hy'⟩:∃y,out[j.toNat]? =some y:=⟨_,ZAg (by omega)⟩;rw [UG j1,WN hy'] at hy;rcases hy with rfl| hy
    ·exact h2 _ hy'
    ·exact j3 _ hy
  ·obtain ⟨⟨j1,j2⟩,j3,j4⟩:=hj;simp only [hat,Zz8];refine .bind (p:=fun b:Bool=>(b=true->out[j.toNat]? =some x)/\(b=false->∀y,out[j.toNat]? =some y->y≠x)) (.ite (fun e2=> ?_) fun e2=>.ret ⟨fun h=>(nomatch h),fun _ y hy=> ?_⟩) fun b hb=>.ite (fun e3=>.ret ?_) fun e3=> ?_
   ·have e2:j<out.length:=by simpa using e2
    refine .bindAt j1 e2 fun y hy _=>.ret ⟨fun h=> ?_,fun h z hz=> ?_⟩
    ·have h:y=x:=by simpa using h
     rw [hy,h]
    ·rw [hy] at hz;cases hz;simpa using h
   ·have e2:¬j<out.length:=by simpa using e2
    have:=(List.getElem?_eq_some_iff.1 hy).1;omega
   ·have hm:x∈out:=List.mem_of_getElem? (hb.1 e3);refine ⟨by omega,g4,fun z=> ?_⟩;rw [UG g2,WN hx,<-g5];constructor
    ·exact .inr
    ·rintro (rfl| h)
     ·exact hm
     ·exact h
   ·have hne:=hb.2 (by simpa using e3);have s1:ZiE out j (out.length:Int)=some (out.drop j.toNat):=by unfold ZiE;rw [if_pos ⟨j1,j2,Int.le_refl _⟩];simp
    have s2:ZiE out 0 j=some (out.take j.toNat):=by unfold ZiE;rw [if_pos ⟨Int.le_refl _,j1,j2⟩];simp
    have hl:(out.take j.toNat).length+(out.drop j.toNat).length=out.length:=by rw [<-List.length_append,List.take_append_drop]
    simp only [s1,s2,Zz8];refine .bindApp (by omega) (by simp;omega) (.bindApp (by omega) (by simp;omega) (.bindApp (by omega) (by simp at hl ⊢;omega) (.ret ?_)));have e4:out.take j.toNat++[x]++([]++out.drop j.toNat)=out.take j.toNat++x::out.drop j.toNat:=by simp
    rw [e4,Zqr];refine ⟨by omega,Zqs (r:=nLt) Zsp g4 j3 fun y hy=>Ztt (j4 y hy) (hne y hy),fun z=> ?_⟩;rw [Zqq,UG g2,WN hx,g5]
 ·have e:¬i<L.length:=by simpa using e
  obtain rfl:i=L.length:=by omega
  exact ⟨g4,fun z=>by rw [g5];simp⟩
theorem Zs5 (L M:List ByteArray) (hL:L.length<=4294967) (hM:M.length<=4294967) (e:∀z,z∈L↔z∈M):∃r,NS L r/\Ev fun k=>V4 k L=some r/\Uf k M=some r:=by
 obtain ⟨r,h1,h2⟩:=ZuU L hL;obtain ⟨s,h3,h4⟩:=ZuV M hM;obtain rfl:=h1.one h3 e;exact ⟨r,h1,h2.and h4⟩
theorem ZcH (cs:List Int) (x:Int) (hl:cs.length<=4294967296) {k:Nat} (hk:cs.length<k):Ym k cs x=some (decide (x∈cs)):=by
 unfold Ym;rw [YV cs (fun y=>decide (y=x)) (fun y=>some (decide (y=x))) true () (YX cs x) (fun _ _=>rfl) (fun n i=>by rw [YX];rfl) (by omega) hk]
 have:(cs.any fun y=>decide (y=x))=decide (x∈cs):=by
  by_cases h:x∈cs
  ·rw [decide_eq_true h,List.any_eq_true];exact ⟨x,h,by simp⟩
  ·rw [decide_eq_false h,List.any_eq_false];intro y hy e;simp at e;exact h (e▸hy)
 rw [this];cases decide (x∈cs)<;>rfl
theorem ZaC (cs:List Int) (x:Int) (hl:cs.length<=4294967296) {k:Nat} (hk:cs.length<k):VB k cs x=some (decide (x∈cs)):=by
 rw [<-ZcH cs x hl hk]
 have:∀n i,Uc cs x n i=YX cs x n i:=fun n=>by
  induction n with
  | zero=>intro i;rfl
  | succ n ih=>intro i;rw [Uc,YX];simp only [ih]
 unfold VB Ym;rw [this];cases YX cs x k 0 with
 | none=>rfl
 | some v=>cases v<;>rfl
theorem Zlx (cs:List Int) (x:Int) (hl:cs.length<=4294967296):Tot (fun b=>b=decide (x∈cs)) fun k=>Ym k cs x:=⟨_,rfl,(Ev.ge (cs.length+1)).mono fun k hk=>ZcH cs x hl (by omega)⟩
theorem Zqw (cs:List Int) (x:Int) (hl:cs.length<=4294967296):Tot (fun b=>b=decide (x∈cs)) fun k=>VB k cs x:=⟨_,rfl,(Ev.ge (cs.length+1)).mono fun k hk=>ZaC cs x hl (by omega)⟩
theorem ZnR (x z:Int):∀M:List (Int×Bool),(Ze8 (Zg9 M x true) z).getD false=(decide (z=x)||(Ze8 M z).getD false)
 | []=>by by_cases h:z=x<;>simp [Ze8,Zg9,h]
 | p::M=>by
  simp only [Zg9]
  by_cases h:x=p.1
  ·rw [if_pos h]
   by_cases g:z=x
   ·simp [Ze8,g]
   ·simp [Ze8,g,<-h]
  ·rw [if_neg h]
   by_cases g:z=p.1
   ·have:z≠x:=fun e=>h (e▸g);simp [Ze8,g,this];intro e;exact absurd e.symm h
   ·simp only [Ze8,if_neg g];exact ZnR x z M
theorem ZnE (L:List Int) (hL:L.length<=1073741824):Tot (fun r=>r=ZoA L) fun k=>ZcL k L:=by
 unfold ZcL
 refine .bind (p:=fun r:List Int=>(r.Nodup/\∀z,z∈r↔z∈L)/\r.length<=L.length) ?_ fun r hr=>.of (v:=Zmu r) (by
  unfold WT;rw [if_pos (by omega)];rfl) (ZpN (ZpM hr.1.1) fun z=>by rw [(UY r).mem_iff,hr.1.2])
 refine Tot.loop (fun k n (s:List (Int×Bool)×List Int×Int)=>V9 L n s.1 s.2.1 s.2.2) (fun s=>((s.2.1.length:Int)<=s.2.2/\0<=s.2.2/\s.2.2<=L.length)/\s.2.1.Nodup/\(∀z,(Ze8 s.1 z).getD false=decide (z∈s.2.1))/\∀z,z∈s.2.1↔z∈L.take s.2.2.toNat) (fun s=>(L.length-s.2.2).toNat) (s0:=([],[],0)) ⟨⟨by simp,by simp,by simp⟩,by simp,by simp [Ze8],by simp⟩ ?_;rintro ⟨m,out,i⟩ ⟨⟨g1,g2,g3⟩,g4,g6,g5⟩;simp only at g1 g2 g3 g4 g5 g6;simp only [V9];refine .ite (fun e=> ?_) fun e=>.ret ?_
 ·have e:i<L.length:=by simpa using e
  rw [w64 (n:=i+1) (by omega) (by omega)];refine .bind (p:=fun r:List (Int×Bool)×List Int=>(r.2.length:Int)<=i+1/\r.2.Nodup/\(∀z,(Ze8 r.1 z).getD false=decide (z∈r.2))/\∀z,z∈r.2↔z∈L.take (i+1).toNat) ?_ fun r hr=>.next3 (a:=r.1) (b:=r.2) (c:=i+1) ⟨⟨⟨hr.1,by simp only;omega,by simp only;omega⟩,hr.2⟩,by simp only;omega⟩;refine .bindAt g2 e fun x hx hm=> ?_;rw [g6];refine .ite (fun e2=>.bindApp (by omega) (by simp;omega) (.ret ⟨by simp;omega, ?_,fun z=> ?_,fun z=> ?_⟩)) fun e2=>.ret ⟨by simp only;omega,g4,g6,fun z=> ?_⟩
  ·have e2:x∉out:=by simpa using e2
   exact List.nodup_append.2 ⟨g4,by simp,fun a ha b hb e=>by simp at hb;subst hb;subst e;exact e2 ha⟩
  ·rw [ZnR,g6];simp only [List.mem_append,List.mem_singleton,Bool.decide_or,Bool.or_comm]
  ·simp only;rw [UG g2,WN hx,List.mem_append,List.mem_singleton,g5];exact or_comm
  ·have e2:x∈out:=by simpa using e2
   simp only;rw [UG g2,WN hx,g5];constructor
   ·exact .inr
   ·rintro (rfl| h)
    ·rw [<-g5];exact e2
    ·exact h
 ·have e:¬i<L.length:=by simpa using e
  obtain rfl:i=L.length:=by omega
  exact ⟨⟨g4,fun z=>by rw [g5];simp⟩,by omega⟩
theorem ZuY (L:List Int) (hL:L.length<=1073741824):Tot (fun r=>r=ZoA L) fun k=>ZcG k L:=by
 unfold ZcG;refine .bind (p:=fun r=>r=ZoA L) ?_ fun r hr=>.ret hr;refine Tot.loop (fun k n (s:List Int×Int)=>X7 k L n s.1 s.2) (fun s=>((s.1.length:Int)<=s.2/\0<=s.2/\s.2<=L.length)/\s.1.Pairwise (· < ·)/\∀z,z∈s.1↔z∈L.take s.2.toNat) (fun s=>(L.length-s.2).toNat) (s0:=([],0)) ⟨⟨by simp,by simp,by simp⟩,by simp,by simp⟩ ?_;rintro ⟨out,i⟩ ⟨⟨g1,g2,g3⟩,g4,g5⟩;simp only at g1 g2 g3 g4 g5;simp only [X7];refine .ite (fun e=> ?_) fun e=>.ret ?_
 ·have e:i<L.length:=by simpa using e
  rw [w64 (n:=i+1) (by omega) (by omega)];refine .bind (p:=fun r:List Int=>(r.length:Int)<=i+1/\r.Pairwise (· < ·)/\∀z,z∈r↔z∈L.take (i+1).toNat) ?_ fun r hr=>.next2 ⟨⟨⟨hr.1,by simp only;omega,by simp only;omega⟩,hr.2⟩,by simp only;omega⟩;obtain ⟨x,hx⟩:∃x,L[i.toNat]? =some x:=⟨_,ZAg (by omega)⟩;have hat:at? L i=some x:=by unfold at?;rw [if_pos g2];exact hx
  simp only [hat,Zz8];refine .bind (Zlx out x (by omega)) fun b hb=>.ite (fun e3=>.ret ?_) fun e3=> ?_
  ·have hm:x∈out:=by rw [hb] at e3;simpa using e3
   refine ⟨by omega,g4,fun z=> ?_⟩;rw [UG g2,WN hx,<-g5];constructor
   ·exact .inr
   ·rintro (rfl| h)
    ·exact hm
    ·exact h
  ·have hne:x∉out:=by rw [hb] at e3;simpa using e3
   refine .bind (p:=fun j:Int=>(0<=j/\j<=out.length)/\(∀y∈out.take j.toNat,y<x)/\∀y,out[j.toNat]? =some y->¬y<x) ?_ fun j hj=> ?_
   ·refine Tot.loop (fun k n (s:Int)=>X6 L out i n s) (fun s=>(0<=s/\s<=out.length)/\∀y∈out.take s.toNat,y<x) (fun s=>(out.length-s).toNat) (s0:=0) ⟨⟨by simp,by simp⟩,by simp⟩ ?_;rintro j ⟨⟨j1,j2⟩,j3⟩;simp only [X6,hat,Zz8];refine .bind (p:=fun b:Bool=>(b=true->j<out.length/\∀y,out[j.toNat]? =some y->y<x)/\(b=false->∀y,out[j.toNat]? =some y->¬y<x)) (.ite (fun e2=> ?_) fun e2=>.ret ⟨fun h=>(nomatch h),fun _ y hy=> ?_⟩) fun b hb=>.ite (fun e3=> ?_) fun e3=>.ret ⟨⟨j1,j2⟩,j3,hb.2 (by simpa using e3)⟩
    ·have e2:j<out.length:=by simpa using e2
     refine .bindAt j1 e2 fun y hy _=>.ret ⟨fun h=>⟨e2,fun z hz=> ?_⟩,fun h z hz=> ?_⟩
     ·rw [hy] at hz;cases hz;simpa using h
     ·rw [hy] at hz;cases hz;simpa using h
    ·have e2:¬j<out.length:=by simpa using e2
     have:=(List.getElem?_eq_some_iff.1 hy).1;omega
    ·obtain ⟨h1,h2⟩:=hb.1 e3;rw [w64 (n:=j+1) (by omega) (by omega)];refine .next ⟨⟨⟨by omega,by omega⟩,fun y hy=> ?_⟩,by omega⟩
     obtain ⟨y',hy'⟩:∃y,out[j.toNat]? =some y:=⟨_,ZAg (by omega)⟩;rw [UG j1,WN hy'] at hy;rcases hy with rfl| hy
     ·exact h2 _ hy'
     ·exact j3 _ hy
   ·obtain ⟨⟨j1,j2⟩,j3,j4⟩:=hj;have s1:ZiE out j (out.length:Int)=some (out.drop j.toNat):=by unfold ZiE;rw [if_pos ⟨j1,j2,Int.le_refl _⟩];simp
    have s2:ZiE out 0 j=some (out.take j.toNat):=by unfold ZiE;rw [if_pos ⟨Int.le_refl _,j1,j2⟩];simp
    have hl:(out.take j.toNat).length+(out.drop j.toNat).length=out.length:=by rw [<-List.length_append,List.take_append_drop]
    simp only [s1,s2,Zz8];refine .bindApp (by omega) (by simp;omega) (.bindApp (by omega) (by simp;omega) (.bindApp (by omega) (by simp at hl ⊢;omega) (.ret ?_)));have e4:[]++out.take j.toNat++[x]++out.drop j.toNat=out.take j.toNat++x::out.drop j.toNat:=by simp
    rw [e4,Zqr];refine ⟨by omega,Zqs (r:=(· < ·)) (fun h1 h2=>by omega) g4 j3 fun y hy=> ?_,fun z=> ?_⟩
    ·have h1:=j4 y hy;have h2:y≠x:=fun e=>hne (e▸List.mem_of_getElem? hy);omega
    ·rw [Zqq,UG g2,WN hx,g5]
 ·have e:¬i<L.length:=by simpa using e
  obtain rfl:i=L.length:=by omega
  exact ZpN g4 fun z=>by rw [g5];simp
theorem Zng (a:ByteArray):Z0 a=ZG a:=by unfold Z0 ZG;rfl
mutual
def Zb.cnt:Zb->Nat
 | ⟨_,_,_,args⟩=>1+Zb.Zwu args
def Zb.Zwu:List Zb->Nat
 | []=>0
 | x::xs=>Zb.cnt x+Zb.Zwu xs
end
theorem Zb.ZqN:∀xs:List Zb,Zb.Zwu xs=Qh Zb.cnt xs
 | []=>rfl
 | x::xs=>by rw [Zb.Zwu,Zb.ZqN xs];rfl
theorem Zb.Zl1 (x:Zb):x.cnt=1+Qh Zb.cnt x.args:=by cases x;simp only [Zb.cnt,Zb.ZqN]
mutual
def Zb.nest:Zb->Nat
 | ⟨_,_,_,args⟩=>Zb.ZhQ 0 args+1
def Zb.ZhQ:Nat->List Zb->Nat
 | n,[]=>n
 | n,x::xs=>Zb.ZhQ (max n (Zb.nest x)) xs
end
theorem Zb.Zp7 (x:Zb):x.nest=Zb.ZhQ 0 x.args+1:=by cases x;simp only [Zb.nest]
theorem Zb.Zjs:∀x:Zb,x.cnt<=x.bk+1:=by
 refine Zb.ind fun x ih=> ?_;rw [Zb.Zl1,Zb.ZB]
 have:∀xs:List Zb,(∀y∈xs,y.cnt<=y.bk+1)->Qh Zb.cnt xs<=bkS Zb.bk xs:=by
  intro xs
  induction xs with
  | nil=>intro _;simp [Qh]
  | cons y ys ih2=>
   intro h;have h1:=h y (by simp);have h2:=ih2 fun z hz=>h z (by simp [hz]);simp only [Qh,bkS,List.map_cons,List.sum_cons,List.length_cons] at h2 ⊢;omega
 have:=this x.args ih;omega
theorem Zb.ZnP:∀x:Zb,x.nest<=x.cnt:=by
 refine Zb.ind fun x ih=> ?_;rw [Zb.Zl1,Zb.Zp7]
 have:∀(xs:List Zb) (n m:Nat),(∀y∈xs,y.nest<=y.cnt)->n<=m->Zb.ZhQ n xs<=m+Qh Zb.cnt xs:=by
  intro xs
  induction xs with
  | nil=>intro n m _ h;simpa [Zb.ZhQ,Qh] using h
  | cons y ys ih2=>
   intro n m h hn;have h1:=h y (by simp);have h2:=ih2 (max n y.nest) (m+y.cnt) (fun z hz=>h z (by simp [hz])) (by omega);simp only [Zb.ZhQ,Qh,List.map_cons,List.sum_cons] at h2 ⊢;omega
 have:=this x.args 0 0 ih (by omega);omega
theorem Zb.ZlL (x:Zb):x.args.length<=x.bk:=by rw [Zb.ZB];have:=ZL (f:=Zb.bk) (xs:=x.args);omega
theorem Zb.Zs2 (x:Zb):x.text.size<=x.bk:=by rw [Zb.ZB];omega
theorem Zb.Zom {x y:Zb} (h:y∈x.args):y.bk<=x.bk:=by rw [Zb.ZB x];have:=Yl (f:=Zb.bk) h;omega
theorem Zlv:∀x:Zb,x.bk<=1048576->Ev fun k=>∀l:Int,0<=l->l<=1048576->Vt k x l=some (szR x.cnt l):=by
 refine Zb.ind fun x ih hb=> ?_;refine ((Ev.all x.args fun y hy=>ih y hy (by have:=Zb.Zom hy;omega)).and (Ev.ge (x.args.length+2))).pred ?_;rintro k ⟨hx,hk⟩ l l0 l1;have hlen:=x.ZlL;rw [Vt,w64 (by omega) (by omega)]
 have key:∀(m n i:Nat) (c:Int),i+m=x.args.length->m<n-> -1<=c->c<=1048576->Wa (Vt k) x n c (i:Int)=some (if 0<=c then szR (Qh Zb.cnt (x.args.drop i)) c else-1):=by
  intro m
  induction m with
  | zero=>
   intro n i c hi hn c0 c1;obtain ⟨n,rfl⟩:∃j,n=j+1:=⟨n-1,by omega⟩;rw [Wa,if_neg (Ql (by omega)),List.drop_of_length_le (by omega)]
   by_cases h:0<=c
   ·simp [Qh,szR,h]
   ·rw [if_neg h];simp;omega
  | succ m ih2=>
   intro n i c hi hn c0 c1;obtain ⟨n,rfl⟩:∃j,n=j+1:=⟨n-1,by omega⟩;have hil:i<x.args.length:=by omega
   rw [Wa,if_pos (ZE hil),Zz8]
   by_cases h:0<=c
   ·rw [if_pos (by simpa using h),ZJ hil,Zz8,hx _ (List.getElem_mem hil) c h c1,Zz8,wS i (by omega),if_pos h,List.drop_eq_getElem_cons hil];have e:Qh Zb.cnt (x.args[i]::x.args.drop (i+1))=x.args[i].cnt+Qh Zb.cnt (x.args.drop (i+1)):=by unfold Qh;rw [List.map_cons,List.sum_cons]
    rw [e];rcases Q5 (b:=x.args[i].cnt) (left:=c) c1 with ⟨z,e1,g1,q1,p1,r1⟩| ⟨e1,q1⟩
    ·rw [e1,ih2 n (i+1) z (by omega) (by omega) (by omega) r1,if_pos p1,q1];unfold szR
     by_cases h2:(Qh Zb.cnt (x.args.drop (i+1)):Int)<=c-x.args[i].cnt
     ·rw [if_pos h2,if_pos (by omega)];congr 1;omega
     ·rw [if_neg h2,if_neg (by omega)]
    ·rw [e1,ih2 n (i+1) (-1) (by omega) (by omega) (by omega) (by omega),if_neg (by omega)];unfold szR;rw [if_neg (by omega)]
   ·rw [if_neg (by simpa using h),if_neg h];congr 1;omega
 have:=key x.args.length k 0 (l-1) (by omega) (by omega) (by omega) (by omega);rw [show ((0:Nat):Int)=0 from rfl] at this;rw [this,Zz8,x.Zl1,List.drop_zero]
 congr 1
 unfold szR
 by_cases h:0<=l-1
 ·rw [if_pos h]
  by_cases h2:(Qh Zb.cnt x.args:Int)<=l-1
  ·rw [if_pos h2,if_pos (by omega)];omega
  ·rw [if_neg h2,if_neg (by omega)]
 ·rw [if_neg h,if_neg (by omega)]
theorem ZiU:∀x:Zb,x.bk<=1048576->Ev fun k=>Xv k x=some (x.cnt:Int):=by
 refine Zb.ind fun x ih hb=> ?_;refine ((Ev.all x.args fun y hy=>ih y hy (by have:=Zb.Zom hy;omega)).and (Ev.ge (x.args.length+2))).pred ?_;rintro k ⟨hx,hk⟩;have hlen:=x.ZlL;have hc:=x.Zjs;have he:=x.Zl1;rw [Xv]
 have key:∀(m n i:Nat) (c:Nat),i+m=x.args.length->m<n->c+Qh Zb.cnt (x.args.drop i)<=1048577->QU (Xv k) x n (c:Int) (i:Int)=some ((c+Qh Zb.cnt (x.args.drop i):Nat):Int):=by
  intro m
  induction m with
  | zero=>
   intro n i c hi hn hc;obtain ⟨n,rfl⟩:∃j,n=j+1:=⟨n-1,by omega⟩;rw [QU,if_neg (Ql (by omega)),List.drop_of_length_le (by omega)];simp [Qh]
  | succ m ih2=>
   intro n i c hi hn hc;obtain ⟨n,rfl⟩:∃j,n=j+1:=⟨n-1,by omega⟩;have hil:i<x.args.length:=by omega
   have e:Qh Zb.cnt (x.args.drop i)=x.args[i].cnt+Qh Zb.cnt (x.args.drop (i+1)):=by rw [List.drop_eq_getElem_cons hil];unfold Qh;rw [List.map_cons,List.sum_cons]
   rw [QU,if_pos (ZE hil),ZJ hil,Zz8,hx _ (List.getElem_mem hil),Zz8,wS i (by omega),w64 (by omega) (by omega)];rw [show (c:Int)+(x.args[i].cnt:Int)=((c+x.args[i].cnt:Nat):Int) by omega,ih2 n (i+1) _ (by omega) (by omega) (by omega)]
   congr 2;omega
 have:=key x.args.length k 0 1 (by omega) (by omega) (by rw [List.drop_zero];omega);rw [show ((0:Nat):Int)=0 from rfl,show ((1:Nat):Int)=1 from rfl] at this;rw [this,Zz8,List.drop_zero,he]
theorem Zts (x:Zb) (hb:x.bk<=1048576):Ev fun k=>QS k x=some (x.nest:Int)/\QW k x=some (x.nest:Int):=by
 revert hb;refine Zb.ind (p:=fun x=>x.bk<=1048576->Ev fun k=>QS k x=some (x.nest:Int)/\QW k x=some (x.nest:Int)) (fun x ih hb=> ?_) x;refine ((Ev.all x.args fun y hy=>ih y hy (by have:=Zb.Zom hy;omega)).and (Ev.ge (x.args.length+2))).pred ?_;rintro k ⟨hx,hk⟩;have hlen:=x.ZlL;have hc:=x.Zjs;have hn:=x.ZnP;have he:=x.Zp7
 have key:∀(m n i:Nat) (c:Nat),i+m=x.args.length->m<n->QR (QS k) x n (c:Int) (i:Int)=some ((Zb.ZhQ c (x.args.drop i):Nat):Int)/\QV (QW k) x n (c:Int) (i:Int)=some ((Zb.ZhQ c (x.args.drop i):Nat):Int):=by
  intro m
  induction m with
  | zero=>
   intro n i c hi hn;obtain ⟨n,rfl⟩:∃j,n=j+1:=⟨n-1,by omega⟩;rw [QR,QV,if_neg (Ql (by omega)),if_neg (Ql (by omega)),List.drop_of_length_le (by omega)];simp [Zb.ZhQ]
  | succ m ih2=>
   intro n i c hi hn;obtain ⟨n,rfl⟩:∃j,n=j+1:=⟨n-1,by omega⟩;have hil:i<x.args.length:=by omega
   obtain ⟨h1,h2⟩:=hx _ (List.getElem_mem hil)
   have hm:Zau (c:Int) (x.args[i].nest:Int)=some ((max c x.args[i].nest:Nat):Int):=by
    unfold Zau
    by_cases h:(x.args[i].nest:Int)<c
    ·rw [if_pos (by simpa using h)];congr 1;omega
    ·rw [if_neg (by simpa using h)];congr 1;omega
   have hi2:(if (x.args[i].nest:Int)>(c:Int) then (x.args[i].nest:Int) else (c:Int))=((max c x.args[i].nest:Nat):Int):=by split<;>omega
   rw [QR,QV,if_pos (ZE hil),if_pos (ZE hil),ZJ hil,Zz8,Zz8,h1,h2,Zz8,Zz8,hm,Zz8,hi2,wS i (by omega),List.drop_eq_getElem_cons hil];simp only [Zb.ZhQ];exact ih2 n (i+1) _ (by omega) (by omega)
 obtain ⟨k1,k2⟩:=key x.args.length k 0 0 (by omega) (by omega);rw [show ((0:Nat):Int)=0 from rfl,List.drop_zero] at k1 k2;have hw:IntKind.i64.wrap ((Zb.ZhQ 0 x.args:Nat)+1:Int)=(x.nest:Int):=by rw [w64 (by omega) (by omega)];omega
 constructor
 ·rw [QS,k1,Zz8,hw]
 ·rw [QW,k2,Zz8,hw]
theorem Ztq (x:Zb) (hs:(x.text.size:Int)<=9223372036854775807) {k:Nat} (hk:x.text.size<k) (hk2:24<k):∃b,Jn k x=some b/\ZaB k x=some b/\∀j,x.text.size<j->24<j->Jn j x=some b/\ZaB j x=some b:=by
 have key:∃b,∀j,x.text.size<j->24<j->Jn j x=some b/\ZaB j x=some b:=by
  have hac:∃z,Z0 x.text=some z/\ZG x.text=some z:=by
   rw [Zng];obtain ⟨z,hz⟩:=Zfz x.text;exact ⟨z,hz,hz⟩
  obtain ⟨z,z1,z2⟩:=hac;obtain ⟨tx,ht⟩:∃tx,tx=(!(x.text.data.toList.any Uh)&&decide ((x.text.size:Int)<=20)):=⟨_,rfl⟩;obtain ⟨nx,hn⟩:∃nx,nx=WJ x.text:=⟨_,rfl⟩
  refine ⟨if x.kind=1 then decide ((x.args.length:Int)=0)&&decide (x.text=⟨#[]⟩)&&(decide (0<=x.n)&&decide (x.n<=1000000000)) else if x.kind=2 then decide ((x.args.length:Int)=0)&&decide (x.n=0)&&tx
   else if x.kind=3 then decide ((x.args.length:Int)=0)&&decide (x.n=0)&&nx else if x.kind=4 then decide (x.n=0)&&decide (x.text=⟨#[]⟩)&&decide ((x.args.length:Int)<=8)
   else if x.kind=5 then decide (x.n=0)&&decide ((x.args.length:Int)=z) else if x.kind=6 then decide (x.text=⟨#[]⟩)&&decide ((x.args.length:Int)=2)&&(decide (1<=x.n)&&decide (x.n<=5))
   else if x.kind=7 then decide (x.n=0)&&decide ((x.args.length:Int)=2)&&nx else if x.kind=9 then decide (x.n=0)&&decide ((x.args.length:Int)=2)&&nx else if x.kind=8 then decide (x.n=0)&&decide (x.text=⟨#[]⟩)&&decide ((x.args.length:Int)=3) else false,fun j hj hj2=> ?_⟩
  obtain ⟨t1,t2⟩:=ZeA x.text hs hj;obtain ⟨n1,n2⟩:=Jh x.text hs hj hj2;rw [<-ht] at t1 t2;rw [<-hn] at n1 n2;unfold Jn ZaB;rw [t1,t2,n1,n2,z1,z2];simp only [V8,Kf,Zz8]
  by_cases k1:x.kind=1
  ·simp only [k1,decide_true,if_true,if_pos];cases decide ((x.args.length:Int)=0)<;>cases decide (x.text=(⟨#[]⟩:ByteArray))<;>cases decide (0<=x.n)<;>cases decide (x.n<=1000000000)<;>simp
  by_cases k2:x.kind=2
  ·simp only [k2];cases decide ((x.args.length:Int)=0)<;>cases decide (x.n=0)<;>cases tx<;>simp
  by_cases k3:x.kind=3
  ·simp only [k3];cases decide ((x.args.length:Int)=0)<;>cases decide (x.n=0)<;>cases nx<;>simp
  by_cases k4:x.kind=4
  ·simp only [k4];cases decide (x.n=0)<;>cases decide (x.text=(⟨#[]⟩:ByteArray))<;>simp
  by_cases k5:x.kind=5
  ·simp only [k5];cases decide (x.n=0)<;>simp
  by_cases k6:x.kind=6
  ·simp only [k6];cases decide ((x.args.length:Int)=2)<;>cases decide (x.text=(⟨#[]⟩:ByteArray))<;>cases decide (1<=x.n)<;>cases decide (x.n<=5)<;>simp
  by_cases k7:x.kind=7
  ·simp only [k7];cases decide ((x.args.length:Int)=2)<;>cases decide (x.n=0)<;>cases nx<;>simp
  by_cases k9:x.kind=9
  ·simp only [k9];cases decide ((x.args.length:Int)=2)<;>cases decide (x.n=0)<;>cases nx<;>simp
  by_cases k8:x.kind=8
  ·simp only [k8];cases decide (x.n=0)<;>cases decide (x.text=(⟨#[]⟩:ByteArray))<;>simp
  simp [k1,k2,k3,k4,k5,k6,k7,k8,k9]
 obtain ⟨b,hb⟩:=key;exact ⟨b,(hb k hk hk2).1,(hb k hk hk2).2,hb⟩
theorem Zb.ZuJ {x:Zb} (h:x.bk<=1048576):(x.text.size:Int)<=9223372036854775807:=by have:=x.Zs2;omega
theorem nodes (x:Zb) (hb:x.bk<=1048576):∃b,Ev fun k=>WR k x=some b/\Qw k x=some b:=by
 revert hb;refine Zb.ind (p:=fun x=>x.bk<=1048576->∃b,Ev fun k=>WR k x=some b/\Qw k x=some b) (fun x ih hb=> ?_) x;obtain ⟨f,hf⟩:=YO (p:=fun y b=>Ev fun k=>WR k y=some b/\Qw k y=some b) x.args fun y hy=>ih y hy (by have:=Zb.Zom hy;omega);obtain ⟨b,_,_,hn⟩:=Ztq x (Zb.ZuJ hb) (k:=x.text.size+25) (by omega) (by omega);have hlen:=x.ZlL;refine ⟨!(x.args.any fun y=>!f y)&&b, ?_⟩;refine ((Ev.all x.args hf).and ((Ev.ge (x.args.length+2)).and (Ev.ge (x.text.size+25)))).pred ?_;rintro k ⟨hx,hk,hk2⟩;obtain ⟨n1,n2⟩:=hn k (by omega) (by omega);constructor
 ·rw [WR,YV x.args (fun y=>!f y) (fun y=>(WR k y).bind fun z=>some (!z)) false () (V2 (WR k) x) (fun y hy=>by (try simp only);rw [(hx y hy).1];rfl)
   (fun n i=>by rw [V2];simp only [Option.bind_assoc,Zz8]) (by omega) (by omega)]
  cases x.args.any fun y=>!f y<;>simp [n1]
 ·rw [Qw,YV x.args (fun y=>!f y) (fun y=>(Qw k y).bind fun z=>some (!z)) false () (WA (Qw k) x) (fun y hy=>by (try simp only);rw [(hx y hy).2];rfl)
   (fun n i=>by rw [WA];simp only [Option.bind_assoc,Zz8]) (by omega) (by omega)]
  cases x.args.any fun y=>!f y<;>simp [n2]
theorem Zpv (x:Zb) (hb:x.bk<=1048576):∃v,Ev fun k=>Ww k x=some v/\WC k x=some v:=by
 obtain ⟨q,hq⟩:=nodes x hb;have hc:=x.Zjs;have hn:=x.ZnP;refine ⟨decide (x.cnt<=40)&&decide (x.nest<=8)&&q, ?_⟩;refine (hq.and ((Zts x hb).and ((Zlv x hb).and (ZiU x hb)))).mono ?_;rintro k ⟨⟨q1,q2⟩,⟨n1,n2⟩,l,c⟩;constructor
 ·unfold Ww;rw [l 40 (by omega) (by omega),n1,q1]
  by_cases h:x.cnt<=40
  ·have e:szR x.cnt 40=40-x.cnt:=by unfold szR;rw [if_pos (by omega)]
   rw [e];simp only [Zz8];rw [if_pos (by simp;omega)]
   by_cases h8:x.nest<=8
   ·rw [if_pos (by simp;omega)];simp [h,h8]
   ·rw [if_neg (by simp;omega)];simp [h8]
  ·have e:szR x.cnt 40= -1:=by unfold szR;rw [if_neg (by omega)]
   rw [e];simp [h]
 ·unfold WC;rw [c,n2,q2];simp only [Zz8]
  by_cases h:x.cnt<=40
  ·rw [if_pos (by simp;omega)]
   by_cases h8:x.nest<=8
   ·rw [if_pos (by simp;omega)];simp [h,h8]
   ·rw [if_neg (by simp;omega)];simp [h8]
  ·rw [if_neg (by simp;omega)];simp [h]
theorem Ze6 {α:Type} [DecidableEq α]:∀{l m:List α},l.Nodup->(∀z∈l,z∈m)->l.length<=m.length
 | [],m,_,_=>by simp
 | x::l,m,hn,h=>by
  obtain ⟨h1,h2⟩:=List.nodup_cons.1 hn;have h3:=Ze6 (m:=m.erase x) h2 fun z hz=>(List.mem_erase_of_ne (fun e=>h1 (by rw [<-e];exact hz))).2 (h z (List.mem_cons_of_mem _ hz));have hx:x∈m:=h x List.mem_cons_self;have h4:=List.length_erase_of_mem hx;have h5:=List.length_pos_of_mem hx;rw [List.length_cons];omega
def FS (y:Zb) (b:List ByteArray):Prop:=∃N:List ByteArray,N.length<=y.cnt/\Ev fun k=>Q6 k y b=some N/\∀out:List ByteArray,out.length+y.cnt<=1073741824->ZV k y b out=some (out++N)
def ZuA (x:Zb) (b:List ByteArray) (j:Nat):List ByteArray:=if (decide (x.kind=7)||decide (x.kind=9))=true/\0<j then b++[x.text] else b
theorem ZoU (x:Zb) (b:List ByteArray) (hb:b.length+x.bk<=1073741824) (ih:∀y∈x.args,∀b:List ByteArray,b.length+y.bk<=1073741824->FS y b):∀m j,j+m=x.args.length->∃N:List ByteArray,N.length<=Qh Zb.cnt (x.args.drop j)/\Ev fun k=>∀n,m<n->
  (∀acc:List ByteArray,acc.length+Qh Zb.cnt (x.args.drop j)<=1073741824->QE (Q6 k) x b n acc (j:Int)=some (acc++N))/\
  (∀out:List ByteArray,out.length+Qh Zb.cnt (x.args.drop j)<=1073741824->Z4 (ZV k) x b (decide (x.kind=7)||decide (x.kind=9)) n out (j:Int)=some (out++N)):=by
 have hlen:=x.ZlL;intro m
 induction m with
 | zero=>
  intro j hj;refine ⟨[],by simp,Ev.of fun k n hn=> ?_⟩;obtain ⟨n,rfl⟩:∃q,n=q+1:=⟨n-1,by omega⟩;obtain rfl:j=x.args.length:=by omega
  exact ⟨fun acc _=>by rw [QE,if_neg (Ql (ZAe _))];simp,fun acc _=>by rw [Z4,if_neg (Ql (ZAe _))];simp⟩
 | succ m hm=>
  intro j hj;have hlt:j<x.args.length:=by omega
  have hmem:=List.getElem_mem hlt
  have hab:x.args[j].bk+1<=x.bk:=by
   rw [Zb.ZB x];have:=Yl (f:=Zb.bk) hmem;have h2:Zb.bk x.args[j]<=Qh Zb.bk x.args:=Zhy _ hmem;unfold bkS;omega
  obtain ⟨N1,q1,q2⟩:=ih x.args[j] hmem (ZuA x b j) (by
   unfold ZuA;split
   ·rw [List.length_append,List.length_singleton];omega
   ·omega)
  obtain ⟨N2,q3,q4⟩:=hm (j+1) (by omega);have hs:Qh Zb.cnt (x.args.drop j)=x.args[j].cnt+Qh Zb.cnt (x.args.drop (j+1)):=by rw [List.drop_eq_getElem_cons hlt];rfl
  refine ⟨N1++N2,by rw [List.length_append];omega,(q2.and q4).mono fun k ⟨⟨e1,e2⟩,e3⟩ n hn=> ?_⟩;obtain ⟨n,rfl⟩:∃q,n=q+1:=⟨n-1,by omega⟩;obtain ⟨e4,e5⟩:=e3 n (by omega);have hbl:b.length<=1073741824:=by omega
  have happ:YH 16 ([]:List ByteArray) b=some b:=by rw [XG (by simp;omega) (by omega)];rfl
  have happ2:YH 16 b [x.text]=some (b++[x.text]):=XG (by simp;omega) (by omega);have hj0:decide ((0:Int)<(j:Int))=decide (0<j):=decide_eq_decide.2 (by omega);refine ⟨fun acc ha=> ?_,fun out ha=> ?_⟩
  ·rw [QE,if_pos (ZE hlt),hj0,happ]
   have eb:(if decide (x.kind=7)=true then some (decide (0<j)) else if decide (x.kind=9)=true then some (decide (0<j)) else some false:Option Bool)=some ((decide (x.kind=7)||decide (x.kind=9))&&decide (0<j)):=by
    cases decide (x.kind=7)<;>cases decide (x.kind=9)<;>rfl
   have ec:(if ((decide (x.kind=7)||decide (x.kind=9))&&decide (0<j))=true then (some b).bind fun x9=>(YH 16 x9 [x.text]).bind fun x10=>some x10 else some b:Option (List ByteArray))=some (ZuA x b j):=by
    unfold ZuA;simp only [Zz8,happ2,ZAd,decide_eq_true_eq]
    split<;>rfl
   rw [eb,Zz8,ec,Zz8,ZJ hlt,Zz8,e1,Zz8,XG (by omega) (by omega),Zz8,wS j (by omega),e4 _ (by rw [List.length_append];omega),List.append_assoc]
  ·rw [Z4,if_pos (ZE hlt),hj0,happ,ZJ hlt]
   have eb:(if (decide (x.kind=7)||decide (x.kind=9))=true then some (decide (0<j)) else some false:Option Bool)=some ((decide (x.kind=7)||decide (x.kind=9))&&decide (0<j)):=by
    cases decide (x.kind=7)<;>cases decide (x.kind=9)<;>rfl
   have ec:(if ((decide (x.kind=7)||decide (x.kind=9))&&decide (0<j))=true then (some b).bind fun x9=>(YH 16 x9 [x.text]).bind fun x10=>some x10 else some b:Option (List ByteArray))=some (ZuA x b j):=by
    unfold ZuA;simp only [Zz8,happ2,ZAd,decide_eq_true_eq]
    split<;>rfl
   rw [Zz8,eb,Zz8,ec,Zz8,e2 _ (by omega),Zz8,wS j (by omega),e5 _ (by rw [List.length_append];omega),List.append_assoc]
theorem Zqy:∀x:Zb,∀b:List ByteArray,b.length+x.bk<=1073741824->FS x b:=by
 refine Zb.ind fun x ih b hb=> ?_;have hc:=x.Zl1;obtain ⟨N,h1,h2⟩:=ZoU x b hb ih x.args.length 0 (by omega);rw [List.drop_zero] at h1 h2
 have ed:Za9 (fun y=>decide (y=x.text)) b<0↔¬(b.any fun y=>decide (y=x.text))=true:=by
  constructor
  ·intro h g;obtain ⟨y,hy,e⟩:=List.any_eq_true.1 g;rw [ZqA h y hy] at e;cases e
  ·intro h;unfold Za9;rw [if_neg ?_]; · omega
   intro g;exact h (List.any_eq_true.2 ⟨_,List.getElem_mem g,List.findIdx_getElem (p:=fun y=>decide (y=x.text)) (w:=g)⟩)
 have en:(decide (x.kind=7)||decide (x.kind=9))=(if decide (x.kind=7)=true then true else decide (x.kind=9)):=by cases decide (x.kind=7)<;>rfl
 by_cases h3:x.kind=3
 ·by_cases hin:(b.any fun y=>decide (y=x.text))=true
  ·refine ⟨N,by omega,(h2.and (Ev.ge (x.args.length+b.length+1))).pred fun k ⟨e,hk⟩=> ?_⟩;obtain ⟨e1,e2⟩:=e k (by omega);refine ⟨?_,fun out ho=> ?_⟩
   ·rw [Q6,decide_eq_true h3,Zs7 b x.text (by omega) (by omega),hin];have:=e1 [] (by simp;have:=Zb.Zjs x;omega);simp only [if_true,Zz8,Bool.not_true,ZAf,if_false];rw [show QE (Q6 k) x b k [] 0=some ([]++N) from this];rfl
   ·rw [ZV,decide_eq_true h3,Zh1 b x.text (by omega) (by omega)];have:=e2 out (by omega);rw [decide_eq_false (show ¬x.kind=7 by omega),decide_eq_false (show ¬x.kind=9 by omega)] at this ⊢;simp only [if_true,Zz8,decide_eq_false (show ¬Za9 (fun y=>decide (y=x.text)) b<0 by rw [ed];exact fun h=>h hin),ZAf,if_false];exact this
  ·refine ⟨[x.text],by simp;omega,(Ev.ge (x.args.length+b.length+1)).pred fun k hk=> ?_⟩;refine ⟨?_,fun out ho=> ?_⟩
   ·rw [Q6,decide_eq_true h3,Zs7 b x.text (by omega) (by omega),Bool.eq_false_iff.2 hin];simp only [if_true,Zz8,Bool.not_false];rw [XG (by simp) (by omega)];rfl
   ·rw [ZV,decide_eq_true h3,Zh1 b x.text (by omega) (by omega)];simp only [if_true,Zz8,decide_eq_true (ed.2 hin)];unfold UT;rw [XG (by simp;omega) (by omega)];rfl
 ·refine ⟨N,by omega,(h2.and (Ev.ge (x.args.length+b.length+1))).pred fun k ⟨e,hk⟩=> ?_⟩;obtain ⟨e1,e2⟩:=e k (by omega);refine ⟨?_,fun out ho=> ?_⟩
  ·rw [Q6,decide_eq_false h3];have:=e1 [] (by simp;have:=Zb.Zjs x;omega);simp only [Zz8,ZAf,if_false];rw [show QE (Q6 k) x b k [] 0=some ([]++N) from this];rfl
  ·rw [ZV,decide_eq_false h3];have:=e2 out (by omega);simp only [Zz8,ZAf,if_false];revert this;cases decide (x.kind=7)<;>cases decide (x.kind=9)<;>exact id
theorem ZsP (p:Zi) (hp:p.bk<=2097152):∃U:List ByteArray,U.length<=2097153/\Ev fun k=>Wu k p=some U/\WB k p=some U:=by
 by_cases h2:p.kind=2
 ·have hx:p.expr.bk<=2097152:=by have:=Zi.ZB p;omega
  have hc:=Zb.Zjs p.expr;obtain ⟨N,q1,q2⟩:=Zqy p.expr [] (by simp;omega);obtain ⟨r,⟨q3,q5⟩,q4⟩:=Zs5 N N (by omega) (by omega) fun _=>Iff.rfl
  have hr:r.length<=N.length:=by
   have hn:r.Nodup:=by
    refine List.Pairwise.imp ?_ q3;intro a b h e;subst e;exact Zp8 _ h
   exact Ze6 hn fun z hz=>(q5 z).1 hz
  refine ⟨r,by omega,(q2.and q4).mono fun k ⟨⟨e1,e2⟩,e3,e4⟩=> ?_⟩;unfold Wu WB Zaz ZaF;have:=e2 [] (by simp;omega);rw [decide_eq_true h2,e1,this];simp only [Bool.not_true,ZAf,if_false,Zz8,List.nil_append,e3,e4,and_self]
 ·refine ⟨[],by simp,Ev.of fun k=> ?_⟩;unfold Wu WB;rw [decide_eq_false h2];exact ⟨rfl,rfl⟩
theorem Zn7 (ps:List Zi) (s:ByteArray):∀(n:Nat) (out:List Int) (i:Int),Yb ps s n out i=WE ps s n out i
 | 0,_,_=>rfl
 | n+1,out,i=>by
  rw [Yb,WE];simp only [Option.bind_assoc,Zn7 ps s n]
theorem ZqG (ps:List Zi) (s:ByteArray) (hl:ps.length<=1048576):∃ds:List Int,ds.length<=ps.length/\(∀x∈ds,0<=x/\x<ps.length)/\Ev fun k=>XR k ps s=some ds/\Vn k ps s=some ds:=by
 have:Tot (fun ds:List Int=>ds.length<=ps.length/\∀x∈ds,0<=x/\x<ps.length) fun k=>XR k ps s:=by
  unfold XR;refine .bind (p:=fun ds:List Int=>ds.length<=ps.length/\∀x∈ds,0<=x/\x<ps.length) ?_ fun r hr=>.ret hr;refine Tot.loop (fun k n (t:List Int×Int)=>Yb ps s n t.1 t.2) (fun t=>((t.1.length:Int)<=t.2/\0<=t.2/\t.2<=ps.length)/\∀x∈t.1,0<=x/\x<ps.length) (fun t=>(ps.length-t.2).toNat) (s0:=([],0)) ⟨⟨by simp,by simp,by simp⟩,by simp⟩ ?_;rintro ⟨out,i⟩ ⟨⟨g1,g2,g3⟩,g4⟩;simp only at g1 g2 g3 g4;simp only [Yb];refine .ite (fun e=> ?_) fun e=>.ret ⟨by omega,g4⟩;have e:i<ps.length:=by simpa using e
  rw [w64 (n:=i+1) (by omega) (by omega)];refine .bind (p:=fun r:List Int=>(r.length:Int)<=i+1/\∀x∈r,0<=x/\x<ps.length) (.bind (p:=fun _=>True) (.bindAt g2 e fun x _ _=>.ite (fun _=>.ret trivial) fun _=>.ret trivial) fun b _=>.ite (fun _=>.bindApp (by omega) (by simp;omega) (.ret ⟨by simp;omega,fun x hx=> ?_⟩)) fun _=>.ret ⟨by omega,g4⟩) fun r hr=>.next2 ⟨⟨⟨hr.1,by simp only;omega,by simp only;omega⟩,hr.2⟩,by simp only;omega⟩;rcases List.mem_append.1 hx with h| h
  ·exact g4 x h
  ·simp at h;omega
 obtain ⟨ds,h1,h2⟩:=this;refine ⟨ds,h1.1,h1.2,h2.mono fun k h=>⟨h,(show Vn k ps s=XR k ps s by unfold Vn XR;rw [Zn7]).trans h⟩⟩
def VH:List Int->Int
 | []=> -1
 | [x]=>x
 | _::_::_=> -2
theorem Zg8 {n:Nat}:∀{ds:List Int},(∀x∈ds,0<=x/\x<n)-> -2<=VH ds/\VH ds<n/\(VH ds= -2↔1<ds.length)
 | [],_=>by simp [VH];omega
 | [x],h=>by have:=h x (by simp);simp [VH];omega
 | _::_::l,_=>by simp [VH];omega
theorem ZfM {ds:List Int} {k:Nat} {ps:List Zi} {s:ByteArray} (h:XR k ps s=some ds/\Vn k ps s=some ds):Qk k ps s=some (VH ds)/\XC k ps s=some (VH ds):=by
 unfold Qk XC;rw [h.1,h.2]
 match ds with
 | []=>exact ⟨rfl,rfl⟩
 | [x]=>exact ⟨rfl,rfl⟩
 | x::y::l=>
  simp only [Zz8];rw [decide_eq_false (show ¬(((x::y::l).length:Int)=0) by simp;omega),decide_eq_false (show ¬(((x::y::l).length:Int)=1) by simp;omega)];exact ⟨rfl,rfl⟩
theorem Zjd (ps:List Zi) (s:ByteArray) (hl:ps.length<=1048576):∃r:Int,(-2<=r/\r<ps.length)/\Ev fun k=>Qk k ps s=some r/\XC k ps s=some r:=by
 obtain ⟨ds,h1,h2,h3⟩:=ZqG ps s hl;exact ⟨VH ds,⟨(Zg8 h2).1,(Zg8 h2).2.1⟩,h3.mono fun k h=>ZfM h⟩
theorem ZsC (ps:List Zi) (hl:ps.length<=1048576) (i:Int):∃b:Bool,Ev fun k=>YZ k ps i=some b/\YJ k ps i=some b:=by
 have hw:IntKind.i64.wrap ((ps.length:Int)-1)=(ps.length:Int)-1:=w64 (by omega) (by omega)
 by_cases hi:0<=i/\i<ps.length
 ·have hat:at? ps i=some ps[i.toNat]:=by unfold at?;rw [if_pos hi.1,ZAg (by omega)]
  obtain ⟨ds,h1,h2,h3⟩:=ZqG ps ps[i.toNat].name hl;refine ⟨!decide (ps[i.toNat].kind=1)&&decide (1<(ds.length:Int)),h3.mono fun k h=> ?_⟩;unfold YZ YJ;rw [V8,hw,hat,decide_eq_true hi.1,decide_eq_true hi.2,decide_eq_true (show i<=(ps.length:Int)-1 by omega)];have:decide (VH ds= -2)=decide (1<(ds.length:Int)):=decide_eq_decide.2 (by rw [(Zg8 h2).2.2];omega);simp only [Zz8,(ZfM h).1,h.2,this,Bool.and_true,if_true];cases decide (ps[i.toNat].kind=1)<;>exact ⟨rfl,rfl⟩
 ·refine ⟨false,Ev.of fun k=> ?_⟩;unfold YZ YJ;rw [V8,hw]
  by_cases h0:0<=i
  ·rw [decide_eq_true h0,decide_eq_false (show ¬i<=(ps.length:Int)-1 by omega),decide_eq_false (show ¬i<ps.length by omega)];exact ⟨rfl,rfl⟩
  ·rw [decide_eq_false h0];exact ⟨rfl,rfl⟩
theorem ZqD (k:Nat) (ps:List Zi) (U:List ByteArray) (h:∀s∈U,Qk k ps s=XC k ps s):∀(n:Nat) (out:List Int) (i:Int),Zy k ps U n out i=Xe k ps U n out i
 | 0,_,_=>rfl
 | n+1,out,i=>by
  rw [Zy,Xe];simp only [ZqD k ps U h n];cases hat:at? U i with
  | none=>rfl
  | some s=>
   have hm:s∈U:=by
    unfold at? at hat
    split at hat
    ·exact List.mem_of_getElem? hat
    ·cases hat
   simp only [Zz8,h s hm]
theorem ZqF (ps:List Zi) (hl:ps.length<=1048576) (hp:∀p∈ps,p.bk<=2097152) (i:Nat) (hi:i<ps.length):∃D:List Int,((D.Pairwise (· < ·)/\∀z∈D,0<=z/\z<ps.length)/\Ev fun k=>Qa k ps (i:Int)=some D/\YA k ps (i:Int)=some D)/\∃(N:List ByteArray) (r:List Int),D=ZoA r/\N.length<=2097153/\Ev fun k=>(Wu k ps[i]=some N/\WB k ps[i]=some N)/\Zy k ps N k [] 0=some r:=by
 obtain ⟨U,hU,hev⟩:=ZsP ps[i] (hp _ (List.getElem_mem hi))
 have hres:Ev fun k=>∀s∈U,Qk k ps s=XC k ps s:=Ev.all U fun s _=>by
  obtain ⟨r,_,h⟩:=Zjd ps s hl;exact h.mono fun k h=>h.1.trans h.2.symm
 have htot:Tot (fun r:List Int=>r.length<=U.length/\∀z∈r,0<=z/\z<ps.length) fun k=>Zy k ps U k [] 0:=by
  refine Tot.loop (fun k n (t:List Int×Int)=>Zy k ps U n t.1 t.2) (fun t=>((t.1.length:Int)<=t.2/\0<=t.2/\t.2<=U.length)/\∀x∈t.1,0<=x/\x<ps.length) (fun t=>(U.length-t.2).toNat) (s0:=([],0)) ⟨⟨by simp,by simp,by simp⟩,by simp⟩ ?_;rintro ⟨out,i⟩ ⟨⟨g1,g2,g3⟩,g4⟩;simp only at g1 g2 g3 g4;simp only [Zy];refine .ite (fun e=> ?_) fun e=>.ret ⟨by omega,g4⟩;have e:i<U.length:=by simpa using e
  rw [w64 (n:=i+1) (by omega) (by omega)];refine .bind (p:=fun r:List Int=>(r.length:Int)<=i+1/\∀x∈r,0<=x/\x<ps.length) (.bindAt g2 e fun x _ _=>.bind (p:=fun r:Int=> -2<=r/\r<ps.length) ?_ fun r hr=>.ite (fun e2=>.bindApp (by omega) (by simp;omega) (.ret ⟨by simp;omega,fun x hx=> ?_⟩)) fun _=>.ret ⟨by omega,g4⟩) fun r hr=>.next2 ⟨⟨⟨hr.1,by simp only;omega,by simp only;omega⟩,hr.2⟩,by simp only;omega⟩
  ·obtain ⟨r,h1,h2⟩:=Zjd ps x hl;exact ⟨r,h1,h2.mono fun k h=>h.1⟩
  ·rcases List.mem_append.1 hx with h| h
   ·exact g4 x h
   ·have e2:0<=r:=by simpa using e2
    simp at h;omega
 obtain ⟨r,⟨r1,r2⟩,r3⟩:=htot;obtain ⟨s1,hs1,e1⟩:=ZuY r (by omega);obtain ⟨s2,hs2,e2⟩:=ZnE r (by omega);subst hs1;subst hs2;refine ⟨ZoA r,⟨⟨Zg6 r,fun z hz=>r2 z (ZeD.1 hz)⟩,((hev.and hres).and (r3.and (e1.and e2))).mono fun k ⟨⟨⟨u1,u2⟩,hr⟩,q1,q2,q3⟩=> ?_⟩,U,r,rfl,hU,(hev.and r3).mono fun k h=>h⟩;have hw:IntKind.i64.wrap ((ps.length:Int)-1)=(ps.length:Int)-1:=w64 (by omega) (by omega);unfold Qa YA;rw [V8,hw,ZJ hi,decide_eq_true (show (0:Int)<=(i:Int) by omega),decide_eq_true (show (i:Int)<=(ps.length:Int)-1 by omega),decide_eq_false (show ¬(i:Int)<0 by omega),decide_eq_false (show ¬(ps.length:Int)<=(i:Int) by omega)];simp only [Zz8,Bool.and_true,Bool.not_true,ZAf,if_false,u1,u2,q1,q2,<-ZqD k ps U hr,q3,and_self]
structure GU (ps:List Zi) (U:Int->List Int):Prop where
 asc:∀i,(U i).Pairwise (· < ·)
 bd:∀i,∀z∈U i,0<=z/\z<ps.length
 ev:Ev fun k=>∀i,Qa k ps i=some (U i)/\YA k ps i=some (U i)
 src:∀i (h:i<ps.length),∃(N:List ByteArray) (r:List Int),U (i:Int)=ZoA r/\N.length<=2097153/\Ev fun k=>(Wu k ps[i]=some N/\WB k ps[i]=some N)/\Zy k ps N k [] 0=some r
theorem GU.len {ps:List Zi} {U:Int->List Int} (h:GU ps U) (i:Int):(U i).length<=ps.length:=Q9 (Zag (h.asc i)) (h.bd i)
theorem ZrL (ps:List Zi) (hl:ps.length<=1048576) (hp:∀p∈ps,p.bk<=2097152):∃U,GU ps U:=by
 obtain ⟨f,hf⟩:=YO (p:=fun (i:Nat) (D:List Int)=>((D.Pairwise (· < ·)/\∀z∈D,0<=z/\z<ps.length)/\Ev fun k=>Qa k ps (i:Int)=some D/\YA k ps (i:Int)=some D)/\∀h:i<ps.length,∃(N:List ByteArray) (r:List Int),D=ZoA r/\N.length<=2097153/\Ev fun k=>(Wu k ps[i]=some N/\WB k ps[i]=some N)/\Zy k ps N k [] 0=some r) (List.range ps.length) fun i hi=>by
  obtain ⟨D,h1,h2⟩:=ZqF ps hl hp i (List.mem_range.1 hi);exact ⟨D,h1,fun _=>h2⟩
 have hall:=Ev.all (List.range ps.length) fun i hi=>(hf i hi).1.2;have hr:∀i:Int,0<=i/\i<ps.length->i.toNat∈List.range ps.length:=fun i h=>List.mem_range.2 (by omega);refine ⟨fun i=>if 0<=i/\i<ps.length then f i.toNat else [],fun i=> ?_,fun i=> ?_,hall.mono fun k h i=> ?_,fun i hi=> ?_⟩
 ·split
  ·exact (hf _ (hr i ‹_›)).1.1.1
  ·simp
 ·split
  ·exact (hf _ (hr i ‹_›)).1.1.2
  ·simp
 ·split
  ·rename_i hi;have:=h _ (hr i hi);rw [show ((i.toNat:Nat):Int)=i by omega] at this;exact this
  ·rename_i hi;have hw:IntKind.i64.wrap ((ps.length:Int)-1)=(ps.length:Int)-1:=w64 (by omega) (by omega);unfold Qa YA;rw [V8,hw]
   by_cases h0:0<=i
   ·rw [decide_eq_true h0,decide_eq_false (show ¬i<=(ps.length:Int)-1 by omega),decide_eq_false (show ¬i<0 by omega),decide_eq_true (show (ps.length:Int)<=i by omega)];exact ⟨rfl,rfl⟩
   ·rw [decide_eq_false h0,decide_eq_true (show i<0 by omega)];exact ⟨rfl,rfl⟩
 ·rw [if_pos ⟨by omega,by omega⟩];have:=(hf (i:Int).toNat (by simpa using hi)).2 (by simpa using hi)
  simpa using this
theorem Zvs {a b n:Nat} (ha:a<=n) (hb:b<=n) (hn:n<=1048576):a*b<=1099511627776:=by
 have h1:a*b<=1048576*1048576:=Nat.mul_le_mul (by omega) (by omega);omega
theorem KG {α:Type} {l:List α} {x:α} (h:l.Nodup) (g:x∉l):(l++[x]).Nodup:=List.nodup_append.2 ⟨h,by simp,fun a ha b hb e=>by
 rw [List.mem_singleton] at hb;rw [e,hb] at ha;exact g ha⟩
def RS (U:Int->List Int) (i:Int) (r:List Int):Prop:=r.Pairwise (· < ·)/\∀z,z∈r↔Reach U i z
theorem RS.one {U:Int->List Int} {i:Int} {r s:List Int} (h:RS U i r) (g:RS U i s):r=s:=ZqW h.1 g.1 fun z=>by rw [h.2,g.2]
theorem Zte {U:Int->List Int} {n:Nat} (hn:n<=1048576) (bd:∀i,∀z∈U i,0<=z/\z<n) (len:∀i,(U i).length<=n) (i:Int):Tot (RS U i) fun k=>ZfZ k (fun x=>some (U x)) i:=by
 unfold ZfZ;simp only [Zz8];have hlen:=len i;simp only [if_pos (show (U i).length<=17592186044416 by omega)];refine .bind (p:=fun r:List Int=>r.length<=n/\∀z,z∈r↔Reach U i z) ?_ fun r hr=> ?_
 ·refine Tot.loop (fun k m (s:List Int×List Int×Nat)=>Wz k (fun x=>some (U x)) m s.1 s.2.1 s.2.2) (fun s=>s.1.Nodup/\(∀z∈s.1,Reach U i z)/\(∀z∈s.2.1,Reach U i z)/\(∀z∈U i,z∈s.1\/z∈s.2.1)/\(∀y∈s.1,∀z∈U y,z∈s.1\/z∈s.2.1)/\s.2.2<=n+s.1.length*n) (fun s=>(n-s.1.length)*(n+1)+s.2.1.length) (s0:=([],U i,(U i).length)) ⟨by simp,by simp,fun z hz=>.one hz,fun z hz=>.inr hz,by simp,by simp only [List.length_nil];omega⟩ ?_;rintro ⟨out,todo,t⟩ ⟨g1,g2,g3,g4,g5,g6⟩;simp only at g1 g2 g3 g4 g5 g6
  have rb:∀{z},Reach U i z->0<=z/\z<n:=fun h=>by cases h with
   | one h=>exact bd _ _ h
   | more _ h=>exact bd _ _ h
  have hout:out.length<=n:=Q9 g1 fun z hz=>rb (g2 z hz);simp only [Wz];cases todo with
  | nil=>
   refine .ite (fun e=>absurd e (by simp)) fun _=>.ret ⟨hout,ZgS (fun x hx=> ?_) (fun y hy x hx=> ?_) g2⟩
   ·simpa using g4 x hx
   ·simpa using g5 y hy x hx
  | cons x rest=>
   refine .ite (fun _=> ?_) fun e=>absurd (show decide (0<((x::rest).length:Int))=true by simp only [List.length_cons,decide_eq_true_eq];omega) e;have hat:at? (x::rest) 0=some x:=rfl;simp only [hat,Zz8];have hx:=g3 x (by simp);refine .bind (Zqw out x (by omega)) fun b hb=> ?_;subst hb;refine .ite (fun e=> ?_) fun e=> ?_
   ·have hne:x∉out:=by simpa using e
    have hout2:(out++[x]).length<=n:=Q9 (KG g1 hne) fun z hz=>by
     rcases List.mem_append.1 hz with h| h
     ·exact rb (g2 z h)
     ·simp at h;subst h;exact rb hx
    have hl1:(out++[x]).length=out.length+1:=by simp
    refine .bindApp (by omega) (by simp;omega) ?_;have ht:t+(U x).length<=n+(out.length+1)*n:=by rw [Nat.add_mul,Nat.one_mul];have:=len x;omega
    have hm:=Zvs (show out.length+1<=n by omega) (ZAe n) hn;simp only [if_pos (show t+(U x).length<=17592186044416 by omega)];refine .next3 ⟨⟨?_,fun z hz=> ?_,fun z hz=> ?_,fun z hz=> ?_,fun y hy z hz=> ?_,by rw [hl1];exact ht⟩, ?_⟩
    ·exact KG g1 hne
    ·rcases List.mem_append.1 hz with h| h
     ·exact g2 z h
     ·simp at h;subst h;exact hx
    ·rcases List.mem_append.1 hz with h| h
     ·exact g3 z (List.mem_cons_of_mem _ h)
     ·exact .more hx h
    ·simp only;rcases g4 z hz with h| h
     ·exact .inl (List.mem_append_left _ h)
     ·rcases List.mem_cons.1 h with rfl| h
      ·exact .inl (by simp)
      ·exact .inr (List.mem_append_left _ h)
    ·simp only;rcases List.mem_append.1 hy with h| h
     ·rcases g5 y h z hz with h| h
      ·exact .inl (List.mem_append_left _ h)
      ·rcases List.mem_cons.1 h with rfl| h
       ·exact .inl (by simp)
       ·exact .inr (List.mem_append_left _ h)
     ·simp at h;subst h;exact .inr (List.mem_append_right _ hz)
    ·simp only [hl1,List.length_append,List.length_cons,List.drop_succ_cons,List.drop_zero]
     have e1:(n-out.length)*(n+1)=(n-(out.length+1))*(n+1)+(n+1):=by
      have:n-out.length=(n-(out.length+1))+1:=by omega
      rw [this,Nat.add_mul,Nat.one_mul]
     have:=len x;omega
   ·have hin:x∈out:=by simpa using e
    refine .next3 ⟨⟨g1,g2,fun z hz=>g3 z (List.mem_cons_of_mem _ hz),fun z hz=> ?_,fun y hy z hz=> ?_,g6⟩,by simp⟩
    ·simp only;rcases g4 z hz with h| h
     ·exact .inl h
     ·rcases List.mem_cons.1 h with rfl| h
      ·exact .inl hin
      ·exact .inr h
    ·simp only;rcases g5 y hy z hz with h| h
     ·exact .inl h
     ·rcases List.mem_cons.1 h with rfl| h
      ·exact .inl hin
      ·exact .inr h
 ·obtain ⟨s,h1,h2⟩:=ZnE r (by omega);subst h1;exact .bind ⟨ZoA r,⟨Zg6 r,fun z=>by rw [ZeD,hr.2]⟩,h2⟩ fun v hv=>.ret hv
theorem bfs {U:Int->List Int} {n:Nat} (hn:n<=1048576) (nd:∀i,(U i).Nodup) (bd:∀i,∀z∈U i,0<=z/\z<n) (i:Int) (u1:Nat->Nat->List Int->Int->Option (List Int)) (u2:Nat->List Int->Nat->List Int->Int->Option (List Int)) (near:Nat->Int->Option (List Int))
  (hnear:∀x:Int,0<=x->x<n->Tot (fun v=>v=U x) fun k=>near k x)
  (h1:∀k m l j,u1 k (m+1) l j=if decide (j<(l.length:Int))=true then ((at? l j).bind fun x=>(near k x).bind fun v=>u2 k v k l 0).bind fun y=>u1 k m y (IntKind.i64.wrap (j+1)) else some l)
  (h2:∀k v m l j,u2 k v (m+1) l j=if decide (j<(v.length:Int))=true then ((at? v j).bind fun x=>(Ym k l x).bind fun c=>if (!c)=true then (YH 8 l [x]).bind fun y=>some y else some l).bind fun y=>u2 k v m y (IntKind.i64.wrap (j+1)) else some l):
  Tot (fun r:List Int=>r.length<=n/\∀z,z∈r↔Reach U i z) fun k=>u1 k k (U i) 0:=by
 have rb:∀{z},Reach U i z->0<=z/\z<n:=fun h=>by cases h with
  | one h=>exact bd _ _ h
  | more _ h=>exact bd _ _ h
 refine Tot.loop (fun k m (s:List Int×Int)=>u1 k m s.1 s.2) (fun s=>(0<=s.2/\s.2<=s.1.length)/\s.1.Nodup/\(∀z∈s.1,Reach U i z)/\(∀z∈U i,z∈s.1)/\(∀y∈s.1.take s.2.toNat,∀z∈U y,z∈s.1)) (fun s=>(n+1-s.2).toNat) (s0:=(U i,0)) ⟨⟨by simp,by simp⟩,nd i,fun z hz=>.one hz,fun z hz=>hz,by simp⟩ ?_;rintro ⟨l,j⟩ ⟨⟨g1,g2⟩,g3,g4,g5,g6⟩;simp only at g1 g2 g3 g4 g5 g6;have hl:l.length<=n:=Q9 g3 fun z hz=>rb (g4 z hz);simp only [h1];refine .ite (fun e=> ?_) fun e=>.ret ⟨hl,ZgS g5 (fun y hy x hx=>g6 y ?_ x hx) g4⟩
 ·have e:j<l.length:=by simpa using e
  rw [w64 (n:=j+1) (by omega) (by omega)];refine .bind (p:=fun r:List Int=>(∃t,r=l++t)/\r.Nodup/\(∀z∈r,Reach U i z)/\∀y∈l.take (j+1).toNat,∀z∈U y,z∈r) ?_ fun r hr=>.next2 ⟨⟨⟨by simp only;omega, ?_⟩,hr.2.1,hr.2.2.1,fun z hz=> ?_, ?_⟩,by simp only;omega⟩
  ·refine .bindAt g1 e fun x hx hm=>.bind (hnear x (rb (g4 x hm)).1 (rb (g4 x hm)).2) fun v hv=> ?_;subst hv;have hrx:=g4 x hm;have hux:(U x).length<=n:=Q9 (nd x) (bd x);refine .mono (p:=fun r:List Int=>((∃t,r=l++t)/\r.Nodup/\(∀z∈r,Reach U i z))/\∀z∈U x,z∈r) ?_ fun r hr=>⟨hr.1.1,hr.1.2.1,hr.1.2.2,fun y hy z hz=> ?_⟩
   ·refine Tot.loop (fun k m (s:List Int×Int)=>u2 k (U x) m s.1 s.2) (fun s=>(0<=s.2/\s.2<=(U x).length)/\((∃t,s.1=l++t)/\s.1.Nodup/\(∀z∈s.1,Reach U i z))/\∀z∈(U x).take s.2.toNat,z∈s.1) (fun s=>((U x).length-s.2).toNat) (s0:=(l,0)) ⟨⟨by simp,by simp⟩,⟨⟨[],by simp⟩,g3,g4⟩,by simp⟩ ?_;rintro ⟨o,q⟩ ⟨⟨p1,p2⟩,⟨⟨t,p3⟩,p4,p5⟩,p6⟩;simp only at p1 p2 p3 p4 p5 p6;have ho:o.length<=n:=Q9 p4 fun z hz=>rb (p5 z hz);simp only [h2];refine .ite (fun e2=> ?_) fun e2=>.ret ⟨⟨⟨t,p3⟩,p4,p5⟩, ?_⟩
    ·have e2:q<(U x).length:=by simpa using e2
     rw [w64 (n:=q+1) (by omega) (by omega)];refine .bind (p:=fun r:List Int=>((∃t,r=l++t)/\r.Nodup/\(∀z∈r,Reach U i z))/\∀z∈(U x).take (q+1).toNat,z∈r) ?_ fun r hr=>.next2 ⟨⟨⟨by simp only;omega,by simp only;omega⟩,hr.1,hr.2⟩,by simp only;omega⟩;refine .bindAt p1 e2 fun y hy hym=>.bind (Zlx o y (by omega)) fun c hc=> ?_;subst hc;have ty:∀{z},z∈(U x).take (q+1).toNat↔z=y\/z∈(U x).take q.toNat:=by rw [UG p1];exact WN hy
     refine .ite (fun e3=>.bindApp (by omega) (by simp;omega) (.ret ⟨⟨⟨t++[y],by rw [p3,List.append_assoc]⟩, ?_,fun z hz=> ?_⟩,fun z hz=> ?_⟩)) fun e3=>.ret ⟨⟨⟨t,p3⟩,p4,p5⟩,fun z hz=> ?_⟩
     ·have e3:y∉o:=by simpa using e3
      exact KG p4 e3
     ·rcases List.mem_append.1 hz with h| h
      ·exact p5 z h
      ·simp at h;subst h;exact .more hrx hym
     ·rcases ty.1 hz with rfl| h
      ·simp
      ·exact List.mem_append_left _ (p6 z h)
     ·rcases ty.1 hz with rfl| h
      ·simpa using e3
      ·exact p6 z h
    ·have e2:¬q<(U x).length:=by simpa using e2
     obtain rfl:q=(U x).length:=by omega
     simpa using p6
   ·rw [UG g1,WN hx] at hy;rcases hy with rfl| hy
    ·exact hr.2 z hz
    ·obtain ⟨t,ht⟩:=hr.1.1;rw [ht];exact List.mem_append_left _ (g6 y hy z hz)
  ·obtain ⟨t,ht⟩:=hr.1;simp only;rw [ht,List.length_append];omega
  ·obtain ⟨t,ht⟩:=hr.1;simp only;rw [ht];exact List.mem_append_left _ (g5 z hz)
  ·obtain ⟨t,ht⟩:=hr.1;simp only;intro y hy z hz;refine hr.2.2.2 y ?_ z hz;rw [ht,List.take_append_of_le_length (by omega)] at hy;exact hy
 ·have e:¬j<l.length:=by simpa using e
  obtain rfl:j=l.length:=by omega
  simpa using hy
theorem Zyl {U:Int->List Int} {ps:List Zi} {b:Bool} {n:Nat} (hn:n<=1048576) (nd:∀i,(U i).Nodup) (bd:∀i,∀z∈U i,0<=z/\z<n) (hev:Ev fun k=>∀i,Ku k ps i b=some (U i)) (i:Int):Tot (RS U i) fun k=>Zg7 k ps i b:=by
 have near:∀x,Tot (fun v=>v=U x) fun k=>Ku k ps x b:=fun x=>⟨U x,rfl,hev.mono fun k h=>h x⟩;unfold Zg7;refine .bind (near i) fun v hv=> ?_;subst hv;refine .bind (bfs hn nd bd i (fun k=>Zat k ps b) (fun k v=>Zas k v) (fun k x=>Ku k ps x b) (fun x _ _=>near x) (fun k m l j=>by rw [Zat]) (fun k v m l j=>by rw [Zas])) fun r hr=> ?_;obtain ⟨s,h1,h2⟩:=ZuY r (by omega);subst h1;exact .bind ⟨ZoA r,⟨Zg6 r,fun z=>by rw [ZeD,hr.2]⟩,h2⟩ fun v hv=>.ret hv
theorem Zpd {ps:List Zi} (hl:ps.length<=1048576) {U:Int->List Int} (h:GU ps U) (i:Int):∃A,RS U i A/\Ev fun k=>ZhJ k ps i=some A/\Zci k ps i=some A:=by
 obtain ⟨A,h1,h2⟩:=Zyl hl (fun i=>Zag (h.asc i)) h.bd (b:=false) (h.ev.mono fun k h i=>by unfold Ku;rw [(h i).1];rfl) i;obtain ⟨B,h3,h4⟩:=Zte hl h.bd h.len i;obtain rfl:=h1.one h3;refine ⟨A,h1,(h2.and (h4.and h.ev)).mono fun k ⟨e1,e2,e3⟩=>⟨?_, ?_⟩⟩
 ·have e1:Zg7 k ps i false=some A:=e1;unfold ZhJ;rw [e1];rfl
 ·unfold Zci;have:(fun x=>Ug k x ps)=fun x=>some (U x):=funext fun x=>by unfold Ug;rw [(e3 x).2];rfl
  rw [this];exact e2
theorem ZqL {ps:List Zi} (hl:ps.length<=1048576) {U:Int->List Int} (h:GU ps U) (i:Int):∃b:Bool,(b=true↔Reach U i i)/\Ev fun k=>ZeW k ps i=some b/\VE k ps i=some b:=by
 obtain ⟨A,h1,h2⟩:=Zpd hl h i
 have hA:A.length<=ps.length:=Q9 (Zag h1.1) fun z hz=>by
  cases (h1.2 z).1 hz with
  | one g=>exact h.bd _ _ g
  | more _ g=>exact h.bd _ _ g
 refine ⟨decide (i∈A),by rw [decide_eq_true_eq,h1.2],(h2.and (Ev.ge (A.length+1))).mono fun k ⟨⟨e1,e2⟩,hk⟩=> ?_⟩;unfold ZeW VE;rw [e1,e2];simp only [Zz8,ZcH A i (by omega) (show A.length<k by omega),ZaC A i (by omega) (show A.length<k by omega),and_self]
end Go.Proofs.YtpblakfidofgfaaGreatDoor
