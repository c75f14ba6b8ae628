import Derived.Test.YtfapaeabfcogkaaGreatDoorJ9
import Derived.Test.YtfapaeabfcogkaaGreatDoorJ6
import Derived.Test.YtfapaeabfcogkaaGreatDoorJ7
import Derived.Test.YtfapaeabfcogkaaGreatDoorPkC
import Derived.Test.YtfapaeabfcogkaaGreatDoorJ8
set_option linter.unusedSimpArgs false
set_option linter.unusedVariables false
set_option linter.unusedSectionVars false
namespace Go.Proofs.YtfapaeabfcogkaaGreatDoor
open Go.RowKit Am
def sc (p:UInt8→Bool) (l:List UInt8) (i:Nat):Nat:=i+((l.drop i).takeWhile p).length
theorem Zde {p:UInt8→Bool} {l:List UInt8} {i:Nat} (h:i<l.length):sc p l i=if p l[i]=true then sc p l (i+1) else i:=by
 unfold sc
 rw [List.drop_eq_getElem_cons h,List.takeWhile_cons]
 split
 ·simp;omega
 ·simp
theorem Zma {p:UInt8→Bool} {l:List UInt8} {i:Nat} (h:l.length≤i):sc p l i=i:=by
 unfold sc;rw [List.drop_eq_nil_of_le h];simp
theorem ZkZ {p:UInt8→Bool} {l:List UInt8}:∀(m i:Nat),i+m=l.length→i≤sc p l i∧sc p l i≤l.length
 | 0,i,h=>by rw [Zma (by omega)];omega
 | m+1,i,h=>by
  rw [Zde (by omega)]
  have:=ZkZ (p:=p) (l:=l) m (i+1) (by omega)
  split<;>omega
theorem Zap (l:List UInt8) (p:UInt8→Bool) (N:Int) (hN:N=(l.length:Int)) (u:Nat→Int→Option Int) (hl:l.length≤1048576)
  (hu:∀n x,u (n+1) x=(if (decide (x<N))=true then (at? l x).bind fun c=>some (p c) else some false).bind fun b=>if b=true then u n (IntKind.i64.wrap (x+1)) else some x):
  ∀(m i n:Nat),i+m=l.length→m<n→u n (i:Int)=some ((sc p l i:Nat):Int):=by
 subst hN
 intro m
 induction m with
 | zero=>
  intro i n hi hn
  obtain ⟨n,rfl⟩:∃n',n=n'+1:=⟨n-1,by omega⟩
  rw [hu,if_neg (Vi (by omega)),Zma (by omega)];rfl
 | succ m ih=>
  intro i n hi hn
  obtain ⟨n,rfl⟩:∃n',n=n'+1:=⟨n-1,by omega⟩
  have hlt:i<l.length:=by omega
  rw [hu,if_pos (Yp hlt),Qe hlt,Zde hlt]
  simp only [Option.bind_some]
  split
  ·rw [wS i (by omega)];exact ih (i+1) n (by omega) (by omega)
  ·rfl
def word (c:UInt8):Bool:=Zhv c||ZiP c
def noQ (c:UInt8):Bool:=!decide ((c.toNat:Int)=34)
theorem Zaq (c:UInt8):Vy (c.toNat:Int)=some (Zhv c):=by unfold Vy Zhv;by_cases h:(97:Int)≤(c.toNat:Int)<;>simp [h]
theorem Zbu (c:UInt8):VY (c.toNat:Int)=some (ZiP c):=by unfold VY ZiP;by_cases h:(48:Int)≤(c.toNat:Int)<;>simp [h]
theorem ZcR (c:UInt8):(if (decide (97≤(c.toNat:Int)))=true then some (decide ((c.toNat:Int)≤122)) else some false)=some (Zhv c):=by unfold Zhv;by_cases h:(97:Int)≤(c.toNat:Int)<;>simp [h]
theorem ZcU (c:UInt8):(if (decide (48≤(c.toNat:Int)))=true then some (decide ((c.toNat:Int)≤57)) else some false)=some (ZiP c):=by unfold ZiP;by_cases h:(48:Int)≤(c.toNat:Int)<;>simp [h]
theorem Zrf (c:UInt8):(if (decide (97≤(c.toNat:Int)))=true then if (decide ((c.toNat:Int)≤122))=true then some true else if (decide (48≤(c.toNat:Int)))=true then some (decide ((c.toNat:Int)≤57)) else some false
  else if (decide (48≤(c.toNat:Int)))=true then some (decide ((c.toNat:Int)≤57)) else some false)=some (word c):=by
 rw [ZcU]
 unfold word Zhv
 by_cases h:(97:Int)≤(c.toNat:Int)
 ·by_cases h2:(c.toNat:Int)≤122<;>simp [h,h2]
 ·simp [h]
section
variable (s:ByteArray) (hs:s.size≤120)
include hs
theorem Znq:s.data.toList.length=s.size:=by rw [Array.length_toList];rfl
theorem iw (i:Nat) (hi:i≤s.size) {k:Nat} (hk:1000<k):Qs s k (i:Int)=some ((sc word s.data.toList i:Nat):Int):=by
 have e:=Znq s hs
 refine Zap s.data.toList word s.size (by rw [e]) (Qs s) (by omega) (fun n x=> ?_) (s.size-i) i k (by omega) (by omega)
 rw [Qs];simp only [Zrf]
theorem id_ (i:Nat) (hi:i≤s.size) {k:Nat} (hk:1000<k):Qr s k (i:Int)=some ((sc ZiP s.data.toList i:Nat):Int):=by
 have e:=Znq s hs
 refine Zap s.data.toList ZiP s.size (by rw [e]) (Qr s) (by omega) (fun n x=> ?_) (s.size-i) i k (by omega) (by omega)
 rw [Qr];simp only [ZcU]
theorem sw (i:Nat) (hi:i≤s.size) {k:Nat} (hk:1000<k):Q7 s k (i:Int)=some ((sc word s.data.toList i:Nat):Int):=by
 have e:=Znq s hs
 refine Zap s.data.toList word s.size (by rw [e]) (Q7 s) (by omega) (fun n x=> ?_) (s.size-i) i k (by omega) (by omega)
 rw [Q7]
 have:∀c:UInt8,((Vy (c.toNat:Int)).bind fun x11=>if x11=true then some true else (VY (c.toNat:Int)).bind fun x12=>some x12)=some (word c):=fun c=>by
  rw [Zaq,Zbu];unfold word;cases Zhv c<;>simp
 simp only [this]
theorem sd (i:Nat) (hi:i≤s.size) {k:Nat} (hk:1000<k):Q3 s k (i:Int)=some ((sc ZiP s.data.toList i:Nat):Int):=by
 have e:=Znq s hs
 refine Zap s.data.toList ZiP s.size (by rw [e]) (Q3 s) (by omega) (fun n x=> ?_) (s.size-i) i k (by omega) (by omega)
 rw [Q3]
 simp only [Zbu,Option.bind_some]
theorem sq (i:Nat) (hi:i≤s.size) {k:Nat} (hk:1000<k):Q2 s k (i:Int)=some ((sc noQ s.data.toList i:Nat):Int):=by
 have e:=Znq s hs
 refine Zap s.data.toList noQ s.size (by rw [e]) (Q2 s) (by omega) (fun n x=> ?_) (s.size-i) i k (by omega) (by omega)
 rw [Q2];rfl
theorem ZaP {a b:Nat} (h1:a≤b) (h2:b≤s.size):Ui s (a:Int) (b:Int)=some (s.extract a b):=by
 unfold Ui;rw [if_pos ⟨by omega,by omega,by omega⟩];simp
theorem Zeq (a b:Nat):(s.extract a b).data.toList=(s.data.toList.drop a).take (b-a):=by
 rw [ByteArray.data_extract,Array.toList_extract,List.extract_eq_take_drop]
theorem Zhh {a b:Nat} (h1:a<b) (h2:b≤s.size):∃c r,s.data.toList[a]? =some c∧(s.extract a b).data.toList=c::r:=by
 have e:=Znq s hs
 have hl:a<s.data.toList.length:=by omega
 refine ⟨s.data.toList[a],(s.data.toList.drop (a+1)).take (b-a-1),List.getElem?_eq_getElem hl, ?_⟩
 rw [Zeq s hs,List.drop_eq_getElem_cons hl]
 obtain ⟨m,hm⟩:∃m,b-a=m+1:=⟨b-a-1,by omega⟩
 rw [hm];simp
theorem Za7 {a b:Nat} (h2:b≤s.size):(s.extract a b).size≤120:=by rw [ByteArray.size_extract];omega
end
theorem Zke (l:List UInt8):∀(m i:Nat),i+m=l.length→Lib.indexByte (l.drop i) 34=if sc noQ l i<l.length then ((sc noQ l i-i:Nat):Int) else-1
 | 0,i,h=>by rw [List.drop_eq_nil_of_le (by omega),Zma (by omega),if_neg (by omega)];try rfl
 | m+1,i,h=>by
  have hlt:i<l.length:=by omega
  have ih:=Zke l m (i+1) (by omega)
  have hle:=ZkZ (p:=noQ) (l:=l) m (i+1) (by omega)
  rw [List.drop_eq_getElem_cons hlt,Lib.indexByte,Zde hlt,ih]
  generalize l[i]=c
  by_cases hc:c=34
  ·subst hc
   have:noQ 34=false:=by decide
   simp [this,hlt]
  ·have hq:noQ c=true:=by
    unfold noQ
    simp only [Bool.not_eq_true',decide_eq_false_iff_not]
    intro h;exact hc (UInt8.toNat_inj.1 (by show c.toNat=34;omega))
   have hb:(c==34)=false:=by simpa using hc
   simp only [hb,Bool.false_eq_true,if_false,hq,if_true]
   by_cases h1:sc noQ l (i+1)<l.length
   ·simp only [h1,if_true]
    have hne:¬(((sc noQ l (i+1)-(i+1):Nat):Int)== -1)=true:=by simp
    rw [if_neg hne];omega
   ·simp [h1]
structure WFt (t:Zi):Prop where
 nm:t.kind=1→∃c r,t.text.data.toList=c::r∧Zhv c=true
 sy:t.kind=4→∃c r,t.text.data.toList=c::r∧Zhv c=false
 at_:0≤t.at_
 tx:t.text.size≤120
def ZqR:List UInt8:=[40,41,91,93,44,43,45,42,60,61]
theorem Zoz (c:UInt8) (l:List UInt8):(0≤Lib.indexByte l c)↔c∈l:=by
 induction l with
 | nil=>simp [Lib.indexByte]
 | cons b l ih=>
  unfold Lib.indexByte
  by_cases h:b=c
  ·simp [h]
  ·have hb:(b==c)=false:=by simpa using h
   have hne:¬c=b:=fun e=>h e.symm
   simp only [hb,Bool.false_eq_true,if_false,List.mem_cons,hne,false_or]
   have hg:=Lib.indexByte_ge l c
   rw [←ih]
   split
   ·rename_i h1
    have h2:Lib.indexByte l c= -1:=by simpa using h1
    constructor<;>intro h<;>omega
   ·rename_i h1
    have h2:Lib.indexByte l c≠ -1:=by simpa using h1
    constructor<;>intro h<;>omega
theorem ZsU (b z:Bool):(if b=true then some true else some z)=some (b||z):=by cases b<;>rfl
theorem u8i (c d:UInt8):decide ((c.toNat:Int)=(d.toNat:Int))=decide (c=d):=by
 have:((c.toNat:Int)=(d.toNat:Int))↔c=d:=⟨fun h=>UInt8.toNat_inj.1 (by omega),fun h=>by rw [h]⟩
 simp [this]
theorem ZkW (s:ByteArray) (hs:s.size≤120) (a:Nat) (ha:a<s.size) (c:UInt8) (hat:at? s.data.toList (a:Int)=some c):
  ∃n:Int,Us s a=some n∧((n=2∧c=61∧a+1<s.size∧s.data.toList[a+1]? =some 61)∨(n=1∧c∈ZqR∧(c=61→s.data.toList[a+1]? ≠some 61))∨(n=0∧c∉ZqR)):=by
 have hsz:=Znq s hs
 have w1:IntKind.i64.wrap ((a:Int)+1)=((a+1:Nat):Int):=wS a (by omega)
 have h40:decide ((c.toNat:Int)=40)=decide (c=40):=u8i c 40
 have h41:decide ((c.toNat:Int)=41)=decide (c=41):=u8i c 41
 have h91:decide ((c.toNat:Int)=91)=decide (c=91):=u8i c 91
 have h93:decide ((c.toNat:Int)=93)=decide (c=93):=u8i c 93
 have h44:decide ((c.toNat:Int)=44)=decide (c=44):=u8i c 44
 have h43:decide ((c.toNat:Int)=43)=decide (c=43):=u8i c 43
 have h45:decide ((c.toNat:Int)=45)=decide (c=45):=u8i c 45
 have h42:decide ((c.toNat:Int)=42)=decide (c=42):=u8i c 42
 have h60:decide ((c.toNat:Int)=60)=decide (c=60):=u8i c 60
 have h61:decide ((c.toNat:Int)=61)=decide (c=61):=u8i c 61
 have hv:Us s a=if (decide (c=40)||(decide (c=41)||(decide (c=91)||(decide (c=93)||(decide (c=44)||(decide (c=43)||(decide (c=45)||(decide (c=42)||decide (c=60)))))))))=true then some 1
   else if decide (c=61)=true then (if decide (((a+1:Nat):Int)<(s.size:Int))=true then (at? s.data.toList ((a+1:Nat):Int)).bind fun x=>some (decide ((x.toNat:Int)=61)) else some false).bind fun x3=>if x3=true then some 2 else some 1
   else some 0:=by
  unfold Us
  rw [hat]
  simp only [Option.bind_some,ZsU,h40,h41,h91,h93,h44,h43,h45,h42,h60,h61,w1]
 by_cases h9:c∈[40,41,91,93,44,43,45,42,60]
 ·have e:(decide (c=40)||(decide (c=41)||(decide (c=91)||(decide (c=93)||(decide (c=44)||(decide (c=43)||(decide (c=45)||(decide (c=42)||decide (c=60)))))))))=true:=by simpa using h9
  refine ⟨1,by rw [hv,if_pos e],.inr (.inl ⟨rfl,List.mem_append_left [61] h9, ?_⟩)⟩
  rintro rfl;simp at h9
 ·have e:¬(decide (c=40)||(decide (c=41)||(decide (c=91)||(decide (c=93)||(decide (c=44)||(decide (c=43)||(decide (c=45)||(decide (c=42)||decide (c=60)))))))))=true:=by simpa using h9
  by_cases hc:c=61
  ·rw [if_neg e,if_pos (decide_eq_true hc)] at hv
   by_cases hl:a+1<s.size
   ·have hl2:a+1<s.data.toList.length:=by omega
    have hat2:at? s.data.toList ((a+1:Nat):Int)=some s.data.toList[a+1]:=Qe hl2
    have hge:=List.getElem?_eq_getElem hl2
    generalize s.data.toList[a+1]=d at hat2 hge
    rw [if_pos (Yp hl),hat2,Option.bind_some,show decide ((d.toNat:Int)=61)=decide (d=61) from u8i d 61,Option.bind_some] at hv
    by_cases h2:d=61
    ·exact ⟨2,by rw [hv,if_pos (decide_eq_true h2)],.inl ⟨rfl,hc,hl,by rw [hge,h2]⟩⟩
    ·exact ⟨1,by rw [hv,if_neg (by simpa using h2)],.inr (.inl ⟨rfl,by rw [hc];decide,fun _ e=>h2 (Option.some.inj (hge.symm.trans e))⟩)⟩
   ·rw [if_neg (Vi (by omega)),Option.bind_some] at hv
    refine ⟨1,by rw [hv];rfl,.inr (.inl ⟨rfl,by rw [hc];decide,fun _ e=> ?_⟩)⟩
    have:=(List.getElem?_eq_some_iff.1 e).1;omega
  ·refine ⟨0,by rw [hv,if_neg e,if_neg (by simpa using hc)],.inr (.inr ⟨rfl,fun h=> ?_⟩)⟩
   rcases List.mem_append.1 (show c∈[40,41,91,93,44,43,45,42,60]++[61] from h) with h| h
   ·exact h9 h
   ·exact hc (by simpa using h)
theorem ZqP (s:ByteArray) (hs:s.size≤120) (a:Nat) (ha:a<s.size):
  (∃(t:Zi) (e:Nat),a<e∧e≤s.size∧WFt t∧∀k,2000≤k→Q9 k s a=some (t,((e-a:Nat):Int))∧Qd k s a=some (t,(e:Int),true))∨
  (∃(t t':Zi) (e:Int),∀k,2000≤k→Q9 k s a=some (t,0)∧Qd k s a=some (t',e,false)):=by
 have hsz:=Znq s hs
 have hla:a<s.data.toList.length:=by omega
 have hat:at? s.data.toList (a:Int)=some s.data.toList[a]:=Qe hla
 have hget:s.data.toList[a]? =some s.data.toList[a]:=List.getElem?_eq_getElem hla
 generalize s.data.toList[a]=c at hat hget
 have hbs:∀b:Nat,a≤b→b≤s.size→IntKind.i64.wrap ((b:Int)-(a:Int))=((b-a:Nat):Int):=fun b h1 h2=>by rw [w64 (by omega) (by omega)];omega
 have w1:IntKind.i64.wrap ((a:Int)+1)=((a+1:Nat):Int):=wS a (by omega)
 cases hle:Zhv c with
 | true=>
  have hw:=ZkZ (p:=word) (l:=s.data.toList) (s.size-a) a (by omega)
  have hstep:=Zde (p:=word) hla
  have hwc:word c=true:=by unfold word;rw [hle];rfl
  have hget2:s.data.toList[a]=c:=by have:=hget;rw [List.getElem?_eq_getElem hla] at this;exact Option.some.inj this
  rw [hget2,if_pos hwc] at hstep
  have hw2:=ZkZ (p:=word) (l:=s.data.toList) (s.size-(a+1)) (a+1) (by omega)
  generalize sc word s.data.toList a=e at hw hstep
  subst hstep
  generalize he:sc word s.data.toList (a+1)=e at hw hw2
  have hc1:=ZaP s hs (a:=a) (b:=e) (by omega) (by omega)
  have e1:∀k,2000≤k→Q7 s k a=some (e:Int)∧Qs s k a=some (e:Int):=fun k hk=>by
   have h1:=sw s hs a (by omega) (show 1000<k by omega)
   have h2:=iw s hs a (by omega) (show 1000<k by omega)
   rw [Zde hla,hget2,if_pos hwc,he] at h1 h2
   exact ⟨h1,h2⟩
  obtain ⟨c',r,g1,g2⟩:=Zhh s hs (a:=a) (b:=e) (by omega) (by omega)
  rw [hget] at g1;cases g1
  by_cases h8:8<e-a
  ·right
   refine ⟨⟨1,0,a,s.extract a e⟩,⟨1,0,a,s.extract a e⟩,e,fun k hk=>⟨?_, ?_⟩⟩
   ·unfold Q9
    rw [hat]
    simp only [Option.bind_some,Zaq,hle,if_true,(e1 k hk).1,hc1,hbs e (by omega) (by omega)]
    rw [if_pos (by simp;omega)];rfl
   ·unfold Qd
    rw [hat]
    simp only [Option.bind_some,ZcR,hle,if_true,(e1 k hk).2,hc1,hbs e (by omega) (by omega)]
    rw [show (decide (((e-a:Nat):Int)≤8))=false by simp;omega]
  ·left
   refine ⟨⟨1,0,a,s.extract a e⟩,e,by omega,by omega,⟨fun _=>⟨c,r,g2,hle⟩,(fun h=>by simp at h),by show (0:Int)≤a;omega,Za7 s hs (by omega)⟩,fun k hk=>⟨?_, ?_⟩⟩
   ·unfold Q9
    rw [hat]
    simp only [Option.bind_some,Zaq,hle,if_true,(e1 k hk).1,hc1,hbs e (by omega) (by omega)]
    rw [if_neg (by simp;omega)]
    simp only [Option.bind_some,hbs e (by omega) (by omega)]
   ·unfold Qd
    rw [hat]
    simp only [Option.bind_some,ZcR,hle,if_true,(e1 k hk).2,hc1,hbs e (by omega) (by omega)]
    rw [show (decide (((e-a:Nat):Int)≤8))=true by simp;omega]
 | false=>
 cases hdi:ZiP c with
 | true=>
  have hget2:s.data.toList[a]=c:=by have:=hget;rw [List.getElem?_eq_getElem hla] at this;exact Option.some.inj this
  have hw2:=ZkZ (p:=ZiP) (l:=s.data.toList) (s.size-(a+1)) (a+1) (by omega)
  generalize he:sc ZiP s.data.toList (a+1)=e at hw2
  have hc1:=ZaP s hs (a:=a) (b:=e) (by omega) (by omega)
  have e1:∀k,2000≤k→Q3 s k a=some (e:Int)∧Qr s k a=some (e:Int):=fun k hk=>by
   have h1:=sd s hs a (by omega) (show 1000<k by omega)
   have h2:=id_ s hs a (by omega) (show 1000<k by omega)
   rw [Zde hla,hget2,if_pos hdi,he] at h1 h2
   exact ⟨h1,h2⟩
  have hx:(s.extract a e).size≤120:=Za7 s hs (by omega)
  have p1:∀k,2000≤k→Wz k (s.extract a e)=some (V1 (s.extract a e)):=fun k hk=>ZeV _ (by omega) (by omega)
  have p2:ZaF (s.extract a e) 0 1000000000=some (if (V1 (s.extract a e)).2=true∧0≤(V1 (s.extract a e)).1∧(V1 (s.extract a e)).1≤1000000000 then ((V1 (s.extract a e)).1,true) else (0,false)):=by
   unfold ZaF;rw [if_pos (by omega),Zf8 _ _ _ (by omega) (by omega)]
  have hpos:(V1 (s.extract a e)).2=true→0≤(V1 (s.extract a e)).1:=by
   intro h
   unfold V1 at h ⊢
   cases hn:Zj8 (s.extract a e) with
   | none=>rw [hn] at h;cases h
   | some n=>
    rw [hn] at h
    simp only at h ⊢
    by_cases hb:n.natAbs<1000000000000
    ·rw [if_pos hb]
     have hi:=ZeZ hn
     obtain ⟨c',r,g1,g2⟩:=Zhh s hs (a:=a) (b:=e) (by omega) (by omega)
     rw [hget] at g1;cases g1
     rw [Zgc] at hi
     by_cases hneg:n<0
     ·rw [if_pos hneg,g2] at hi
      injection hi with hi _
      subst hi
      simp [ZiP] at hdi
     ·show 0≤n;omega
    ·rw [if_neg hb] at h;cases h
  generalize V1 (s.extract a e)=rv at p1 p2 hpos
  by_cases hok:rv.2=true∧rv.1≤1000000000
  ·left
   refine ⟨⟨2,rv.1,a,⟨#[]⟩⟩,e,by omega,by omega,⟨(fun h=>by simp at h),(fun h=>by simp at h),by show (0:Int)≤a;omega,by show (0:Nat)≤120;omega⟩,fun k hk=>⟨?_, ?_⟩⟩
   ·unfold Q9
    rw [hat]
    simp only [Option.bind_some,Zaq,hle,Zbu,hdi,Bool.false_eq_true,if_false,if_true,(e1 k hk).1,hc1,p1 k hk,hok.1,Bool.not_true]
    rw [show (decide (1000000000<rv.1))=false by simp;omega]
    simp only [Option.bind_some,Bool.false_eq_true,if_false,hbs e (by omega) (by omega)]
   ·unfold Qd
    rw [hat]
    simp only [Option.bind_some,ZcR,hle,ZcU,hdi,Bool.false_eq_true,if_false,if_true,(e1 k hk).2,hc1,p2]
    rw [if_pos ⟨hok.1,hpos hok.1,hok.2⟩]
  ·right
   refine ⟨⟨2,rv.1,a,⟨#[]⟩⟩,⟨2,0,a,⟨#[]⟩⟩,e,fun k hk=>⟨?_, ?_⟩⟩
   ·unfold Q9
    rw [hat]
    have hb:(if (!rv.2)=true then some true else some (decide (1000000000<rv.1)))=some true:=by
     cases h2:rv.2 with
     | false=>rfl
     | true=>simp [h2] at hok ⊢;omega
    simp only [Option.bind_some,Zaq,hle,Zbu,hdi,Bool.false_eq_true,if_false,if_true,(e1 k hk).1,hc1,p1 k hk,hb]
   ·unfold Qd
    rw [hat]
    simp only [Option.bind_some,ZcR,hle,ZcU,hdi,Bool.false_eq_true,if_false,if_true,(e1 k hk).2,hc1,p2]
    rw [if_neg (fun h=>hok ⟨h.1,h.2.2⟩)]
 | false=>
 by_cases h34:(c.toNat:Int)=34
 ·have hw2:=ZkZ (p:=noQ) (l:=s.data.toList) (s.size-(a+1)) (a+1) (by omega)
  have hix:=Zke s.data.toList (s.size-(a+1)) (a+1) (by omega)
  generalize he:sc noQ s.data.toList (a+1)=e at hw2 hix
  have e1:∀k,2000≤k→Q2 s k ((a+1:Nat):Int)=some (e:Int):=fun k hk=>by
   have h1:=sq s hs (a+1) (by omega) (show 1000<k by omega)
   rw [he] at h1;exact h1
  have hc1:=ZaP s hs (a:=a+1) (b:=e) (by omega) (by omega)
  have hc2:=ZaP s hs (a:=a+1) (b:=s.size) (by omega) (by omega)
  have hi2:Yw (s.extract (a+1) s.size) 34=some (if e<s.size then ((e-(a+1):Nat):Int) else-1):=by
   unfold Yw
   rw [Zeq s hs,List.take_of_length_le (by simp<;>omega)]
   rw [show (34:Int).toNat.toUInt8=34 from rfl,hix,hsz]
  have vt:=fun k (hk:2000≤k)=>Zcr (s.extract (a+1) e) (by have:=Za7 s hs (a:=a+1) (b:=e) (by omega);omega) (show (s.extract (a+1) e).size<k by have:=Za7 s hs (a:=a+1) (b:=e) (by omega);omega)
  generalize (!((s.extract (a+1) e).data.toList.any VR)&&decide (((s.extract (a+1) e).size:Int)≤20))=tv at vt
  have l0:Zhv c=false:=hle
  by_cases hes:e<s.size
  ·rw [if_pos hes] at hi2
   have hw3:IntKind.i64.wrap (IntKind.i64.wrap ((a:Int)+1)+((e-(a+1):Nat):Int))=(e:Int):=by rw [w1,w64 (by omega) (by omega)];omega
   have hw4:IntKind.i64.wrap (IntKind.i64.wrap ((a:Int)+((e-(a+1):Nat):Int))+2)=((e+1:Nat):Int):=by rw [w64 (n:=(a:Int)+((e-(a+1):Nat):Int)) (by omega) (by omega),w64 (by omega) (by omega)];omega
   have hi:∀k,2000≤k→Qd k s a=some (⟨3,0,a,s.extract (a+1) e⟩,((e+1:Nat):Int),tv):=by
    intro k hk
    unfold Qd
    rw [hat]
    simp only [Option.bind_some,ZcR,hle,ZcU,hdi,Bool.false_eq_true,if_false,h34,decide_true,if_true,w1,hc2,hi2]
    rw [if_neg (by simp)]
    rw [←w1,hw3,w1,hc1]
    simp only [Option.bind_some,(vt k hk).2,hw4]
   cases tv with
   | true=>
    left
    refine ⟨⟨3,0,a,s.extract (a+1) e⟩,e+1,by omega,by omega,⟨(fun h=>by simp at h),(fun h=>by simp at h),by show (0:Int)≤a;omega,Za7 s hs (by omega)⟩,fun k hk=>⟨?_,hi k hk⟩⟩
    unfold Q9
    rw [hat]
    simp only [Option.bind_some,Zaq,hle,Zbu,hdi,Bool.false_eq_true,if_false,h34,decide_true,if_true,w1,e1 k hk,hc1,(vt k hk).1]
    rw [show (decide ((e:Int)=(s.size:Int)))=false by simp;omega]
    simp only [Bool.false_eq_true,if_false,Option.bind_some,Bool.not_true,wS e (by omega),hbs (e+1) (by omega) (by omega)]
   | false=>
    right
    refine ⟨⟨3,0,a,s.extract (a+1) e⟩,_,_,fun k hk=>⟨?_,hi k hk⟩⟩
    unfold Q9
    rw [hat]
    simp only [Option.bind_some,Zaq,hle,Zbu,hdi,Bool.false_eq_true,if_false,h34,decide_true,if_true,w1,e1 k hk,hc1,(vt k hk).1]
    rw [show (decide ((e:Int)=(s.size:Int)))=false by simp;omega]
    simp only [Bool.false_eq_true,if_false,Option.bind_some,Bool.not_false,if_true]
  ·rw [if_neg hes] at hi2
   right
   refine ⟨⟨3,0,a,s.extract (a+1) e⟩,⟨0,0,0,⟨#[]⟩⟩,0,fun k hk=>⟨?_, ?_⟩⟩
   ·unfold Q9
    rw [hat]
    simp only [Option.bind_some,Zaq,hle,Zbu,hdi,Bool.false_eq_true,if_false,h34,decide_true,if_true,w1,e1 k hk,hc1]
    rw [show (decide ((e:Int)=(s.size:Int)))=true by simp;omega]
    simp only [if_true,Option.bind_some]
   ·unfold Qd
    rw [hat]
    simp only [Option.bind_some,ZcR,hle,ZcU,hdi,Bool.false_eq_true,if_false,h34,decide_true,if_true,w1,hc2,hi2]
    rfl
 ·have hn34:¬((c.toNat:Int)=34):=h34
  have hget2:s.data.toList[a]=c:=by have:=hget;rw [List.getElem?_eq_getElem hla] at this;exact Option.some.inj this
  have hlist:(s.extract a s.size).data.toList=c::s.data.toList.drop (a+1):=by
   rw [Zeq s hs,List.take_of_length_le (by simp<;>omega),List.drop_eq_getElem_cons hla,hget2]
  have hc0:=ZaP s hs (a:=a) (b:=s.size) (by omega) (by omega)
  have hc1:=ZaP s hs (a:=a) (b:=a+1) (by omega) (by omega)
  have hix:Yw (⟨#[40,41,91,93,44,43,45,42,60,61]⟩:ByteArray) (c.toNat:Int)=some (Lib.indexByte ZqR c):=by
   unfold Yw
   congr 2
   simp
  obtain ⟨n,hn,hcase⟩:=ZkW s hs a ha c hat
  rcases hcase with ⟨rfl,rfl,h2,h3⟩| ⟨rfl,hmem,hno⟩| ⟨rfl,hmem⟩
  ·
   have hc2:=ZaP s hs (a:=a) (b:=a+2) (by omega) (by omega)
   have he2:s.extract a (a+2)=⟨#[61,61]⟩:=by
    apply ByteArray.ext
    apply Array.toList_inj.1
    have hl1:a+1<s.data.toList.length:=by omega
    have hg1:s.data.toList[a+1]=61:=by rw [List.getElem?_eq_getElem hl1] at h3;exact Option.some.inj h3
    rw [Zeq s hs,List.drop_eq_getElem_cons hla,hget2,List.drop_eq_getElem_cons hl1,hg1,show a+2-a=2 by omega]
    rfl
   have hpre:Yx (s.extract a s.size) (⟨#[61,61]⟩:ByteArray)=some true:=by
    unfold Yx Lib.hasPrefix
    have hl1:a+1<s.data.toList.length:=by omega
    have hg1:s.data.toList[a+1]=61:=by rw [List.getElem?_eq_getElem hl1] at h3;exact Option.some.inj h3
    rw [hlist,List.drop_eq_getElem_cons hl1,hg1]
    simp
   left
   refine ⟨⟨4,0,a,⟨#[61,61]⟩⟩,a+2,by omega,by omega,⟨(fun h=>by simp at h),fun _=>⟨61,[61],rfl,by decide⟩,by show (0:Int)≤a;omega,by show (2:Nat)≤120;omega⟩,fun k hk=>⟨?_, ?_⟩⟩
   ·unfold Q9
    rw [hat]
    simp only [Option.bind_some,Zaq,hle,Zbu,hdi,Bool.false_eq_true,if_false,hn34,decide_false,hn]
    rw [show IntKind.i64.wrap ((a:Int)+2)=((a+2:Nat):Int) by rw [w64 (by omega) (by omega)];rfl,hc2,he2]
    simp only [Option.bind_some,hbs (a+2) (by omega) (by omega)]
   ·unfold Qd
    rw [hat]
    simp only [Option.bind_some,ZcR,hle,ZcU,hdi,Bool.false_eq_true,if_false,hn34,decide_false,hc0,hpre,if_true]
    rw [show IntKind.i64.wrap ((a:Int)+2)=((a+2:Nat):Int) by rw [w64 (by omega) (by omega)];rfl]
  ·
   have hpre:Yx (s.extract a s.size) (⟨#[61,61]⟩:ByteArray)=some false:=by
    unfold Yx Lib.hasPrefix
    rw [hlist]
    congr 1
    by_cases hc61:c=61
    ·subst hc61
     by_cases hl1:a+1<s.data.toList.length
     ·rw [List.drop_eq_getElem_cons hl1]
      have:s.data.toList[a+1]≠61:=fun e=>hno rfl (by rw [List.getElem?_eq_getElem hl1,e])
      simp [List.isPrefixOf]
      intro e;exact this (by simpa using e.symm)
     ·rw [List.drop_eq_nil_of_le (by omega)];simp
    ·simp [List.isPrefixOf,Ne.symm hc61]
   left
   obtain ⟨c',r,g1,g2⟩:=Zhh s hs (a:=a) (b:=a+1) (by omega) (by omega)
   rw [hget] at g1;cases g1
   refine ⟨⟨4,0,a,s.extract a (a+1)⟩,a+1,by omega,by omega,⟨(fun h=>by simp at h),fun _=>⟨c,r,g2,hle⟩,by show (0:Int)≤a;omega,Za7 s hs (by omega)⟩,fun k hk=>⟨?_, ?_⟩⟩
   ·unfold Q9
    rw [hat]
    simp only [Option.bind_some,Zaq,hle,Zbu,hdi,Bool.false_eq_true,if_false,hn34,decide_false,hn]
    rw [w1,hc1]
    simp only [Option.bind_some,hbs (a+1) (by omega) (by omega)]
   ·unfold Qd
    rw [hat]
    simp only [Option.bind_some,ZcR,hle,ZcU,hdi,Bool.false_eq_true,if_false,hn34,decide_false,hc0,hpre,w1,hc1,hix]
    rw [decide_eq_true ((Zoz c ZqR).2 hmem)]
  ·right
   have hpre:∃b,Yx (s.extract a s.size) (⟨#[61,61]⟩:ByteArray)=some b∧b=false:=by
    refine ⟨_,rfl, ?_⟩
    unfold Lib.hasPrefix
    rw [hlist]
    have:c≠61:=fun e=>hmem (by rw [e];decide)
    simp [List.isPrefixOf,Ne.symm this]
   obtain ⟨b,hpre,rfl⟩:=hpre
   have hc00:=ZaP s hs (a:=a) (b:=a) (by omega) (by omega)
   refine ⟨⟨4,0,a,s.extract a a⟩,⟨4,0,a,s.extract a (a+1)⟩,((a+1:Nat):Int),fun k hk=>⟨?_, ?_⟩⟩
   ·unfold Q9
    rw [hat]
    simp only [Option.bind_some,Zaq,hle,Zbu,hdi,Bool.false_eq_true,if_false,hn34,decide_false,hn]
    rw [show IntKind.i64.wrap ((a:Int)+0)=(a:Int) by rw [w64 (by omega) (by omega)];omega,hc00]
    simp only [Option.bind_some,hbs a (by omega) (by omega),Nat.sub_self]
    rfl
   ·unfold Qd
    rw [hat]
    simp only [Option.bind_some,ZcR,hle,ZcU,hdi,Bool.false_eq_true,if_false,hn34,decide_false,hc0,hpre,w1,hc1,hix]
    rw [decide_eq_false (fun h=>hmem ((Zoz c ZqR).1 h))]
end Go.Proofs.YtfapaeabfcogkaaGreatDoor
namespace Go.Proofs.YtfapaeabfcogkaaGreatDoor
open Go.RowKit Am
theorem Zmq (n:Int):Y7 n=some (decide (-1000000000≤n)&&decide (n≤1000000000)):=by
 unfold Y7
 simp only [Zdo,Option.bind_some]
theorem Zjf (n:Int):XO n=some (decide (-1000000000≤n)&&decide (n≤1000000000)):=by
 unfold XO
 simp only [JK,Option.bind_some]
end Go.Proofs.YtfapaeabfcogkaaGreatDoor
namespace Go.Proofs.YtfapaeabfcogkaaGreatDoor
open Go.RowKit Am
section
variable {α β γ ε σ:Type} {p:α→Prop} {q:β→Prop}
variable {Inv:σ→Prop} {Post:ε→Prop} {U:Nat→Nat→σ→Option ε}
end
end Go.Proofs.YtfapaeabfcogkaaGreatDoor
namespace Go.Proofs.YtfapaeabfcogkaaGreatDoor
open Go.RowKit Am
theorem ZbZ {α:Type} {b:Nat} {xs ys:List α} (h:xs.length+ys.length≤4294967296) (hb:b≤16384):Wq b xs ys=some (xs++ys):=by
 unfold Wq
 rw [if_pos ⟨by omega,Nat.le_trans (Nat.mul_le_mul h hb) (by omega)⟩]
theorem Zg3 {α β:Type} (b:Nat) (hb:b≤16384) (xs:List α) (g:α→β) (G:α→Option β) (u:Nat→List β→Int→Option (List β)) (hG:∀x∈xs,G x=some (g x))
  (hu:∀n out i,u (n+1) out i=if (decide (i<(xs.length:Int)))=true then (at? xs i).bind fun x=>(G x).bind fun y=>(Wq b out [y]).bind fun z=>u n z (IntKind.i64.wrap (i+1)) else some out)
  (hl:xs.length≤1073741824) {k:Nat} (hk:xs.length<k):u k [] 0=some (xs.map g):=by
 have:=Zpw (fun n (s:List β) i=>u n s i) (fun i=>(xs.take i).map g) (some (xs.map g)) xs.length
  (fun n i hi=>by
   try simp only
   rw [hu,if_pos (Yp hi),Qe hi,Option.bind_some,hG _ (List.getElem_mem hi),Option.bind_some,ZbZ (by simp;omega) hb,Option.bind_some,wS i (by omega),List.take_succ_eq_append_getElem hi,List.map_append]
   rfl)
  (fun n=>by rw [hu,if_neg (Vi (Nat.le_refl _)),List.take_length]) hk
 simpa using this
theorem Zc1 {α:Type} (b:Nat) (hb:b≤16384) (xs:List α) (G:α→Option α) (u:Nat→List α→Int→Option (List α)) (hG:∀x∈xs,G x=some x)
  (hu:∀n out i,u (n+1) out i=if (decide (i<(xs.length:Int)))=true then (at? xs i).bind fun x=>(G x).bind fun y=>(Wq b out [y]).bind fun z=>u n z (IntKind.i64.wrap (i+1)) else some out)
  (hl:xs.length≤1073741824) {k:Nat} (hk:xs.length<k):u k [] 0=some xs:=by
 have:=Zg3 b hb xs id G u hG hu hl hk
 simpa using this
end Go.Proofs.YtfapaeabfcogkaaGreatDoor
namespace Go.Proofs.YtfapaeabfcogkaaGreatDoor
open Go.RowKit Am
theorem ZfA {α ε:Type} (xs:List α) (t:Nat→α→Bool) (u:Nat→Int→Option ε) (yes no:Option ε)
  (hstep:∀n j (h:j<xs.length),t j xs[j]=false→u (n+1) (j:Int)=u n ((j+1:Nat):Int)) (hyes:∀n j (h:j<xs.length),t j xs[j]=true→u (n+1) (j:Int)=yes) (hno:∀n,u (n+1) (xs.length:Int)=no)
  {k:Nat} (hk:xs.length<k):u k 0=if anyI t 0 xs=true then yes else no:=by
 have key:∀(m n i:Nat),i+m=xs.length→m<n→u n (i:Int)=if anyI t i (xs.drop i)=true then yes else no:=by
  intro m
  induction m with
  | zero=>
   intro n i hi hn
   obtain ⟨n,rfl⟩:∃j,n=j+1:=⟨n-1,by omega⟩
   obtain rfl:i=xs.length:=by omega
   rw [hno,List.drop_length];rfl
  | succ m ih=>
   intro n i hi hn
   obtain ⟨n,rfl⟩:∃j,n=j+1:=⟨n-1,by omega⟩
   have hil:i<xs.length:=by omega
   rw [List.drop_eq_getElem_cons hil]
   have e:anyI t i (xs[i]::xs.drop (i+1))=(t i xs[i]||anyI t (i+1) (xs.drop (i+1))):=rfl
   rw [e]
   rcases Bool.eq_false_or_eq_true (t i xs[i]) with ht| ht
   ·rw [hyes n i hil ht,ht];simp
   ·rw [hstep n i hil ht,ih n (i+1) (by omega) (by omega),ht];simp
 have:=key xs.length k 0 (by omega) hk
 simpa using this
theorem ZiI {α ε:Type} (xs:List α) (t:α→Bool) (u:Nat→Int→Option ε) (yes no:Option ε)
  (hstep:∀n j (h:j<xs.length),t xs[j]=false→u (n+1) (j:Int)=u n ((j+1:Nat):Int)) (hyes:∀n j (h:j<xs.length),t xs[j]=true→u (n+1) (j:Int)=yes) (hno:∀n,u (n+1) (xs.length:Int)=no)
  {k:Nat} (hk:xs.length<k):u k 0=if xs.any t=true then yes else no:=by
 have h:=ZfA xs (fun _=>t) u yes no hstep hyes hno hk
 have e:∀(ys:List α) i,anyI (fun _=>t) i ys=ys.any t:=by
  intro ys
  induction ys with
  | nil=>intro i;rfl
  | cons y ys ih=>intro i;simp [anyI,ih]
 rw [h,e]
def before (y x:Zc):Bool:=decide (y.cell<x.cell)||(decide (y.cell=x.cell)&&decide (y.row<x.row))
theorem Znw (y x:Zc):VA y x=some (before y x):=by
 unfold VA before
 cases decide (y.cell<x.cell)<;>cases decide (y.cell=x.cell)<;>simp
theorem ZnW (y x:Zc):Q8 y x=some (before y x):=by
 unfold Q8 before
 cases decide (y.cell<x.cell)<;>cases decide (y.cell=x.cell)<;>simp
def Zfv (xs:List Zc) (j:Nat) (x:Zc):Bool:=decide (x.cell<0)||decide (x.row<0)||(decide (0<j)&&!(match xs[j-1]? with | some y=>before y x| none=>true))
theorem ZkJ (B:Zc→Zc→Option Bool) (hB:∀y x,B y x=some (before y x)) (xs:List Zc) (hl:xs.length≤4294967296) (j:Nat) (h:j<xs.length):
  (if decide (xs[j].cell<0)=true then some true else if decide (xs[j].row<0)=true then some true else if decide (0<(j:Int))=true then (at? xs (IntKind.i64.wrap ((j:Int)-1))).bind fun x11=>(B x11 xs[j]).bind fun x12=>some (!x12) else some false)=some (Zfv xs j xs[j]):=by
 unfold Zfv
 by_cases h0:0<j
 ·have e:IntKind.i64.wrap ((j:Int)-1)=((j-1:Nat):Int):=by rw [w64 (by omega) (by omega)];omega
  have h1:j-1<xs.length:=by omega
  rw [e,Qe h1,List.getElem?_eq_getElem h1]
  cases decide (xs[j].cell<0)<;>cases decide (xs[j].row<0)<;>simp [h0,hB]
 ·have:j=0:=by omega
  subst this
  cases decide (xs[0].cell<0)<;>cases decide (xs[0].row<0)<;>simp
def ZiD (xs:List Zc):Bool:=!anyI (Zfv xs) 0 xs
theorem ZsC (xs:List Zc) (hl:xs.length≤4294967296) {k:Nat} (hk:xs.length<k):Wx k xs=some (ZiD xs):=by
 unfold Wx ZiD
 rw [Uw xs (Zfv xs) (fun i x3=>if decide (x3.cell<0)=true then some true else if decide (x3.row<0)=true then some true else if decide (0<i)=true then (at? xs (IntKind.i64.wrap (i-1))).bind fun x11=>(VA x11 x3).bind fun x12=>some (!x12) else some false) false () (YM xs)
  (fun j h=>ZkJ VA Znw xs hl j h) (fun n i=>by rw [YM];simp only [Option.bind_assoc]) (by omega) hk]
 cases anyI (Zfv xs) 0 xs<;>rfl
def KS (n:Int):Bool:=decide (-1000000000≤n)&&decide (n≤1000000000)
theorem ZqX (n:Int):Y7 n=some (KS n):=Zmq n
theorem Zrg (n:Int):XO n=some (KS n):=Zjf n
def Zis (cs:List ByteArray) (j:Nat) (x:ByteArray):Bool:=(cs.take j).any fun y=>decide (y=x)
def ZaO (cs:List ByteArray):Bool:=!anyI (Zis cs) 0 cs
theorem ZsB (cs:List ByteArray) (x:ByteArray) (hl:cs.length≤4294967296) {k:Nat} (hk:cs.length<k):Zaw k cs x=some (cs.any fun y=>decide (y=x)):=by
 unfold Zaw
 rw [Xh cs (fun y=>decide (y=x)) (fun y=>some (decide (y=x))) true () (XL cs x) (fun _ _=>rfl) (fun n i=>by rw [XL];rfl) (by omega) hk]
 cases cs.any fun y=>decide (y=x)<;>rfl
theorem ZmI (cs:List ByteArray) (x:ByteArray) (hl:cs.length≤4294967296) {k:Nat} (hk:cs.length<k):ZaK k cs x=some (Zll (fun y=>decide (y=x)) cs):=by
 unfold ZaK Zll
 rw [Zio cs (fun y=>decide (y=x)) (Qu cs x) (fun i=>some (.inr (i:Int))) (some (.inl ()))
  (fun n i h hp=>by rw [Qu,if_pos (Yp h),Qe h,Option.bind_some,if_neg (by simpa using hp),wS i (by omega)])
  (fun n i h hp=>by rw [Qu,if_pos (Yp h),Qe h,Option.bind_some,if_pos hp])
  (fun n=>by rw [Qu,if_neg (Vi (Nat.le_refl _))]) hk]
 split<;>rfl
theorem Zkl (cs:List ByteArray) (j:Nat) (h:j<cs.length):decide (Zll (fun y=>decide (y=cs[j])) cs=(j:Int))= !Zis cs j cs[j]:=by
 have hlt:cs.findIdx (fun y=>decide (y=cs[j]))<cs.length:=List.findIdx_lt_length_of_exists ⟨cs[j],List.getElem_mem h,by simp⟩
 unfold Zll Zis
 rw [if_pos hlt]
 have hle:cs.findIdx (fun y=>decide (y=cs[j]))≤j:=by
  rcases Nat.lt_or_ge j (cs.findIdx (fun y=>decide (y=cs[j]))) with g| g
  ·have:=List.not_of_lt_findIdx g;simp at this
  ·exact g
 cases hd:(cs.take j).any fun y=>decide (y=cs[j]) with
 | true=>
  obtain ⟨y,hy,hyx⟩:=List.any_eq_true.1 hd
  obtain ⟨i,hi,rfl⟩:=List.mem_take_iff_getElem.1 hy
  have:cs.findIdx (fun y=>decide (y=cs[j]))≤i:=by
   rcases Nat.lt_or_ge i (cs.findIdx (fun y=>decide (y=cs[j]))) with g| g
   ·have:=List.not_of_lt_findIdx g;simp at this hyx;exact absurd hyx this
   ·exact g
  simp;omega
 | false=>
  have:¬cs.findIdx (fun y=>decide (y=cs[j]))<j:=by
   intro g
   have h1:=List.any_eq_false.1 hd (cs[cs.findIdx fun y=>decide (y=cs[j])]) (List.mem_take_iff_getElem.2 ⟨_,by omega,rfl⟩)
   have h2:=List.findIdx_getElem (xs:=cs) (p:=fun y=>decide (y=cs[j])) (w:=hlt)
   exact h1 h2
  simp;omega
theorem Zk2 (cs:List ByteArray) (hl:cs.length≤4294967296) {k:Nat} (hk:cs.length<k):Vc k cs=some (ZaO cs):=by
 unfold Vc ZaO
 have hs:∀j:Nat,j<cs.length→Zns cs 0 (j:Int)=some (cs.take j):=fun j h=>by
  unfold Zns
  rw [if_pos ⟨by omega,by omega,by omega⟩];simp
 have hh:∀j (h:j<cs.length),Zaw k (cs.take j) cs[j]=some (Zis cs j cs[j]):=fun j h=>ZsB (cs.take j) cs[j] (by simp;omega) (by simp;omega)
 rw [ZfA cs (Zis cs) (Yc k cs) (some (.inr false)) (some (.inl ()))
  (fun n j h ht=>by rw [Yc,if_pos (Yp h),hs j h,Option.bind_some,Qe h,Option.bind_some,hh j h,Option.bind_some,ht,if_neg (by simp),wS j (by omega)])
  (fun n j h ht=>by rw [Yc,if_pos (Yp h),hs j h,Option.bind_some,Qe h,Option.bind_some,hh j h,Option.bind_some,ht,if_pos rfl])
  (fun n=>by rw [Yc,if_neg (Vi (Nat.le_refl _))]) hk]
 cases anyI (Zis cs) 0 cs<;>rfl
theorem Zlj (cs:List ByteArray) (hl:cs.length≤4294967296) {k:Nat} (hk:cs.length<k):Vn k cs=some (ZaO cs):=by
 unfold Vn ZaO
 rw [ZfA cs (Zis cs) (Ye k cs) (some (.inr false)) (some (.inl ()))
  (fun n j h ht=>by rw [Ye,if_pos (Yp h),Qe h,Option.bind_some,ZmI cs _ hl hk,Option.bind_some,Zkl cs j h,ht,if_neg (by simp),wS j (by omega)])
  (fun n j h ht=>by rw [Ye,if_pos (Yp h),Qe h,Option.bind_some,ZmI cs _ hl hk,Option.bind_some,Zkl cs j h,ht];rfl)
  (fun n=>by rw [Ye,if_neg (Vi (Nat.le_refl _))]) hk]
 cases anyI (Zis cs) 0 cs<;>rfl
def ZbD (cs:List ByteArray):Bool:=!(cs.any fun s=>!WN s)&&(decide (1≤(cs.length:Int))&&decide ((cs.length:Int)≤4))&&ZaO cs
theorem Ziy (cs:List ByteArray) (hl:cs.length≤1048576) (hs:∀s∈cs,s.size≤1048576) {k:Nat} (hk:1048600<k):Vz k cs=some (ZbD cs)∧W4 k cs=some (ZbD cs):=by
 have hn:∀s∈cs,Z0 k s=some (WN s)∧Z2 k s=some (WN s):=fun s h=>UE s (by have:=hs s h;omega) (by have:=hs s h;omega) (by omega)
 constructor
 ·unfold Vz ZbD
  rw [Xh cs (fun s=>!WN s) (fun s=>(Z0 k s).bind fun b=>some (!b)) false () (Qo k cs) (fun s h=>by rw [(hn s h).1];rfl) (fun n i=>by rw [Qo];simp only [Option.bind_assoc,Option.bind_some]) (by omega) (by omega)]
  simp only [Zdo,Zk2 cs (by omega) (show cs.length<k by omega),Option.bind_some]
  cases cs.any fun s=>!WN s<;>cases decide (1≤(cs.length:Int))<;>cases decide ((cs.length:Int)≤4)<;>simp
 ·unfold W4 ZbD
  rw [Xh cs (fun s=>!WN s) (fun s=>(Z2 k s).bind fun b=>some (!b)) false () (Y5 k cs) (fun s h=>by rw [(hn s h).2];rfl) (fun n i=>by rw [Y5];simp only [Option.bind_assoc,Option.bind_some]) (by omega) (by omega)]
  simp only [JK,Zlj cs (by omega) (show cs.length<k by omega),Option.bind_some]
  cases cs.any fun s=>!WN s<;>cases decide (1≤(cs.length:Int))<;>cases decide ((cs.length:Int)≤4)<;>simp
def ZcF (nc:Nat) (r:Zq):Bool:=!decide ((r.cells.length:Int)=(nc:Int))||!ZiD r.from_||r.cells.any fun n=>!KS n
def Zam (v:Za):Bool:=ZbD v.columns&&!decide (12<(v.rows.length:Int))&&!v.rows.any (ZcF v.columns.length)
structure Small (v:Za):Prop where
 cols:v.columns.length≤1048576
 names:∀s∈v.columns,s.size≤1048576
 rows:v.rows.length≤1048576
 cells:∀r∈v.rows,r.cells.length≤1048576∧r.from_.length≤1048576
 list:v.list.length≤1048576
 text:v.text.size≤1048576
theorem Za.small {v:Za} (h:v.bk≤1048576):Small v:=by
 have e:=v.ZZ
 have l1:=YL (f:=Za.bk) (xs:=v.list)
 have l2:=YL (f:=ByteArray.size) (xs:=v.columns)
 have l3:=YL (f:=Zq.bk) (xs:=v.rows)
 refine ⟨by omega,fun s hs=>by have:=QF (f:=ByteArray.size) hs;omega,by omega,fun r hr=> ?_,by omega,by omega⟩
 have h1:=QF (f:=Zq.bk) hr
 have h2:=r.ZZ
 have h3:=YL (f:=fun _:Int=>0) (xs:=r.cells)
 have h4:=YL (f:=fun _:Zc=>0) (xs:=r.from_)
 constructor<;>omega
theorem Za.ZmA {v x:Za} (h:x∈v.list):x.bk≤v.bk:=by rw [Za.ZZ v];have:=QF (f:=Za.bk) h;omega
theorem Zf0 (v:Za) (h:Small v) {k:Nat} (hk:1048600<k):Zas k v=some (Zam v)∧ZaG k v=some (Zam v):=by
 obtain ⟨c1,c2⟩:=Ziy v.columns h.cols h.names hk
 have l:=h.rows
 constructor
 ·unfold Zas Zam
  have cells:∀r∈v.rows,QL r k 0=some (if (r.cells.any fun n=>!KS n)=true then .inr false else .inl ()):=fun r hr=>
   Xh r.cells (fun n=>!KS n) (fun n=>(Y7 n).bind fun b=>some (!b)) false () (QL r) (fun n _=>by rw [ZqX];rfl) (fun n i=>by rw [QL];simp only [Option.bind_assoc,Option.bind_some]) (by have:=(h.cells r hr).1;omega) (by have:=(h.cells r hr).1;omega)
  have asc:∀r∈v.rows,Wx k r.from_=some (ZiD r.from_):=fun r hr=>ZsC r.from_ (by have:=(h.cells r hr).2;omega) (by have:=(h.cells r hr).2;omega)
  have hb:∀n j (hj:j<v.rows.length),Y1 k v (n+1) (j:Int)=if ZcF v.columns.length v.rows[j]=true then some (.inr false) else Y1 k v n ((j+1:Nat):Int):=fun n j hj=>by
   rw [Y1,if_pos (Yp hj),Qe hj,Option.bind_some,asc _ (List.getElem_mem hj),cells _ (List.getElem_mem hj),wS j (by omega)]
   unfold ZcF
   cases decide ((v.rows[j].cells.length:Int)=(v.columns.length:Int))<;>cases ZiD v.rows[j].from_<;>cases v.rows[j].cells.any fun n=>!KS n<;>simp
  rw [ZiI v.rows (ZcF v.columns.length) (Y1 k v) (some (.inr false)) (some (.inl ()))
   (fun n j hj ht=>by rw [hb n j hj,ht,if_neg (by simp)]) (fun n j hj ht=>by rw [hb n j hj,ht,if_pos rfl]) (fun n=>by rw [Y1,if_neg (Vi (Nat.le_refl _))]) (by omega),c1]
  cases ZbD v.columns<;>cases decide (12<(v.rows.length:Int))<;>cases v.rows.any (ZcF v.columns.length)<;>simp
 ·unfold ZaG Zam
  have cells:∀r∈v.rows,QU r k 0=some (if (r.cells.any fun n=>!KS n)=true then .inr false else .inl ()):=fun r hr=>
   Xh r.cells (fun n=>!KS n) (fun n=>(XO n).bind fun b=>some (!b)) false () (QU r) (fun n _=>by rw [Zrg];rfl) (fun n i=>by rw [QU];simp only [Option.bind_assoc,Option.bind_some]) (by have:=(h.cells r hr).1;omega) (by have:=(h.cells r hr).1;omega)
  have asc:∀r∈v.rows,QT r k 0=some (if ZiD r.from_=true then .inl () else .inr false):=fun r hr=>by
   have:=Uw r.from_ (Zfv r.from_) (fun i x3=>if decide (x3.cell<0)=true then some true else if decide (x3.row<0)=true then some true else if decide (0<i)=true then (at? r.from_ (IntKind.i64.wrap (i-1))).bind fun x11=>(Q8 x11 x3).bind fun x12=>some (!x12) else some false) false () (QT r)
    (fun j hj=>ZkJ Q8 ZnW r.from_ (by have:=(h.cells r hr).2;omega) j hj) (fun n i=>by rw [QT]) (by have:=(h.cells r hr).2;omega) (k:=k) (by have:=(h.cells r hr).2;omega)
   rw [this];unfold ZiD
   cases anyI (Zfv r.from_) 0 r.from_<;>rfl
  have hb:∀n j (hj:j<v.rows.length),Y3 k v (n+1) (j:Int)=if ZcF v.columns.length v.rows[j]=true then some (.inr false) else Y3 k v n ((j+1:Nat):Int):=fun n j hj=>by
   rw [Y3,if_pos (Yp hj),Qe hj,Option.bind_some,asc _ (List.getElem_mem hj),cells _ (List.getElem_mem hj),wS j (by omega)]
   unfold ZcF
   cases decide ((v.rows[j].cells.length:Int)=(v.columns.length:Int))<;>cases ZiD v.rows[j].from_<;>cases v.rows[j].cells.any fun n=>!KS n<;>simp
  rw [ZiI v.rows (ZcF v.columns.length) (Y3 k v) (some (.inr false)) (some (.inl ()))
   (fun n j hj ht=>by rw [hb n j hj,ht,if_neg (by simp)]) (fun n j hj ht=>by rw [hb n j hj,ht,if_pos rfl]) (fun n=>by rw [Y3,if_neg (Vi (Nat.le_refl _))]) (by omega),c2]
  cases ZbD v.columns<;>cases decide (12<(v.rows.length:Int))<;>cases v.rows.any (ZcF v.columns.length)<;>simp
theorem Zin {α σ:Type} (xs:List α) (F:σ→α→σ) (G:σ→α→Option σ) (z:σ) (u:Nat→σ→Int→Option σ) (hG:∀s,∀x∈xs,G s x=some (F s x))
  (hu:∀n s i,u (n+1) s i=if decide (i<(xs.length:Int))=true then (at? xs i).bind fun x=>(G s x).bind fun y=>u n y (IntKind.i64.wrap (i+1)) else some s) (hl:xs.length≤4294967296) {k:Nat} (hk:xs.length<k):u k z 0=some (xs.foldl F z):=by
 have:=Zpw u (fun i=>(xs.take i).foldl F z) (some (xs.foldl F z)) xs.length
  (fun n i hi=>by
   rw [hu,if_pos (Yp hi),Qe hi,Option.bind_some,hG _ _ (List.getElem_mem hi),Option.bind_some,wS i (by omega),List.take_succ_eq_append_getElem hi,List.foldl_append]
   rfl)
  (fun n=>by rw [hu,if_neg (Vi (Nat.le_refl _)),List.take_length]) hk
 simpa using this
theorem Zsz (a b:Int):Kk a b=some (if b>a then b else a):=by
 unfold Kk
 by_cases h:b<a
 ·rw [if_pos (by simpa using h),if_neg (by omega)]
 ·rw [if_neg (by simpa using h)]
  split<;>first | rfl| (congr 1;omega)
theorem Zlo:∀v:Za,v.bk≤1048576→∃d,Ev fun k=>QP k v=some d∧QW k v=some d:=by
 refine Za.ind fun v ih hb=> ?_
 have l:=(Za.small hb).list
 obtain ⟨d,hd⟩:=Kb v.list (p:=fun x d=>Ev fun k=>QP k x=some d∧QW k x=some d) fun y hy=>ih y hy (by have:=Za.ZmA hy;omega)
 refine ⟨IntKind.i64.wrap (v.list.foldl (fun a x=>if d x>a then d x else a) 0+1),(((Ev.all v.list hd).and (Ev.ge (v.list.length+1))).pred ?_)⟩
 rintro k ⟨hx,hk⟩
 constructor
 ·rw [QP,Zin v.list (fun a x=>if d x>a then d x else a) (fun s x=>(QP k x).bind fun y=>Kk s y) 0 (Xt (QP k) v) (fun s x h=>by rw [(hx x h).1,Option.bind_some,Zsz]) (fun n s i=>by rw [Xt];simp only [Option.bind_assoc]) (by omega) (by omega)]
  rfl
 ·rw [QW,Zin v.list (fun a x=>if d x>a then d x else a) (fun s x=>(QW k x).bind fun y=>some (if y>s then y else s)) 0 (Xw (QW k) v) (fun s x h=>by rw [(hx x h).2,Option.bind_some]) (fun n s i=>by rw [Xw];simp only [Option.bind_assoc,Option.bind_some]) (by omega) (by omega)]
  rfl
def Zp1 (x:Za):Bool:=decide (x.kind=1)||decide (x.kind=2)||decide (x.kind=3)
def ZdY (b:Za→Bool) (d:Int) (v:Za):Bool:=!(v.list.any fun x=>!(Zp1 x&&b x))&&(decide ((v.list.length:Int)≤8)&&decide (d≤3))
def ZhU (s:ByteArray):Bool:=!(s.data.toList.any VR)&&decide ((s.size:Int)≤20)
def JO (b:Za→Bool) (d:Int) (v:Za):Bool:=
 let L:=decide ((v.list.length:Int)=0)
 let C:=decide ((v.columns.length:Int)=0)&&decide ((v.rows.length:Int)=0)
 let T:=decide (v.text=(⟨#[]⟩:ByteArray))
 let N:=decide (v.n=0)
 let S:=decide (v.step=0)
 if v.kind=1 then L&&C&&S&&T&&KS v.n
 else if v.kind=2 then L&&C&&N&&S&&ZhU v.text
 else if v.kind=3 then C&&N&&S&&T&&ZdY b d v
 else if v.kind=4 then L&&C&&T&&KS v.n&&KS v.step
 else if v.kind=5 then L&&N&&S&&T&&Zam v
 else if v.kind=6 then L&&C&&S&&T&&(decide (1≤v.n)&&decide (v.n≤8))
 else false
theorem Zj3 (n:Nat):decide (0<(n:Int))= !decide ((n:Int)=0):=by
 cases n with
 | zero=>rfl
 | succ n=>simp;omega
theorem two_pos (m n:Nat) (hm:m≤1048576) (hn:n≤1048576):decide (0<IntKind.i64.wrap ((m:Int)+(n:Int)))= !(decide ((m:Int)=0)&&decide ((n:Int)=0)):=by
 rw [w64 (by omega) (by omega)]
 cases m with
 | zero=>rw [Int.natCast_zero,Int.zero_add,Zj3];simp
 | succ m=>
  have e1:decide (0<(((m+1:Nat):Int))+(n:Int))=true:=by simp;omega
  have e2:decide (((m+1:Nat):Int)=0)=false:=by simp;omega
  rw [e1,e2];rfl
theorem Zme (b:Za→Bool) (d:Int) (v:Za) (hl:v.list.length≤1048576) {k:Nat} (hk:v.list.length<k) (hb:∀x∈v.list,ZK k x=some (b x)) (hd:QP k v=some d):Uj (k+1) v=some (ZdY b d v):=by
 rw [Uj,Xh v.list (fun x=>!(Zp1 x&&b x)) (fun x=>(UG x).bind fun x4=>if (!x4)=true then some true else (ZK k x).bind fun x5=>some (!x5)) false () (X2 (ZK k) v)
  (fun x h=>by
   rw [hb x h]
   unfold UG Zp1
   cases decide (x.kind=1)<;>cases decide (x.kind=2)<;>cases decide (x.kind=3)<;>cases b x<;>rfl)
  (fun n i=>by rw [X2];simp only [Option.bind_assoc]) (by omega) (by omega)]
 unfold ZdY
 rw [hd]
 cases v.list.any fun x=>!(Zp1 x&&b x)<;>cases decide ((v.list.length:Int)≤8)<;>simp
theorem Zk0 (b:Za→Bool) (d:Int) (v:Za) (sm:Small v) {k:Nat} (hk:1048700<k) (hl:v.kind=3→Uj k v=some (ZdY b d v)):ZK (k+1) v=some (JO b d v):=by
 have ht:=(Zcr v.text (by have:=sm.text;omega) (k:=k) (by have:=sm.text;omega)).1
 have hT:=(Zf0 v sm (k:=k) (by omega)).1
 have htx:(!(v.text.data.toList.any VR)&&decide ((v.text.size:Int)≤20))=ZhU v.text:=rfl
 rw [htx] at ht
 rw [ZK]
 simp only [ZqX,ht,hT,Zdo,Option.bind_some,Zj3,two_pos _ _ sm.cols sm.rows]
 unfold JO
 generalize decide ((v.list.length:Int)=0)=L
 generalize decide ((v.columns.length:Int)=0)=C1
 generalize decide ((v.rows.length:Int)=0)=C2
 generalize decide (v.text=(⟨#[]⟩:ByteArray))=T
 generalize decide (v.n=0)=N
 generalize decide (v.step=0)=S
 generalize KS v.n=I
 generalize KS v.step=J
 generalize ZhU v.text=X
 generalize Zam v=Y
 generalize (decide (1≤v.n)&&decide (v.n≤8))=Z
 by_cases h1:v.kind=1
 ·simp only [h1];cases L<;>cases C1<;>cases C2<;>cases T<;>cases S<;>rfl
 by_cases h2:v.kind=2
 ·simp only [h2];cases L<;>cases C1<;>cases C2<;>cases N<;>cases S<;>rfl
 by_cases h3:v.kind=3
 ·rw [hl h3]
  simp only [h3,Option.bind_some]
  generalize ZdY b d v=Q
  cases C1<;>cases C2<;>cases T<;>cases N<;>cases S<;>rfl
 by_cases h4:v.kind=4
 ·simp only [h4];cases L<;>cases C1<;>cases C2<;>cases T<;>cases I<;>cases J<;>rfl
 by_cases h5:v.kind=5
 ·simp only [h5];cases L<;>cases T<;>cases N<;>cases S<;>rfl
 by_cases h6:v.kind=6
 ·simp only [h6];cases L<;>cases C1<;>cases C2<;>cases T<;>cases S<;>rfl
 simp only [h1,h2,h3,h4,h5,h6,decide_false,if_false,Bool.not_false,if_true]
 cases L<;>cases C1<;>cases C2<;>cases T<;>cases S<;>rfl
theorem Zlh (b:Za→Bool) (d:Int) (v:Za) (sm:Small v) {k:Nat} (hk:1048700<k) (hb:∀x∈v.list,ZF k x=some (b x)) (hd:QW k v=some d):ZF (k+1) v=some (JO b d v):=by
 have ht:=(Zcr v.text (by have:=sm.text;omega) (k:=k) (by have:=sm.text;omega)).2
 have hT:=(Zf0 v sm (k:=k) (by omega)).2
 have htx:(!(v.text.data.toList.any VR)&&decide ((v.text.size:Int)≤20))=ZhU v.text:=rfl
 rw [htx] at ht
 have hloop:=Xh v.list (fun x=>!(Zp1 x&&b x)) (fun x14=>if (!decide (x14.kind=1))=true then if (!decide (x14.kind=2))=true then if (!decide (x14.kind=3))=true then some true else (ZF k x14).bind fun x16=>some (!x16) else (ZF k x14).bind fun x17=>some (!x17) else (ZF k x14).bind fun x18=>some (!x18)) false () (YB (ZF k) v)
  (fun x h=>by
   rw [hb x h]
   unfold Zp1
   cases decide (x.kind=1)<;>cases decide (x.kind=2)<;>cases decide (x.kind=3)<;>cases b x<;>rfl)
  (fun n i=>by rw [YB]) (by have:=sm.list;omega) (k:=k) (by have:=sm.list;omega)
 rw [ZF]
 simp only [Zrg,ht,hT,hd,JK,Option.bind_some,hloop]
 unfold JO ZdY
 generalize decide ((v.list.length:Int)=0)=L
 generalize decide ((v.columns.length:Int)=0)=C1
 generalize decide ((v.rows.length:Int)=0)=C2
 generalize decide (v.text=(⟨#[]⟩:ByteArray))=T
 generalize decide (v.n=0)=N
 generalize decide (v.step=0)=S
 generalize KS v.n=I
 generalize KS v.step=J
 generalize ZhU v.text=X
 generalize Zam v=Y
 generalize (decide (1≤v.n)&&decide (v.n≤8))=Z
 generalize (v.list.any fun x=>!(Zp1 x&&b x))=A
 generalize decide ((v.list.length:Int)≤8)=B8
 generalize decide (d≤3)=D3
 by_cases h1:v.kind=1
 ·simp only [h1];cases L<;>cases C1<;>cases C2<;>cases T<;>cases S<;>rfl
 by_cases h2:v.kind=2
 ·simp only [h2];cases L<;>cases C1<;>cases C2<;>cases N<;>cases S<;>rfl
 by_cases h3:v.kind=3
 ·simp only [h3];cases L<;>cases A<;>cases B8<;>cases C1<;>cases C2<;>cases T<;>cases N<;>cases S<;>rfl
 by_cases h4:v.kind=4
 ·simp only [h4];cases L<;>cases C1<;>cases C2<;>cases T<;>cases I<;>cases J<;>rfl
 by_cases h5:v.kind=5
 ·simp only [h5];cases L<;>cases C1<;>cases C2<;>cases T<;>cases N<;>cases S<;>rfl
 by_cases h6:v.kind=6
 ·simp only [h6];cases L<;>cases C1<;>cases C2<;>cases T<;>cases S<;>rfl
 simp only [h1,h2,h3,h4,h5,h6,decide_false,if_false]
 cases L<;>cases C1<;>cases C2<;>rfl
structure VOk (v:Za):Prop where
 num:v.kind=1→KS v.n=true
 els:v.kind=3→∀x∈v.list,x.kind=1→KS x.n=true
 tab:v.kind=5→Zam v=true
theorem ZfX:∀v:Za,v.bk≤1048576→∃b:Bool,(b=true→VOk v)∧Ev fun k=>ZK k v=some b∧ZF k v=some b:=by
 refine Za.ind fun v ih hb=> ?_
 have sm:=Za.small hb
 have hl:=sm.list
 obtain ⟨b,hbv⟩:=Kb v.list (p:=fun x (b:Bool)=>(b=true→VOk x)∧Ev fun k=>ZK k x=some b∧ZF k x=some b) fun y hy=>ih y hy (by have:=Za.ZmA hy;omega)
 obtain ⟨d,hd⟩:=Zlo v hb
 have hall:=Ev.all v.list fun x hx=>(hbv x hx).2
 have e1:Ev fun k=>Uj k v=some (ZdY b d v):=((hall.and (hd.and (Ev.ge 1048700))).pred fun k ⟨h1,h2,h3⟩=>Zme b d v hl (by omega) (fun x hx=>(h1 x hx).1) h2.1)
 refine ⟨JO b d v,fun hv=> ?_,((hall.and (hd.and (e1.and (Ev.ge 1048701)))).pred fun k ⟨h1,h2,h3,h4⟩=>⟨Zk0 b d v sm (by omega) fun _=>h3,Zlh b d v sm (by omega) (fun x hx=>(h1 x hx).2) h2.2⟩)⟩
 unfold JO at hv
 refine ⟨fun hk=> ?_,fun hk x hx hk1=> ?_,fun hk=> ?_⟩
 ·simp only [hk] at hv
  simp only [if_true,Bool.and_eq_true] at hv
  exact hv.2
 ·simp only [hk] at hv
  simp [ZdY] at hv
  exact ((hbv x hx).1 (hv.2.1 x hx).2).num hk1
 ·simp only [hk] at hv
  simp at hv
  exact hv.2
end Go.Proofs.YtfapaeabfcogkaaGreatDoor
namespace Go.Proofs.YtfapaeabfcogkaaGreatDoor
open Go.RowKit Am
theorem Zq.Zrb (r:Zq):r.cells.length≤r.bk∧r.from_.length≤r.bk:=by
 have h2:=r.ZZ
 have h3:=YL (f:=fun _:Int=>0) (xs:=r.cells)
 have h4:=YL (f:=fun _:Zc=>0) (xs:=r.from_)
 constructor<;>omega
theorem Zmc (r:Zq) (h:r.bk≤1073741824):Zdf r=some r:=by
 obtain ⟨h1,h2⟩:=r.Zrb
 unfold Zdf
 rw [ZbZ (by simp;omega) (by omega),Option.bind_some,ZbZ (by simp;omega) (by omega)];rfl
theorem ZmG (r:Zq) (h:r.bk≤1073741824):JZ r=some r:=by
 obtain ⟨h1,h2⟩:=r.Zrb
 unfold JZ
 rw [ZbZ (by simp;omega) (by omega),Option.bind_some,ZbZ (by simp;omega) (by omega)];rfl
structure ZtQ (v:Za):Prop where
 list:v.list.length≤v.bk
 cols:v.columns.length≤v.bk
 rows:v.rows.length≤v.bk
 text:v.text.size≤v.bk
 row:∀r∈v.rows,r.bk≤v.bk
 el:∀x∈v.list,x.bk≤v.bk
 col:∀s∈v.columns,s.size≤v.bk
theorem Za.ZpC (v:Za):ZtQ v:=by
 have e:=v.ZZ
 have l1:=YL (f:=Za.bk) (xs:=v.list)
 have l2:=YL (f:=ByteArray.size) (xs:=v.columns)
 have l3:=YL (f:=Zq.bk) (xs:=v.rows)
 exact ⟨by omega,by omega,by omega,by omega,fun r hr=>by have:=QF (f:=Zq.bk) hr;omega,fun r hr=>by have:=QF (f:=Za.bk) hr;omega,fun r hr=>by have:=QF (f:=ByteArray.size) hr;omega⟩
theorem ZeO:∀v:Za,v.bk≤1073741824→Ev fun k=>Ww k v=some v:=by
 refine Za.ind fun v ih hb=> ?_
 have l:=v.ZpC
 have:=l.list;have:=l.cols;have:=l.rows
 refine ((Ev.all v.list fun y hy=>ih y hy (by have:=l.el y hy;omega)).and (Ev.ge (v.list.length+v.rows.length+2))).pred ?_
 rintro k ⟨hx,hk⟩
 rw [Ww,ZbZ (by simp;omega) (by omega),Option.bind_some,
  Zc1 112 (by omega) v.list (Ww k) (X4 (Ww k) v) hx (fun n out i=>by rw [X4]) (by omega) (by omega),Option.bind_some,
  Zc1 48 (by omega) v.rows Zdf (X3 v) (fun r hr=>Zmc r (by have:=l.row r hr;omega)) (fun n out i=>by rw [X3]) (by omega) (by omega)]
 simp only [Option.bind_some,List.nil_append]
 cases v;rfl
theorem Zfc:∀v:Za,v.bk≤1073741824→Ev fun k=>YK k v=some v:=by
 refine Za.ind fun v ih hb=> ?_
 have l:=v.ZpC
 have:=l.list;have:=l.cols;have:=l.rows
 refine Ev.pred (p:=fun k=>YK (k+1) v=some v) (((Ev.all v.list fun y hy=>ih y hy (by have:=l.el y hy;omega)).and (Ev.ge (v.list.length+v.rows.length+2))).pred ?_) fun k h=>h
 rintro k ⟨hx,hk⟩
 rw [YK,W3,
  Zc1 112 (by omega) v.list (YK k) (Y4 (YK k) v.list) hx (fun n out i=>by rw [Y4]) (by omega) (by omega),Option.bind_some,Option.bind_some,
  ZbZ (by simp;omega) (by omega),Option.bind_some,
  Zc1 48 (by omega) v.rows JZ (Qt v) (fun r hr=>ZmG r (by have:=l.row r hr;omega)) (fun n out i=>by rw [Qt]) (by omega) (by omega)]
 simp only [Option.bind_some,List.nil_append]
 cases v;rfl
end Go.Proofs.YtfapaeabfcogkaaGreatDoor
namespace Go.Proofs.YtfapaeabfcogkaaGreatDoor
open Go.RowKit Am
def spl (sep t:ByteArray):List ByteArray:=Lib.splitB sep 0 (Lib.countB t sep) t
theorem ZmX {a b:ByteArray} (h:a.data.toList=b.data.toList):a=b:=ByteArray.ext (Array.toList_inj.1 h)
theorem Zl4 (sep:ByteArray):∀(k:Nat) (s:ByteArray) (x:ByteArray),x∈Lib.splitB sep 0 k s→x.size≤s.size
 | 0,s,x,h=>by simp [Lib.splitB] at h;simp [h]
 | k+1,s,x,h=>by
  unfold Lib.splitB at h
  split at h
  ·simp at h;simp [h]
  ·rcases List.mem_cons.1 h with rfl| h
   ·rw [ByteArray.size_extract];omega
   ·have:=Zl4 sep k _ x h
    rw [ByteArray.size_extract] at this;omega
theorem Zj1 {sep t x:ByteArray} (h:x∈spl sep t):x.size≤t.size:=Zl4 sep _ t x h
theorem ZgN (sep t:ByteArray) (h1:1≤sep.size):1≤(spl sep t).length∧(spl sep t).length≤t.size+1:=by
 have h2:=Lib.splitB_all sep h1 0 _ t rfl
 have h3:=Lib.countB_le sep h1 _ t (Nat.le_refl _)
 unfold spl
 omega
theorem Zl5 (s sep:ByteArray) (h1:1≤sep.size) {fr i:Nat} (hf:fr≤i) (hi:i+sep.size≤s.size) (ho:Lib.occAt s.data.toList sep.data.toList i=true) (hn:∀j,fr≤j→j<i→Lib.occAt s.data.toList sep.data.toList j=false):
  spl sep (s.extract fr s.size)=s.extract fr i::spl sep (s.extract (i+sep.size) s.size):=by
 have tl:=Lib.extract_to_end s fr
 have hsz:=Lib.size_eq s
 have occ:∀j,Lib.occAt (s.data.toList.drop fr) sep.data.toList j=Lib.occAt s.data.toList sep.data.toList (fr+j):=fun j=>by unfold Lib.occAt;rw [List.drop_drop]
 have idx:Lib.indexB (s.extract fr s.size) sep=((i-fr:Nat):Int):=by
  show Lib.index _ _=_
  rw [tl]
  refine Lib.index_first (by rw [List.length_drop];omega) ?_ fun j hj=> ?_
  ·rw [occ,show fr+(i-fr)=i by omega];exact ho
  ·rw [occ];exact hn _ (by omega) (by omega)
 have cnt:=Lib.countB_hit _ sep (i-fr) h1 idx
 have e2:(s.extract fr s.size).extract (i-fr+sep.size) (s.extract fr s.size).size=s.extract (i+sep.size) s.size:=by
  apply ZmX
  rw [Lib.extract_to_end,tl,Lib.extract_to_end,List.drop_drop]
  congr 1;omega
 have e1:(s.extract fr s.size).extract 0 (i-fr+0)=s.extract fr i:=by
  apply ZmX
  rw [Lib.extract_data,tl,Lib.extract_data,List.drop_zero]
  congr 1
 unfold spl
 rw [cnt,Nat.add_comm,Lib.splitB_hit sep 0 _ _ (i-fr) idx,e1,e2]
theorem Zj2 (s sep:ByteArray) {fr:Nat} (hn:∀j,fr≤j→Lib.occAt s.data.toList sep.data.toList j=false):spl sep (s.extract fr s.size)=[s.extract fr s.size]:=by
 have idx:Lib.indexB (s.extract fr s.size) sep= -1:=by
  show Lib.index _ _=_
  rw [Lib.extract_to_end]
  refine Lib.index_none fun j _=> ?_
  unfold Lib.occAt
  rw [List.drop_drop]
  exact hn _ (by omega)
 unfold spl
 rw [Lib.splitB_miss _ _ _ _ idx]
theorem Zr5 (l:List UInt8) (c:UInt8) (j:Nat):Lib.occAt l [c] j=decide (l[j]? =some c):=by
 unfold Lib.occAt
 by_cases h:j<l.length
 ·rw [List.drop_eq_getElem_cons h,List.getElem?_eq_getElem h]
  simp [List.isPrefixOf,eq_comm]
  rfl
 ·rw [List.drop_eq_nil_of_le (by omega),List.getElem?_eq_none (by omega)];simp
theorem ZsX (l:List UInt8) (c d:UInt8) (j:Nat):Lib.occAt l [c,d] j=(decide (l[j]? =some c)&&decide (l[j+1]? =some d)):=by
 have:=Zr5 l d (j+1)
 unfold Lib.occAt at this ⊢
 by_cases h:j<l.length
 ·rw [List.drop_eq_getElem_cons h,List.getElem?_eq_getElem h,←this]
  simp only [List.isPrefixOf]
  congr 1
  simp [eq_comm]
  rfl
 ·rw [List.drop_eq_nil_of_le (by omega),List.getElem?_eq_none (by omega)];simp
theorem whole (s:ByteArray):s.extract 0 s.size=s:=by apply ZmX;rw [Lib.extract_to_end];simp
theorem ZkX (s:ByteArray) (hs:s.size≤120) (c:UInt8):∀(m fr i:Nat) (out:List ByteArray) (n:Nat),i+m=s.size+1→fr≤i→(m=0→fr=s.size+1)→out.length≤i→(∀j,fr≤j→j<i→s.data.toList[j]? ≠some c)→m<n→
  YC s (c.toNat:Int) n out fr i=some (out++if fr≤s.size then spl ⟨#[c]⟩ (s.extract fr s.size) else []):=by
 have hsz:=Lib.size_eq s
 have hsep:(⟨#[c]⟩:ByteArray).data.toList=[c]:=rfl
 intro m
 induction m with
 | zero=>
  intro fr i out n hi hf h0 hl hn hm
  obtain ⟨n,rfl⟩:∃n',n=n'+1:=⟨n-1,by omega⟩
  have:=h0 rfl
  rw [YC,if_neg (by simp;omega),if_neg (by omega),List.append_nil]
 | succ m ih=>
  intro fr i out n hi hf h0 hl hn hm
  obtain ⟨n,rfl⟩:∃n',n=n'+1:=⟨n-1,by omega⟩
  rw [YC,if_pos (decide_eq_true (by omega)),if_pos (show fr≤s.size by omega)]
  have hcut:Ui s (fr:Int) (i:Int)=some (s.extract fr i):=ZaP s hs hf (by omega)
  have happ:Wq 16 out [s.extract fr i]=some (out++[s.extract fr i]):=Zd8 (by simp;omega) (by omega)
  by_cases he:i=s.size
  ·subst he
   rw [decide_eq_true (show ((s.size:Nat):Int)=(s.size:Int) from rfl)]
   simp only [if_true,Option.bind_some,hcut,happ]
   rw [wS s.size (by omega),ih (s.size+1) (s.size+1) _ n (by omega) (by omega) (fun _=>rfl) (by simp;omega) (fun j h1 h2=>by omega) (by omega),if_neg (by omega),List.append_nil,Zj2]
   intro j hj
   rw [hsep,Zr5]
   by_cases h2:j<s.size
   ·simpa using hn j hj h2
   ·rw [List.getElem?_eq_none (by omega)];simp
  ·have hlt:i<s.data.toList.length:=by omega
   have hat:at? s.data.toList (i:Int)=some s.data.toList[i]:=Qe hlt
   have hget:s.data.toList[i]? =some s.data.toList[i]:=List.getElem?_eq_getElem hlt
   generalize s.data.toList[i]=d at hat hget
   rw [decide_eq_false (show ¬((i:Int)=(s.size:Int)) by omega)]
   simp only [Bool.false_eq_true,if_false,hat,Option.bind_some]
   have hd:decide ((d.toNat:Int)=(c.toNat:Int))=decide (d=c):=u8i d c
   rw [hd]
   by_cases hdc:d=c
   ·subst hdc
    simp only [decide_true,if_true,hcut,happ,Option.bind_some]
    rw [wS i (by omega),ih (i+1) (i+1) _ n (by omega) (by omega) (fun h=>by omega) (by simp;omega) (fun j h1 h2=>by omega) (by omega),if_pos (by omega)]
    rw [Zl5 s ⟨#[d]⟩ (Nat.le_refl 1) hf (by show i+1≤s.size;omega) (by rw [hsep,Zr5,hget];simp) (fun j h1 h2=>by rw [hsep,Zr5];simpa using hn j h1 h2)]
    rw [List.append_assoc];rfl
   ·rw [decide_eq_false hdc]
    simp only [Bool.false_eq_true,if_false,Option.bind_some]
    rw [wS i (by omega),ih fr (i+1) out n (by omega) (by omega) (fun h=>by omega) (by omega) (fun j h1 h2=>by
     by_cases hj:j=i
     ·subst hj;rw [hget];simpa using hdc
     ·exact hn j h1 (by omega)) (by omega),if_pos (by omega)]
def sp:ByteArray:=⟨#[32]⟩
theorem ZgO (s:ByteArray) (hs:s.size≤120) {k:Nat} (hk:2000≤k):WV k s 32=some (spl sp s):=by
 unfold WV
 have:=ZkX s hs 32 (s.size+1) 0 0 [] k (by omega) (by omega) (by omega) (by simp) (fun j h1 h2=>by omega) (by omega)
 have:YC s 32 k [] 0 0=some ([]++if 0≤s.size then spl sp (s.extract 0 s.size) else []):=this
 rw [this,if_pos (by omega),whole];rfl
theorem Zg9 (s:ByteArray) (hs:s.size≤120):WW s 32=some (spl sp s):=by
 unfold WW YZ
 have e:ZjC [32]=sp:=by decide
 rw [e,if_pos ⟨by omega,by decide⟩];rfl
def ZkY:ByteArray:=⟨#[59,32]⟩
theorem Zk6 (s:ByteArray) (hs:s.size≤120):∀(m fr i:Nat) (out:List ByteArray),i+m=s.size→fr≤i→out.length≤i→(∀j,fr≤j→j<i→Lib.occAt s.data.toList ZkY.data.toList j=false)→
  ∃ps f2,f2≤s.size∧out.length+ps.length≤s.size∧ps++[s.extract f2 s.size]=spl ZkY (s.extract fr s.size)∧∀n,m<n→ZV s n out fr i=some (out++ps,(f2:Int)):=by
 have hsz:=Lib.size_eq s
 have hsep:ZkY.data.toList=[59,32]:=rfl
 intro m
 induction m using Nat.strongRecOn with
 | _ m ih=>
 intro fr i out hi hf hl hn
 by_cases hlt:i+1<s.size
 ·have hl0:i<s.data.toList.length:=by omega
  have hl1:i+1<s.data.toList.length:=by omega
  have hat:at? s.data.toList (i:Int)=some s.data.toList[i]:=Qe hl0
  have hat1:at? s.data.toList ((i+1:Nat):Int)=some s.data.toList[i+1]:=Qe hl1
  have hget:s.data.toList[i]? =some s.data.toList[i]:=List.getElem?_eq_getElem hl0
  have hget1:s.data.toList[i+1]? =some s.data.toList[i+1]:=List.getElem?_eq_getElem hl1
  generalize s.data.toList[i]=c at hat hget
  generalize s.data.toList[i+1]=d at hat1 hget1
  have hc:decide ((c.toNat:Int)=59)=decide (c=59):=u8i c 59
  have hd:decide ((d.toNat:Int)=32)=decide (d=32):=u8i d 32
  have step:∀n,ZV s (n+1) out fr i=(if (decide (c=59)&&decide (d=32))=true then (Ui s fr i).bind fun x11=>(Wq 16 out [x11]).bind fun x12=>ZV s n x12 ((i+2:Nat):Int) ((i+1:Nat):Int) else ZV s n out fr ((i+1:Nat):Int)):=by
   intro n
   rw [ZV,wS i (by omega),if_pos (decide_eq_true (by omega)),hat,hat1]
   simp only [Option.bind_some,hc,hd]
   rw [show IntKind.i64.wrap ((i:Int)+2)=((i+2:Nat):Int) by rw [w64 (by omega) (by omega)];rfl]
   cases decide (c=59)
   ·simp
   ·cases decide (d=32)
    ·simp
    ·simp only [if_true,Bool.and_self,Option.bind_some]
     cases Ui s fr i with
     | none=>rfl
     | some x=>simp only [Option.bind_some];cases Wq 16 out [x]<;>rfl
  have hcut:Ui s (fr:Int) (i:Int)=some (s.extract fr i):=ZaP s hs hf (by omega)
  have happ:Wq 16 out [s.extract fr i]=some (out++[s.extract fr i]):=Zd8 (by simp;omega) (by omega)
  by_cases hh:c=59∧d=32
  ·obtain ⟨rfl,rfl⟩:=hh
   have ho:Lib.occAt s.data.toList ZkY.data.toList i=true:=by rw [hsep,ZsX,hget,hget1];simp
   have hspl:=Zl5 s ZkY (by decide) hf (by show i+2≤s.size;omega) ho hn
   have hspl:spl ZkY (s.extract fr s.size)=s.extract fr i::spl ZkY (s.extract (i+2) s.size):=hspl
   obtain ⟨ps,f2,a1,a2,a3,a4⟩:=ih (m-2) (by omega) (i+2) (i+2) (out++[s.extract fr i]) (by omega) (by omega) (by simp;omega) (fun j h1 h2=>by omega)
   refine ⟨s.extract fr i::ps,f2,a1,by simp at a2 ⊢;omega,by rw [hspl,←a3];rfl,fun n hm=> ?_⟩
   obtain ⟨n,rfl⟩:∃n',n=n'+2:=⟨n-2,by omega⟩
   rw [step (n+1)]
   simp only [decide_true,Bool.and_self,if_true,hcut,happ,Option.bind_some]
   by_cases h2:i+2<s.size
   ·have hl2:i+1+1<s.data.toList.length:=by omega
    rw [ZV,wS (i+1) (by omega),if_pos (decide_eq_true (by omega)),hat1]
    simp only [Option.bind_some]
    rw [show (decide (((32:UInt8).toNat:Int)=59))=false from rfl]
    simp only [Bool.false_eq_true,if_false,Option.bind_some]
    rw [a4 n (by omega)]
    simp
   ·have:=a4 (n+1) (by omega)
    rw [ZV,wS (i+2) (by omega),if_neg (by simp;omega)] at this
    rw [ZV,wS (i+1) (by omega),if_neg (by simp;omega)]
    rw [this];simp
  ·have hno:(decide (c=59)&&decide (d=32))=false:=by
    by_cases h1:c=59
    ·have:d≠32:=fun h=>hh ⟨h1,h⟩
     simp [this]
    ·simp [h1]
   obtain ⟨ps,f2,a1,a2,a3,a4⟩:=ih (m-1) (by omega) fr (i+1) out (by omega) (by omega) (by omega) (fun j h1 h2=>by
    by_cases hj:j=i
    ·subst hj;rw [hsep,ZsX,hget,hget1];simpa using hno
    ·exact hn j h1 (by omega))
   refine ⟨ps,f2,a1,a2,a3,fun n hm=> ?_⟩
   obtain ⟨n,rfl⟩:∃n',n=n'+1:=⟨n-1,by omega⟩
   rw [step n,hno]
   simp only [Bool.false_eq_true,if_false]
   exact a4 n (by omega)
 ·refine ⟨[],fr,by omega,by simp;omega, ?_,fun n hm=> ?_⟩
  ·rw [Zj2,List.nil_append]
   intro j hj
   by_cases h2:j<i
   ·exact hn j hj h2
   ·rw [hsep,ZsX,List.getElem?_eq_none (show s.data.toList.length≤j+1 by omega)];simp
  ·obtain ⟨n,rfl⟩:∃n',n=n'+1:=⟨n-1,by omega⟩
   rw [ZV,wS i (by omega),if_neg (by simp;omega),List.append_nil]
theorem Zmd (s:ByteArray) (hs:s.size≤120) {k:Nat} (hk:2000≤k):Ut k s=some (spl ZkY s):=by
 obtain ⟨ps,f2,a1,a2,a3,a4⟩:=Zk6 s hs s.size 0 0 [] (by omega) (by omega) (by simp) (fun j h1 h2=>by omega)
 unfold Ut
 have:=a4 k (by omega)
 have:ZV s k [] 0 0=some ([]++ps,(f2:Int)):=this
 rw [this]
 simp only [Option.bind_some,List.nil_append]
 rw [ZaP s hs a1 (Nat.le_refl _)]
 simp only [Option.bind_some]
 rw [Zd8 (by simp at a2 ⊢;omega) (by omega),a3,whole];rfl
theorem ZmH (s:ByteArray) (hs:s.size≤120):YZ s (⟨#[59,32]⟩:ByteArray)=some (spl ZkY s):=by
 unfold YZ
 rw [if_pos ⟨by omega,by decide⟩];rfl
def ZeY:List ByteArray→Option (List Int)
 | []=>some []
 | w::ws=>if (Xu w (-1000000000) 1000000000).2=true then (ZeY ws).map fun ns=>(Xu w (-1000000000) 1000000000).1::ns else none
theorem Zia:∀{ws:List ByteArray} {ns:List Int},ZeY ws=some ns→ns.length=ws.length
 | [],ns,h=>by simp [ZeY] at h;simp [←h]
 | w::ws,ns,h=>by
  unfold ZeY at h
  split at h
  ·obtain ⟨ms,h1,rfl⟩:=Option.map_eq_some_iff.1 h
   simp [Zia h1]
  ·cases h
theorem Znx (ws:List ByteArray) (hl:ws.length≤1000) (hs:∀w∈ws,w.size≤120):∀(m i:Nat) (out:List Int),i+m=ws.length→out.length≤i→
  (∀ns,ZeY (ws.drop i)=some ns→∀k n,2000≤k→m<n→YH k ws n out i=some (.inl (out++ns))∧Yo ws n out i=some (.inl (out++ns)))∧
  (ZeY (ws.drop i)=none→∃r,r.length≤ws.length∧∀k n,2000≤k→m<n→YH k ws n out i=some (.inr (r,false))∧Yo ws n out i=some (.inr ([],false))):=by
 intro m
 induction m with
 | zero=>
  intro i out hi hlo
  rw [List.drop_eq_nil_of_le (by omega)]
  refine ⟨fun ns h k n hk hn=> ?_,fun h=>by cases h⟩
  obtain rfl:ns=[]:=by simpa [ZeY] using h.symm
  obtain ⟨n,rfl⟩:∃n',n=n'+1:=⟨n-1,by omega⟩
  rw [YH,Yo,if_neg (Vi (by omega)),if_neg (Vi (by omega)),List.append_nil]
  exact ⟨rfl,rfl⟩
 | succ m ih=>
  intro i out hi hlo
  have hlt:i<ws.length:=by omega
  have hat:at? ws (i:Int)=some ws[i]:=Qe hlt
  have hw:=hs ws[i] (List.getElem_mem hlt)
  rw [List.drop_eq_getElem_cons hlt]
  generalize ws[i]=w at hat hw
  have hp:ZaF w (-1000000000) 1000000000=some (Xu w (-1000000000) 1000000000):=by unfold ZaF;rw [if_pos (by omega)]
  have hr:=Zf8 w (-1000000000) 1000000000 (by omega) (by omega)
  have hb:∀k,2000≤k→((Wz k w).bind fun x6=>(if (!x6.2)=true then some true else (Y7 x6.1).bind fun x8=>some (!x8)).bind fun x7=>some (x6.1,x7))=some ((V1 w).1,!(Xu w (-1000000000) 1000000000).2):=by
   intro k hk
   rw [ZeV w (by omega) (by omega),hr]
   simp only [Option.bind_some]
   generalize V1 w=rv
   cases h2:rv.2 with
   | false=>simp
   | true=>
    simp only [Bool.not_true,Bool.false_eq_true,if_false,true_and]
    unfold Y7
    rw [Zdo]
    simp only [Option.bind_some]
    by_cases h3: -1000000000≤rv.1∧rv.1≤1000000000
    ·rw [if_pos h3];simp [h3.1,h3.2]
    ·rw [if_neg h3]
     have:(decide (-1000000000≤rv.1)&&decide (rv.1≤1000000000))=false:=by
      by_cases h4: -1000000000≤rv.1
      ·have:¬rv.1≤1000000000:=fun h=>h3 ⟨h4,h⟩
       simp [this]
      ·simp [h4]
     rw [this]
  have sstep:∀k n,2000≤k→YH k ws (n+1) out i=(if (!(Xu w (-1000000000) 1000000000).2)=true then some (.inr (out,false)) else (Wq 8 out [(V1 w).1]).bind fun x9=>YH k ws n x9 ((i+1:Nat):Int)):=by
   intro k n hk
   have:=hb k hk
   rw [YH,if_pos (Yp hlt),hat,wS i (by omega)]
   simp only [Option.bind_some]
   cases hq:Wz k w with
   | none=>rw [hq] at this;cases this
   | some x6=>
    rw [hq] at this
    simp only [Option.bind_some] at this ⊢
    cases hq2:(if (!x6.2)=true then some true else (Y7 x6.1).bind fun x8=>some (!x8)) with
    | none=>rw [hq2] at this;cases this
    | some x7=>
     rw [hq2] at this
     simp only [Option.bind_some,Option.some.injEq,Prod.mk.injEq] at this ⊢
     rw [this.2,this.1]
  have istep:∀n,Yo ws (n+1) out i=(if (!(Xu w (-1000000000) 1000000000).2)=true then some (.inr ([],false)) else (Wq 8 out [(Xu w (-1000000000) 1000000000).1]).bind fun x7=>Yo ws n x7 ((i+1:Nat):Int)):=by
   intro n
   rw [Yo,if_pos (Yp hlt),hat,wS i (by omega)]
   simp only [Option.bind_some,hp]
  unfold ZeY
  cases hv:(Xu w (-1000000000) 1000000000).2 with
  | false=>
   rw [hv] at sstep istep
   refine ⟨fun ns h=>by simp at h,fun _=>⟨out,by omega,fun k n hk hn=> ?_⟩⟩
   obtain ⟨n,rfl⟩:∃n',n=n'+1:=⟨n-1,by omega⟩
   exact ⟨by rw [sstep k n hk];rfl,by rw [istep n];rfl⟩
  | true=>
   rw [hv] at sstep istep
   have e1:(Xu w (-1000000000) 1000000000).1=(V1 w).1:=by
    rw [hr] at hv ⊢
    split
    ·rfl
    ·rename_i h;rw [if_neg h] at hv;cases hv
   have ha:Wq 8 out [(V1 w).1]=some (out++[(V1 w).1]):=Zd8 (by simp;omega) (by omega)
   obtain ⟨g1,g2⟩:=ih (i+1) (out++[(V1 w).1]) (by omega) (by simp;omega)
   simp only [if_true]
   refine ⟨fun ns h=> ?_,fun h=> ?_⟩
   ·obtain ⟨ms,h1,rfl⟩:=Option.map_eq_some_iff.1 h
    intro k n hk hn
    obtain ⟨n,rfl⟩:∃n',n=n'+1:=⟨n-1,by omega⟩
    obtain ⟨q1,q2⟩:=g1 ms h1 k n hk (by omega)
    rw [sstep k n hk,istep n,e1,ha]
    simp only [Bool.not_true,Bool.false_eq_true,if_false,Option.bind_some,q1,q2]
    simp
   ·have h1:ZeY (ws.drop (i+1))=none:=by
     cases hx:ZeY (ws.drop (i+1)) with
     | none=>rfl
     | some ms=>rw [hx] at h;cases h
    obtain ⟨r,r0,r1⟩:=g2 h1
    refine ⟨r,r0,fun k n hk hn=> ?_⟩
    obtain ⟨n,rfl⟩:∃n',n=n'+1:=⟨n-1,by omega⟩
    obtain ⟨q1,q2⟩:=r1 k n hk (by omega)
    rw [sstep k n hk,istep n,e1,ha]
    simp only [Bool.not_true,Bool.false_eq_true,if_false,Option.bind_some,q1,q2]
    exact ⟨trivial,trivial⟩
theorem Zq0 (s:ByteArray) (hs:s.size≤120) (c:Int):∃(rs ri:List Int) (b:Bool),(b=true→rs=ri)∧ri.length≤121∧∀k,2000≤k→Jk k s c=some (rs,b)∧V3 k s c=some (ri,b):=by
 obtain ⟨l1,l2⟩:=ZgN sp s (by decide)
 obtain ⟨g1,g2⟩:=Znx (spl sp s) (by omega) (fun w hw=>by have:=Zj1 hw;omega) (spl sp s).length 0 [] (by omega) (by simp)
 rw [List.drop_zero] at g1 g2
 cases hv:ZeY (spl sp s) with
 | some ns=>
  have hl:=Zia hv
  refine ⟨ns,ns,decide ((ns.length:Int)=c),fun _=>rfl,by omega,fun k hk=> ?_⟩
  obtain ⟨q1,q2⟩:=g1 ns hv k k hk (by omega)
  have q1:YH k (spl sp s) k [] 0=some (.inl ([]++ns)):=q1
  have q2:Yo (spl sp s) k [] 0=some (.inl ([]++ns)):=q2
  constructor
  ·unfold Jk;rw [ZgO s hs hk];simp only [Option.bind_some];rw [q1];rfl
  ·unfold V3;rw [Zg9 s hs];simp only [Option.bind_some];rw [q2];rfl
 | none=>
  obtain ⟨r,r0,r1⟩:=g2 hv
  refine ⟨r,[],false,fun h=>(by cases h),by simp,fun k hk=> ?_⟩
  obtain ⟨q1,q2⟩:=r1 k k hk (by omega)
  have q1:YH k (spl sp s) k [] 0=some (.inr (r,false)):=q1
  have q2:Yo (spl sp s) k [] 0=some (.inr ([],false)):=q2
  constructor
  ·unfold Jk;rw [ZgO s hs hk];simp only [Option.bind_some];rw [q1];rfl
  ·unfold V3;rw [Zg9 s hs];simp only [Option.bind_some];rw [q2];rfl
end Go.Proofs.YtfapaeabfcogkaaGreatDoor
namespace Go.Proofs.YtfapaeabfcogkaaGreatDoor
open Go.RowKit Am
def cix (nb:Ze) (id:Int):Int:=Zll (fun x:Zj=>decide (x.id=id)) nb.cells
theorem Zbw (nb:Ze) (id:Int) (hl:nb.cells.length≤4294967296) {k:Nat} (hk:nb.cells.length<k):Wd k nb id=some (cix nb id):=by
 unfold Wd cix Zll
 rw [Zio nb.cells (fun x=>decide (x.id=id)) (Yb nb id) (fun i=>some (.inr (i:Int))) (some (.inl ()))
  (fun n i h hp=>by rw [Yb,if_pos (Yp h),Qe h,Option.bind_some,if_neg (by simpa using hp),wS i (by omega)])
  (fun n i h hp=>by rw [Yb,if_pos (Yp h),Qe h,Option.bind_some,if_pos hp])
  (fun n=>by rw [Yb,if_neg (Vi (Nat.le_refl _))]) hk]
 split<;>rfl
theorem ZfO (nb:Ze) (id:Int) (hl:nb.cells.length≤4294967296) {k:Nat} (hk:nb.cells.length<k):WX k nb id=some (cix nb id):=by
 rw [Zfg];exact Zbw nb id hl hk
theorem Zq9 (nb:Ze):nb.cells.length≤nb.bk:=by rw [Ze.ZZ];have:=YL (f:=Zj.bk) (xs:=nb.cells);omega
end Go.Proofs.YtfapaeabfcogkaaGreatDoor
namespace Go.Proofs.YtfapaeabfcogkaaGreatDoor
open Go.RowKit Am
def ZrN (c:UInt8):Bool:=decide ((c.toNat:Int)<32)||decide (126<(c.toNat:Int))
def Zdi (s:ByteArray):Bool:=!(s.data.toList.any ZrN)&&decide ((s.size:Int)≤120)
theorem ZeP (s:ByteArray) (hs:(s.size:Int)≤9223372036854775807) {k:Nat} (hk:s.size<k):XD k s=some (Zdi s):=by
 have hT:∀x∈s.data.toList,(fun c:UInt8=>(if (decide ((c.toNat:Int)<32))=true then some true else some (decide (126<(c.toNat:Int))):Option Bool)) x=some (ZrN x):=by
  intro x _
  unfold ZrN
  simp only
  cases decide ((x.toNat:Int)<32)<;>simp
 unfold XD Zdi
 rw [Xh s.data.toList ZrN _ false () (Ya s) hT (fun n i=>by rw [Ya,Qy];simp only [Option.bind_assoc]) (by rw [Qy];exact hs) (by rw [Qy];exact hk)]
 cases s.data.toList.any ZrN<;>simp
theorem Zjs (s:ByteArray) (hs:(s.size:Int)≤9223372036854775807) {k:Nat} (hk:s.size<k):WH k s=some (Zdi s):=by
 rw [Zdr];exact ZeP s hs hk
def Kc (c:Zj):Bool:=
 ((decide (1≤c.id)&&decide (c.id≤999))&&(decide (1≤c.version)&&decide (c.version≤999))&&Zdi c.code)&&
   (if c.kind=1 then decide (c.name=(⟨#[]⟩:ByteArray))&&decide (c.n=0)
    else if c.kind=2∨c.kind=4 then WN c.name&&decide (c.n=0)
    else if c.kind=3 then WN c.name&&(decide (c.code=(⟨#[]⟩:ByteArray))&&(decide (0≤c.n)&&decide (c.n≤100)))
    else false)
theorem ZeG (c:Zj) (hc:c.bk≤1048576) {k:Nat} (hk:1048600<k):Qh k c=some (Kc c)∧Qi k c=some (Kc c):=by
 have e:=Zj.ZZ c
 obtain ⟨n1,n2⟩:=UE c.name (by omega) (show c.name.size<k by omega) (by omega)
 have p1:=ZeP c.code (by omega) (show c.code.size<k by omega)
 have p2:=Zjs c.code (by omega) (show c.code.size<k by omega)
 unfold Qh Qi Kc
 rw [n1,n2,p1,p2]
 simp only [Zdo,JK,Option.bind_some]
 generalize (decide (1≤c.id)&&decide (c.id≤999))=A
 generalize (decide (1≤c.version)&&decide (c.version≤999))=B
 generalize Zdi c.code=C
 generalize WN c.name=D
 generalize decide (c.name=(⟨#[]⟩:ByteArray))=E
 generalize decide (c.code=(⟨#[]⟩:ByteArray))=F
 generalize (decide (0≤c.n)&&decide (c.n≤100))=G
 generalize decide (c.n=0)=H
 by_cases h1:c.kind=1
 ·simp only [h1,decide_true,if_true]
  cases A<;>cases B<;>cases C<;>cases E<;>cases H<;>exact ⟨rfl,rfl⟩
 by_cases h2:c.kind=2
 ·simp only [h2]
  cases A<;>cases B<;>cases C<;>cases D<;>cases H<;>exact ⟨rfl,rfl⟩
 by_cases h4:c.kind=4
 ·simp only [h4]
  cases A<;>cases B<;>cases C<;>cases D<;>cases H<;>exact ⟨rfl,rfl⟩
 by_cases h3:c.kind=3
 ·simp only [h3]
  cases A<;>cases B<;>cases C<;>cases D<;>cases F<;>cases G<;>exact ⟨rfl,rfl⟩
 simp only [h1,h2,h3,h4,decide_false,if_false,or_self]
 cases A<;>cases B<;>cases C<;>exact ⟨rfl,rfl⟩
def ZbV (nb:Ze) (j:Nat) (c:Zj):Bool:=!Kc c||!decide (cix nb c.id=(j:Int))
def Zqy (nb:Ze):Bool:=!anyI (ZbV nb) 0 nb.cells&&decide ((nb.cells.length:Int)≤8)
theorem ZgG (nb:Ze) (hb:nb.bk≤1048576) {k:Nat} (hk:1048600<k):Xd k nb=some (Zqy nb)∧Xf k nb=some (Zqy nb):=by
 have e:=Ze.ZZ nb
 have hl:=Zq9 nb
 have hc:∀j (h:j<nb.cells.length),Qh k nb.cells[j]=some (Kc nb.cells[j])∧Qi k nb.cells[j]=some (Kc nb.cells[j]):=fun j h=>by
  have:=QF (f:=Zj.bk) (List.getElem_mem h)
  exact ZeG _ (by omega) hk
 constructor
 ·unfold Xd Zqy
  rw [Uw nb.cells (ZbV nb) (fun i x3=>(Qh k x3).bind fun x4=>if (!x4)=true then some true else (Wd k nb x3.id).bind fun x5=>some (!decide (x5=i))) false () (Z4 k nb)
   (fun j h=>by rw [(hc j h).1,Zbw nb _ (by omega) (by omega)];unfold ZbV;simp only [Option.bind_some];cases Kc nb.cells[j]<;>simp)
   (fun n i=>by rw [Z4];simp only [Option.bind_assoc]) (by omega) (by omega)]
  cases anyI (ZbV nb) 0 nb.cells<;>simp
 ·unfold Xf Zqy
  rw [Uw nb.cells (ZbV nb) (fun i x3=>(Qi k x3).bind fun x4=>if (!x4)=true then some true else (WX k nb x3.id).bind fun x5=>some (!decide (x5=i))) false () (Z5 k nb)
   (fun j h=>by rw [(hc j h).2,ZfO nb _ (by omega) (by omega)];unfold ZbV;simp only [Option.bind_some];cases Kc nb.cells[j]<;>simp)
   (fun n i=>by rw [Z5]) (by omega) (by omega)]
  cases anyI (ZbV nb) 0 nb.cells<;>simp
end Go.Proofs.YtfapaeabfcogkaaGreatDoor
namespace Go.Proofs.YtfapaeabfcogkaaGreatDoor
open Go.RowKit Am
theorem ZlY (s:ByteArray) (hs:s.size≤120):∀(m a:Nat) (out:List Zi),a≤s.size→s.size-a≤m→out.length≤60→(∀t∈out,WFt t)→
  ∃r,(∀k n,2000≤k→m<n→ZW k s n out a=some r∧ZX k s n out a=some r)∧(∀o,r= .inl o→o.length≤60∧∀t∈o,WFt t)∧∀z,r= .inr z→0≤z.2:=by
 have hsz:=Znq s hs
 have stop:∀(m a:Nat) (out:List Zi),s.size≤a→out.length≤60→(∀t∈out,WFt t)→
   ∃r,(∀k n,2000≤k→m<n→ZW k s n out a=some r∧ZX k s n out a=some r)∧(∀o,r= .inl o→o.length≤60∧∀t∈o,WFt t)∧∀z,r= .inr z→0≤z.2:=by
  intro m a out ha hl hw
  refine ⟨.inl out,fun k n hk hn=> ?_,(fun o e=>by cases e;exact ⟨hl,hw⟩),fun z e=>by cases e⟩
  obtain ⟨n,rfl⟩:∃n',n=n'+1:=⟨n-1,by omega⟩
  exact ⟨by rw [ZW,if_neg (Vi (by omega))],by rw [ZX,if_neg (Vi (by omega))]⟩
 intro m
 induction m with
 | zero=>intro a out ha hm hl hw;exact stop 0 a out (by omega) hl hw
 | succ m ih=>
  intro a out ha hm hl hw
  by_cases hlt:a<s.size
  ·have hla:a<s.data.toList.length:=by omega
   have hat:at? s.data.toList (a:Int)=some s.data.toList[a]:=Qe hla
   generalize s.data.toList[a]=c at hat
   by_cases h32:(c.toNat:Int)=32
   ·obtain ⟨r,r1,r2,r3⟩:=ih (a+1) out (by omega) (by omega) hl hw
    refine ⟨r,fun k n hk hn=> ?_,r2,r3⟩
    obtain ⟨n,rfl⟩:∃n',n=n'+1:=⟨n-1,by omega⟩
    rw [ZW,ZX,if_pos (Yp hlt),if_pos (Yp hlt),hat]
    simp only [Option.bind_some]
    rw [if_pos (decide_eq_true h32),if_pos (decide_eq_true h32),wS a (by omega)]
    exact r1 k n hk (by omega)
   ·have start:∀k n,ZW k s (n+1) out a=((Q9 k s a).bind fun x5=>(if (decide (x5.2=0))=true then some true else some (decide ((out.length:Int)=60))).bind fun x6=>if x6=true then some (.inr (([]:List Zi),(a:Int))) else (Wq 40 out [x5.1]).bind fun x7=>ZW k s n x7 (IntKind.i64.wrap ((a:Int)+x5.2)))∧
      ZX k s (n+1) out a=((Qd k s a).bind fun x5=>(if (!x5.2.2)=true then some true else some (decide ((out.length:Int)=60))).bind fun x6=>if x6=true then some (.inr (([]:List Zi),(a:Int))) else (Wq 40 out [x5.1]).bind fun x7=>ZX k s n x7 x5.2.1):=by
     intro k n
     rw [ZW,ZX,if_pos (Yp hlt),if_pos (Yp hlt),hat]
     simp only [Option.bind_some]
     rw [if_neg (by simpa using h32),if_neg (by simpa using h32)]
     exact ⟨rfl,rfl⟩
    rcases ZqP s hs a hlt with ⟨t,e,h1,h2,h3,h4⟩| ⟨t,t',e,h4⟩
    ·by_cases h60:out.length=60
     ·refine ⟨.inr ([],a),fun k n hk hn=> ?_,(fun o e=>by cases e),fun z e=>by cases e;show (0:Int)≤a;omega⟩
      obtain ⟨n,rfl⟩:∃n',n=n'+1:=⟨n-1,by omega⟩
      obtain ⟨q1,q2⟩:=h4 k hk
      rw [(start k n).1,(start k n).2,q1,q2]
      have hd:decide ((out.length:Int)=60)=true:=by simp;omega
      simp [hd]
     ·obtain ⟨r,r1,r2,r3⟩:=ih e (out++[t]) h2 (by omega) (by simp;omega) (fun t' ht=>by
       rcases List.mem_append.1 ht with ht| ht
       ·exact hw t' ht
       ·simp at ht;rw [ht];exact h3)
      refine ⟨r,fun k n hk hn=> ?_,r2,r3⟩
      obtain ⟨n,rfl⟩:∃n',n=n'+1:=⟨n-1,by omega⟩
      obtain ⟨q1,q2⟩:=h4 k hk
      have hd:decide ((out.length:Int)=60)=false:=by simp;omega
      have hd2:decide ((((e-a:Nat):Int))=0)=false:=by simp;omega
      rw [(start k n).1,(start k n).2,q1,q2]
      simp only [Option.bind_some,Bool.not_true,Bool.false_eq_true,if_false,hd,hd2]
      rw [Zd8 (by simp;omega) (by omega)]
      simp only [Option.bind_some]
      rw [show IntKind.i64.wrap ((a:Int)+((e-a:Nat):Int))=(e:Int) by rw [w64 (by omega) (by omega)];omega]
      exact r1 k n hk (by omega)
    ·refine ⟨.inr ([],a),fun k n hk hn=> ?_,(fun o e=>by cases e),fun z e=>by cases e;show (0:Int)≤a;omega⟩
     obtain ⟨n,rfl⟩:∃n',n=n'+1:=⟨n-1,by omega⟩
     obtain ⟨q1,q2⟩:=h4 k hk
     rw [(start k n).1,(start k n).2,q1,q2]
     simp
  ·exact stop _ a out (by omega) hl hw
theorem Zi1 (s:ByteArray):∃(T:List Zi) (b:Int),(b<0→b= -1∧s.size≤120∧Zd9 T s.size)∧∀k,2000≤k→VD k s=some (T,b)∧VL k s=some (T,b):=by
 by_cases hs:s.size≤120
 ·obtain ⟨r,h1,h2,h3⟩:=ZlY s hs s.size 0 [] (by omega) (by omega) (by simp) (by simp)
  cases r with
  | inl T=>
   obtain ⟨g1,g2⟩:=h2 T rfl
   refine ⟨T, -1,fun _=>⟨rfl,hs,⟨fun t ht=>(g2 t ht).nm,fun t ht=>(g2 t ht).sy,fun t ht=>(g2 t ht).at_,fun t ht=>(g2 t ht).tx,by omega,g1⟩⟩,fun k hk=> ?_⟩
   obtain ⟨q1,q2⟩:=h1 k k hk (by omega)
   have q1:ZW k s k [] 0=some (.inl T):=q1
   have q2:ZX k s k [] 0=some (.inl T):=q2
   constructor
   ·unfold VD;rw [if_neg (by simp;omega),q1];rfl
   ·unfold VL;rw [if_neg (by simp;omega),q2];rfl
  | inr z=>
   refine ⟨z.1,z.2,fun h=>absurd h (by have:=h3 z rfl;omega),fun k hk=> ?_⟩
   obtain ⟨q1,q2⟩:=h1 k k hk (by omega)
   have q1:ZW k s k [] 0=some (.inr z):=q1
   have q2:ZX k s k [] 0=some (.inr z):=q2
   constructor
   ·unfold VD;rw [if_neg (by simp;omega),q1];rfl
   ·unfold VL;rw [if_neg (by simp;omega),q2];rfl
 ·refine ⟨[],120,fun h=>absurd h (by decide),fun k hk=>⟨?_, ?_⟩⟩
  ·unfold VD;rw [if_pos (decide_eq_true (by omega))]
  ·unfold VL;rw [if_pos (decide_eq_true (by omega))]
def zX:Zb:=⟨0,0,⟨#[]⟩,[]⟩
theorem Zni:zX.bk=0:=by rw [zX,Ziq];rfl
theorem ZnG (s:ByteArray):∃r:Zb×Int,r.1.bk≤12000∧(-1≤r.2)∧Ev fun k=>X9 k s=some r∧Wi k s=some r:=by
 obtain ⟨T,b,h1,h2⟩:=Zi1 s
 by_cases hb:0≤b
 ·refine ⟨(zX,b),by rw [Zni];omega,by show -1≤b;omega,2000,fun k hk=>⟨?_, ?_⟩⟩
  ·unfold X9;rw [(h2 k hk).1];simp only [Option.bind_some];rw [if_pos (decide_eq_true hb)];rfl
  ·unfold Wi;rw [(h2 k hk).2];simp only [Option.bind_some];rw [if_pos (decide_eq_true hb)];rfl
 obtain ⟨rfl,hs,ok⟩:=h1 (by omega)
 obtain ⟨es,ei,x',p',o',r1,g1,B,e1⟩:=ZrR ok T.length ⟨T,0,s.size, -1⟩ ⟨T,0, -1⟩ (some 0) ⟨by omega,rfl,rfl⟩ (fun j e=>by cases e;omega)
 have hlen:=ok.len
 have sS:∀k,2000≤k→B≤k→X9 k s=((if (decide (x'.bad<0))=true then some (decide (x'.i<(T.length:Int))) else some false).bind fun x7=>if x7=true then (YR x').bind fun x8=>some (x8.2.toks,x8.2.i,x8.2.end_,x8.2.bad) else some (x'.toks,x'.i,x'.end_,x'.bad)).bind fun (x3,x4,x5,x6)=>if (decide (0≤x6))=true then some (zX,x6) else (WA k es).bind fun x9=>if (!x9)=true then some (zX,0) else some (es, -1):=by
  intro k hk hB
  have q:=(e1 k hB).1
  dsimp only at q
  unfold X9
  rw [(h2 k hk).1]
  simp only [Option.bind_some]
  rw [if_neg (by simp),q]
  rfl
 have iS:∀k,2000≤k→B≤k→Wi k s=((if (decide (p'.bad<0))=true then some (decide (p'.at_<(T.length:Int))) else some false).bind fun x4=>if x4=true then some p'.at_ else some p'.bad).bind fun x3=>if (decide ((T.length:Int)≤x3))=true then some (zX,(s.size:Int)) else if (decide (0≤x3))=true then (at? T x3).bind fun x5=>some (zX,x5.at_) else (WG k ei).bind fun x6=>if (!x6)=true then some (zX,0) else some (ei, -1):=by
  intro k hk hB
  have q:=(e1 k hB).2
  dsimp only at q
  unfold Wi
  rw [(h2 k hk).2]
  simp only [Option.bind_some]
  rw [if_neg (by simp),q]
  rfl
 cases o' with
 | none=>
  obtain ⟨c,c0,c1,c2,c3,c4,c5⟩:=r1
  have hp:=Zj7 ok c
  refine ⟨(zX,Znf T s.size c),by rw [Zni];omega,by show -1≤Znf T s.size c;omega,max 2000 B,fun k hk=>⟨?_, ?_⟩⟩
  ·rw [sS k (by omega) (by omega),c5]
   simp [show ¬Znf T s.size c<0 by omega,hp]
  ·rw [iS k (by omega) (by omega),c4]
   simp only [show ¬((c:Int)<0) by omega,decide_false,Bool.false_eq_true,if_false,Option.bind_some]
   by_cases hc:c<T.length
   ·rw [if_neg (by simp;omega),if_pos (decide_eq_true (by omega)),Qe hc]
    simp only [Option.bind_some,Znf,List.getElem?_eq_getElem hc]
   ·rw [if_pos (decide_eq_true (by omega))]
    simp only [Znf,List.getElem?_eq_none (show T.length≤c by omega)]
 | some j=>
  obtain ⟨c0,rfl,rfl⟩:=r1
  obtain ⟨rfl,j0,hj0,hj1,hj2⟩:=g1 j rfl
  cases hj0
  by_cases hj:j<T.length
  ·have hat:at? T (j:Int)=some T[j]:=Qe hj
   have hpos:=ok.at_ T[j] (List.getElem_mem hj)
   have f1:YR ⟨T,j,s.size, -1⟩=some (zE,⟨T,j,s.size,T[j].at_⟩):=by
    unfold YR
    simp [Yp hj,hat,zE,hj]
   refine ⟨(zX,T[j].at_),by rw [Zni];omega,by show -1≤T[j].at_;omega,max 2000 B,fun k hk=>⟨?_, ?_⟩⟩
   ·rw [sS k (by omega) (by omega)]
    simp only [show ((-1:Int)<0) by decide,decide_true,if_true,Yp hj,Option.bind_some,f1]
    rw [if_pos (decide_eq_true hpos)]
   ·rw [iS k (by omega) (by omega)]
    simp only [show ((-1:Int)<0) by decide,decide_true,if_true,Yp hj,Option.bind_some]
    rw [if_neg (by simp;omega),if_pos (decide_eq_true (by omega)),hat]
    rfl
  ·obtain ⟨v,B2,hv⟩:=ZlW es (by omega)
   have hno:decide ((j:Int)<(T.length:Int))=false:=by simp;omega
   have h9:∀k,max 2000 (max B B2)≤k→X9 k s=some (if v=true then (es, -1) else (zX,0))∧Wi k s=some (if v=true then (es, -1) else (zX,0)):=by
    intro k hk
    obtain ⟨v1,v2⟩:=hv k (by omega)
    constructor
    ·rw [sS k (by omega) (by omega)]
     simp only [show ((-1:Int)<0) by decide,decide_true,if_true,hno,Option.bind_some,Bool.false_eq_true,if_false]
     rw [if_neg (by simp),v1]
     cases v<;>rfl
    ·rw [iS k (by omega) (by omega)]
     simp only [show ((-1:Int)<0) by decide,decide_true,if_true,hno,Option.bind_some,Bool.false_eq_true,if_false]
     rw [if_neg (by simp;omega),if_neg (by simp),v2]
     cases v<;>rfl
   refine ⟨_, ?_, ?_,_,h9⟩
   ·split
    ·show es.bk≤12000;omega
    ·rw [Zni];omega
   ·split
    ·exact Int.le_refl _
    ·show (-1:Int)≤0;decide
end Go.Proofs.YtfapaeabfcogkaaGreatDoor
namespace Go.Proofs.YtfapaeabfcogkaaGreatDoor
open Go.RowKit Am
theorem ZkC {α:Type} {f:α→Nat} {B:Nat}:∀{xs:List α},(∀x∈xs,f x≤B)→bkS f xs≤xs.length*(B+1)
 | [],_=>by simp [bkS,Xc]
 | x::xs,h=>by
  have h1:=h x (by simp)
  have h2:=ZkC (xs:=xs) fun y hy=>h y (by simp [hy])
  have e:bkS f (x::xs)=1+f x+bkS f xs:=by unfold bkS;rw [List.length_cons,show Xc f (x::xs)=f x+Xc f xs from rfl];omega
  rw [e,List.length_cons,Nat.add_mul];omega
def zV:Za:=Za.mk 0 0 0 ⟨#[]⟩ [] [] []
abbrev ZjI:=ByteArray→List Int×List Int×Bool
def ZlQ (g:ZjI) (s:ByteArray):Zq:=Zq.mk (g s).2.1 []
def Zbf (g:ZjI) (out:List Zq) (l:List ByteArray):Option (List Zq ⊕ (Za×Bool)):=if l.all (fun s=>(g s).2.2)=true then some (.inl (out++l.map (ZlQ g))) else some (.inr (zV,false))
theorem Zn8 {g:ZjI} {out:List Zq} {s:ByteArray} {l:List ByteArray} (h:(g s).2.2=false):Zbf g out (s::l)=some (.inr (zV,false)):=by unfold Zbf;rw [List.all_cons,h];rfl
theorem ZmO {g:ZjI} {out:List Zq} {s:ByteArray} {l:List ByteArray} (h:(g s).2.2=true):Zbf g out (s::l)=Zbf g (out++[ZlQ g s]) l:=by unfold Zbf;rw [List.all_cons,h,Bool.true_and,List.map_cons,List.append_assoc];rfl
structure Zqn (c:Int) (t:ByteArray) (r:List Int×List Int×Bool):Prop where
 same:r.2.2=true→r.1=r.2.1
 len:r.2.1.length≤121
 s:∀k,2000≤k→Jk k t c=some (r.1,r.2.2)
 i:∀k,2000≤k→V3 k t c=some (r.2.1,r.2.2)
theorem J9 (x:ByteArray) (ys:List ByteArray):(((x::ys).take (((x::ys).length:Int)).toNat).drop (1:Int).toNat)=ys:=by
 rw [show (((x::ys).length:Int)).toNat=(x::ys).length from Int.toNat_natCast _,List.take_length];rfl
theorem Ziu (x:ByteArray) (ys cs:List ByteArray) (hl:ys.length≤1000) (g:ZjI) (hg:∀s∈ys,Zqn cs.length s (g s)):∀(m i:Nat) (out:List Zq) (k n:Nat),i+m=ys.length→out.length≤i→2000≤k→m<n→
  YD k (x::ys) cs n out ((i+1:Nat):Int)=Zbf g out (ys.drop i)∧YF k (x::ys) cs n out (i:Int)=Zbf g out (ys.drop i):=by
 intro m
 induction m with
 | zero=>
  intro i out k n hi ho hk hn
  obtain ⟨n,rfl⟩:∃n',n=n'+1:=⟨n-1,by omega⟩
  rw [List.drop_eq_nil_of_le (by omega),YD,YF,J9,if_neg (Vi (by simp;omega)),if_neg (Vi (by omega))]
  unfold Zbf
  simp
 | succ m ih=>
  intro i out k n hi ho hk hn
  obtain ⟨n,rfl⟩:∃n',n=n'+1:=⟨n-1,by omega⟩
  have hlt:i<ys.length:=by omega
  have hat:at? ys (i:Int)=some ys[i]:=Qe hlt
  have hat':at? (x::ys) ((i+1:Nat):Int)=some ys[i]:=Qe (by simp;omega)
  have h:=hg ys[i] (List.getElem_mem hlt)
  rw [List.drop_eq_getElem_cons hlt,YD,YF,J9,if_pos (Yp (by simp;omega)),if_pos (Yp hlt),hat,hat',wS (i+1) (by omega),wS i (by omega)]
  generalize ys[i]=s at h
  simp only [Option.bind_some,h.s k hk,h.i k hk]
  cases hv:(g s).2.2 with
  | false=>rw [Zn8 hv];exact ⟨rfl,rfl⟩
  | true=>
   rw [ZmO hv,h.same hv]
   have ha:Wq 48 out [Zq.mk (g s).2.1 []]=some (out++[ZlQ g s]):=Zd8 (by simp;omega) (by omega)
   simp only [Bool.not_true,Bool.false_eq_true,if_false,ha,Option.bind_some]
   exact ih (i+1) _ k n (by omega) (by simp;omega) hk (by omega)
structure Zsi (v:Za):Prop where
 bk:v.bk≤100000
 rows:v.rows.length≤121
 row:∀r∈v.rows,r.cells.length≤121∧r.from_=[]
theorem Zor:Zsi zV:=⟨by rw [Za.ZZ];show 0≤100000;omega,by simp [zV],by simp [zV]⟩
theorem ZtV (x:ByteArray) (ys:List ByteArray):Zns (x::ys) 1 ((x::ys).length:Int)=some ys:=by
 unfold Zns
 rw [if_pos ⟨by omega,by simp;omega,by omega⟩,J9]
theorem ZhY (s:ByteArray) (hs:s.size≤120):∃x ys,spl ZkY s=x::ys∧x.size≤120∧ys.length≤120∧∀y∈ys,y.size≤120:=by
 obtain ⟨l1,l2⟩:=ZgN ZkY s (by decide)
 have h:∀y∈spl ZkY s,y.size≤120:=fun y hy=>by have:=Zj1 hy;omega
 cases e:spl ZkY s with
 | nil=>rw [e] at l1;simp at l1
 | cons x ys=>
  rw [e] at l2 h
  exact ⟨x,ys,rfl,h x (by simp),by simp at l2;omega,fun y hy=>h y (by simp [hy])⟩
theorem Zmi (cs ys:List ByteArray) (hy:∀y∈ys,y.size≤120):∃g:ZjI,∀s∈ys,Zqn cs.length s (g s):=by
 refine Kb ys fun y h=> ?_
 obtain ⟨rs,ri,b,h1,h2,h3⟩:=Zq0 y (hy y h) cs.length
 exact ⟨(rs,ri,b),⟨h1,h2,fun k hk=>(h3 k hk).1,fun k hk=>(h3 k hk).2⟩⟩
theorem Zp7 (s:ByteArray) (hs:s.size≤120):∃r:Za×Bool,Zsi r.1∧Ev fun k=>VF k s=some r∧Wj k s=some r:=by
 obtain ⟨x,ys,e,hx,hl,hy⟩:=ZhY s hs
 have hcs:∀y∈spl sp x,y.size≤120:=fun y h=>by have:=Zj1 h;omega
 have hcl:=(ZgN sp x (by decide)).2
 obtain ⟨g,hg⟩:=Zmi (spl sp x) ys hy
 have sdef:∀k,2000≤k→VF k s=(Zbf g [] ys).bind fun | .inl x4=>(ZK k (Za.mk 5 0 0 ⟨#[]⟩ [] (spl sp x) x4)).bind fun x10=>if (!x10)=true then some (zV,false) else some (Za.mk 5 0 0 ⟨#[]⟩ [] (spl sp x) x4,true)| .inr z=>some z:=by
  intro k hk
  unfold VF
  have h0:at? (x::ys) 0=some x:=Qe (xs:=x::ys) (i:=0) (by simp)
  rw [Zmd s hs hk,e,Option.bind_some,h0,Option.bind_some,ZgO x hx hk,Option.bind_some]
  have:=(Ziu x ys (spl sp x) (by omega) g hg ys.length 0 [] k k (by omega) (by simp) hk (by omega)).1
  rw [List.drop_zero] at this
  have:YD k (x::ys) (spl sp x) k [] 1=Zbf g [] ys:=this
  rw [this];rfl
 have idef:∀k,2000≤k→Wj k s=(Zbf g [] ys).bind fun | .inl x4=>(ZF k (Za.mk 5 0 0 ⟨#[]⟩ [] (spl sp x) x4)).bind fun x10=>if (!x10)=true then some (zV,false) else some (Za.mk 5 0 0 ⟨#[]⟩ [] (spl sp x) x4,true)| .inr z=>some z:=by
  intro k hk
  unfold Wj
  have h0:at? (x::ys) 0=some x:=Qe (xs:=x::ys) (i:=0) (by simp)
  rw [ZmH s hs,e,Option.bind_some,h0,Option.bind_some,Zg9 x hx,Option.bind_some,ZtV,Option.bind_some]
  have:=(Ziu x ys (spl sp x) (by omega) g hg ys.length 0 [] k k (by omega) (by simp) hk (by omega)).2
  rw [List.drop_zero] at this
  have:YF k (x::ys) (spl sp x) k [] 0=Zbf g [] ys:=this
  rw [this];rfl
 by_cases hall:ys.all (fun s=>(g s).2.2)=true
 ·have hr:Zbf g [] ys=some (.inl (ys.map (ZlQ g))):=by unfold Zbf;rw [if_pos hall,List.nil_append]
  have htab:Zsi (Za.mk 5 0 0 ⟨#[]⟩ [] (spl sp x) (ys.map (ZlQ g))):=by
   have hrow:∀r∈ys.map (ZlQ g),r.cells.length≤121∧r.from_=[]:=fun r hr=>by
    obtain ⟨y,hy,rfl⟩:=List.mem_map.1 hr
    exact ⟨(hg y hy).len,rfl⟩
   refine ⟨?_,by show (ys.map (ZlQ g)).length≤121;simp;omega,hrow⟩
   rw [Za.ZZ]
   show (0:Nat)+(bkS Za.bk []+(bkS ByteArray.size (spl sp x)+(bkS Zq.bk (ys.map (ZlQ g))+0)))≤100000
   have h1:=ZkC (f:=ByteArray.size) (xs:=spl sp x) hcs
   have h2:=ZkC (f:=Zq.bk) (B:=121) (xs:=ys.map (ZlQ g)) fun r hr=>by
    obtain ⟨a,b⟩:=hrow r hr
    rw [Zq.ZZ,ZlB,ZlB,b];simp;omega
   have h3:bkS Za.bk []=0:=rfl
   have h4:(spl sp x).length*(120+1)≤121*121:=Nat.mul_le_mul (by omega) (by omega)
   have h5:(ys.map (ZlQ g)).length*(121+1)≤120*122:=Nat.mul_le_mul (by simp;omega) (by omega)
   omega
  obtain ⟨b,hb,hev⟩:=ZfX (Za.mk 5 0 0 ⟨#[]⟩ [] (spl sp x) (ys.map (ZlQ g))) (by have:=htab.bk;omega)
  refine ⟨if b then (Za.mk 5 0 0 ⟨#[]⟩ [] (spl sp x) (ys.map (ZlQ g)),true) else (zV,false), ?_,(hev.and (Ev.ge 2000)).mono fun k ⟨⟨h1,h2⟩,hk⟩=> ?_⟩
  ·cases b
   ·exact Zor
   ·exact htab
  ·rw [sdef k hk,idef k hk,hr]
   simp only [Option.bind_some,h1,h2]
   cases b<;>exact ⟨rfl,rfl⟩
 ·have hr:Zbf g [] ys=some (.inr (zV,false)):=by unfold Zbf;rw [if_neg hall]
  refine ⟨(zV,false),Zor,(Ev.ge 2000).mono fun k hk=> ?_⟩
  rw [sdef k hk,idef k hk,hr]
  exact ⟨rfl,rfl⟩
theorem Zn3 (x:ByteArray) (ys cs:List ByteArray) (hl:ys.length≤1000) (g:ZjI) (hg:∀s∈ys,Zqn cs.length s (g s)):∀(m i:Nat),i+m=ys.length→∃r:Unit ⊕ Int,∀k n:Nat,2000≤k→m<n→
  YE k (x::ys) cs n ((i+1:Nat):Int)=some r∧YG k (x::ys) cs n (i:Int)=some r:=by
 intro m
 induction m with
 | zero=>
  intro i hi
  refine ⟨.inl (),fun k n hk hn=> ?_⟩
  obtain ⟨n,rfl⟩:∃n',n=n'+1:=⟨n-1,by omega⟩
  rw [YE,YG,J9,if_neg (Vi (by simp;omega)),if_neg (Vi (by omega))]
  exact ⟨rfl,rfl⟩
 | succ m ih=>
  intro i hi
  have hlt:i<ys.length:=by omega
  have hat:at? ys (i:Int)=some ys[i]:=Qe hlt
  have hat':at? (x::ys) ((i+1:Nat):Int)=some ys[i]:=Qe (by simp;omega)
  have h:=hg ys[i] (List.getElem_mem hlt)
  generalize ys[i]=s at h hat hat'
  obtain ⟨r,hr⟩:=ih (i+1) (by omega)
  refine ⟨if ((!(g s).2.2)||decide (12≤i))=true then .inr ((i+1:Nat):Int) else r,fun k n hk hn=> ?_⟩
  obtain ⟨n,rfl⟩:∃n',n=n'+1:=⟨n-1,by omega⟩
  obtain ⟨q1,q2⟩:=hr k n hk (by omega)
  rw [YE,YG,J9,if_pos (Yp (by simp;omega)),if_pos (Yp hlt),hat,hat',wS (i+1) (by omega),wS i (by omega)]
  simp only [Option.bind_some,h.s k hk,h.i k hk,q1,q2]
  have e1:decide (12<((i+1:Nat):Int))=decide (12≤i):=decide_eq_decide.2 (by omega)
  have e2:decide (12≤(i:Int))=decide (12≤i):=decide_eq_decide.2 (by omega)
  rw [e1,e2]
  cases (g s).2.2<;>cases decide (12≤i)<;>exact ⟨rfl,rfl⟩
theorem Zlp (s:ByteArray) (hs:s.size≤120) {v:Za} (hf:Ev fun k=>Wj k s=some (v,false)):∃n:Int,Ev fun k=>UQ k s=some n∧U3 k s=some n:=by
 obtain ⟨x,ys,e,hx,hl,hy⟩:=ZhY s hs
 have hcs:∀y∈spl sp x,y.size≤120:=fun y h=>by have:=Zj1 h;omega
 have hcl:=(ZgN sp x (by decide)).2
 obtain ⟨g,hg⟩:=Zmi (spl sp x) ys hy
 obtain ⟨r,hr⟩:=Zn3 x ys (spl sp x) (by omega) g hg ys.length 0 (by omega)
 refine ⟨if ZbD (spl sp x)=true then (match r with | .inl _=> -1| .inr z=>z) else 0,(hf.and (Ev.ge 1048700)).mono fun k ⟨hp,hk⟩=> ?_⟩
 have h0:at? (x::ys) 0=some x:=Qe (xs:=x::ys) (i:=0) (by simp)
 obtain ⟨c1,c2⟩:=Ziy (spl sp x) (by omega) (fun y h=>by have:=hcs y h;omega) (k:=k) (by omega)
 obtain ⟨q1,q2⟩:=hr k k (by omega) (by omega)
 have q1:YE k (x::ys) (spl sp x) k 1=some r:=q1
 have q2:YG k (x::ys) (spl sp x) k 0=some r:=q2
 constructor
 ·unfold UQ
  rw [Zmd s hs (by omega),e,Option.bind_some,h0,Option.bind_some,ZgO x hx (by omega),Option.bind_some,c1,q1]
  cases ZbD (spl sp x)<;>cases r<;>rfl
 ·unfold U3
  rw [hp,ZmH s hs,e,Option.bind_some]
  simp only [Bool.false_eq_true,if_false,Option.bind_some]
  rw [h0,Option.bind_some,Zg9 x hx,Option.bind_some,c2,ZtV,Option.bind_some,q2]
  cases ZbD (spl sp x)<;>cases r<;>rfl
theorem ZjY (a:Int) (v:Za):∀(n:Nat) (xs:List Zq) (i:Int),xs.length=v.rows.length→ZY a n xs i=Yu a v n xs i
 | 0,_,_,_=>rfl
 | n+1,xs,i,h=>by
  rw [ZY,Yu,h]
  split
  ·cases at? xs i with
   | none=>rfl
   | some y=>exact ZjY a v n _ _ (by simp [h])
  ·rfl
theorem Znt (a:Int) (B:Nat):∀(m i:Nat) (xs:List Zq),i+m=xs.length→xs.length≤1000→(∀r∈xs,r.cells.length≤121∧r.from_.length≤1)→∃ys:List Zq,ys.length=xs.length∧(∀r∈ys,r.cells.length≤121∧r.from_.length≤1)∧∀n,m<n→ZY a n xs (i:Int)=some ys:=by
 intro m
 induction m with
 | zero=>
  intro i xs hi hl hx
  refine ⟨xs,rfl,hx,fun n hn=> ?_⟩
  obtain ⟨n,rfl⟩:∃n',n=n'+1:=⟨n-1,by omega⟩
  rw [ZY,if_neg (Vi (by omega))]
 | succ m ih=>
  intro i xs hi hl hx
  have hlt:i<xs.length:=by omega
  have hat:at? xs (i:Int)=some xs[i]:=Qe hlt
  have h:=hx xs[i] (List.getElem_mem hlt)
  obtain ⟨ys,h1,h2,h3⟩:=ih (i+1) (xs.set i (Zq.mk xs[i].cells [Zc.mk a i])) (by simp;omega) (by simp;omega) fun r hr=>by
   rcases List.mem_or_eq_of_mem_set hr with h'| rfl
   ·exact hx r h'
   ·exact ⟨h.1,Nat.le_refl 1⟩
  refine ⟨ys,by rw [h1];simp,h2,fun n hn=> ?_⟩
  obtain ⟨n,rfl⟩:∃n',n=n'+1:=⟨n-1,by omega⟩
  rw [ZY,if_pos (Yp hlt),hat,Option.bind_some,wS i (by omega),Int.toNat_natCast]
  exact h3 n (by omega)
theorem Zln (n:Int):(Za.mk 6 n 0 (⟨#[]⟩:ByteArray) [] [] []).bk≤0:=by rw [Za.ZZ];exact Nat.le_refl 0
theorem Zl6 (a:Int) (v:Za) (hv:Zsi v):∃w:Za,w.bk≤200000∧Ev fun k=>Vb k a v=some w∧Vl k a v=some w:=by
 obtain ⟨b,hb,hev⟩:=ZfX v (by have:=hv.bk;omega)
 have hrow:∀r∈v.rows,r.cells.length≤121∧r.from_.length≤1:=fun r hr=>⟨(hv.row r hr).1,by rw [(hv.row r hr).2];simp⟩
 have hl:=hv.rows
 obtain ⟨ys,h1,h2,h3⟩:=Znt a 0 v.rows.length 0 v.rows (by omega) (by omega) hrow
 have hbk:=hv.bk
 have hlens:=v.ZpC
 refine ⟨if (!decide (v.kind=5)||(!b||decide (a<0)))=true then Za.mk 6 4 0 ⟨#[]⟩ [] [] [] else Za.mk v.kind v.n v.step v.text v.list v.columns ys, ?_,(hev.and ((ZeO v (by omega)).and ((Zfc v (by omega)).and (Ev.ge 2000)))).mono fun k ⟨⟨e1,e2⟩,e3,e4,hk⟩=> ?_⟩
 ·split
  ·have:=Zln 4;omega
  ·have e:=Za.ZZ v
   rw [Za.ZZ]
   show v.text.size+(bkS Za.bk v.list+(bkS ByteArray.size v.columns+(bkS Zq.bk ys+0)))≤200000
   have:=ZkC (f:=Zq.bk) (B:=122) (xs:=ys) fun r hr=>by
    obtain ⟨a,b⟩:=h2 r hr
    rw [Zq.ZZ,ZlB,ZlB];omega
   have h5:ys.length*(122+1)≤121*123:=Nat.mul_le_mul (by omega) (by omega)
   omega
 ·have q1:ZY a k v.rows 0=some ys:=h3 k (by omega)
  have q2:Yu a v k v.rows 0=some ys:=by rw [←ZjY a v k v.rows 0 rfl];exact q1
  unfold Vb Vl
  rw [e1,e2,e3,e4]
  simp only [Option.bind_some]
  rw [q1,q2]
  cases decide (v.kind=5)<;>cases b<;>cases decide (a<0)<;>exact ⟨rfl,rfl⟩
theorem Zjx {c:Zj} (h:Kc c=true):c.code.size≤120:=by
 unfold Kc at h
 simp only [Bool.and_eq_true] at h
 have:=h.1.2
 unfold Zdi at this
 simp only [Bool.and_eq_true,decide_eq_true_eq] at this
 omega
theorem Zjw {c:Zj} (h:Kc c=true):c.kind=1∨c.kind=2∨c.kind=3∨c.kind=4:=by
 unfold Kc at h
 by_cases h1:c.kind=1
 ·exact .inl h1
 by_cases h2:c.kind=2
 ·exact .inr (.inl h2)
 by_cases h3:c.kind=3
 ·exact .inr (.inr (.inl h3))
 by_cases h4:c.kind=4
 ·exact .inr (.inr (.inr h4))
 simp [h1,h2,h3,h4] at h
def zEx:Zb:=Zb.mk 0 0 ⟨#[]⟩ []
theorem ZqF:zEx.bk≤0:=by rw [Zb.ZZ];exact Nat.le_refl 0
theorem Zqc (c:Zj) (hc:c.bk≤1048576):∃p:ZB,p.bk≤2097152∧Ev fun k=>Yr k c=some p∧Yv k c=some p:=by
 have e:=Zj.ZZ c
 have hz:=ZqF
 have hzv:zV.bk≤0:=by rw [Za.ZZ];exact Nat.le_refl 0
 cases hok:Kc c with
 | false=>
  refine ⟨ZB.mk 0 ⟨#[]⟩ zEx zV 0,by rw [ZB.ZZ];show 0+(zEx.bk+(zV.bk+0))≤2097152;omega,(Ev.ge 1048601).mono fun k hk=> ?_⟩
  obtain ⟨h1,h2⟩:=ZeG c hc (k:=k) (by omega)
  unfold Yr Yv
  rw [h1,h2,hok]
  exact ⟨rfl,rfl⟩
 | true=>
  have hcode:=Zjx hok
  have hval:Ev fun k=>Qh k c=some true∧Qi k c=some true:=(Ev.ge 1048601).mono fun k hk=>by
   have:=ZeG c hc (k:=k) (by omega)
   rw [hok] at this;exact this
  rcases Zjw hok with hk| hk| hk| hk
  ·refine ⟨ZB.mk 1 ⟨#[]⟩ zEx zV 0,by rw [ZB.ZZ];show 0+(zEx.bk+(zV.bk+0))≤2097152;omega,hval.mono fun k ⟨h1,h2⟩=> ?_⟩
   unfold Yr Yv
   rw [h1,h2,hk];exact ⟨rfl,rfl⟩
  ·obtain ⟨r,r1,r2,r3⟩:=ZnG c.code
   refine ⟨if 0≤r.2 then ZB.mk 4 c.name zEx (Za.mk 6 8 0 ⟨#[]⟩ [] [] []) r.2 else ZB.mk 2 c.name r.1 zV 0, ?_,(hval.and r3).mono fun k ⟨⟨h1,h2⟩,h3,h4⟩=> ?_⟩
   ·have:=Zln 8
    split
    ·rw [ZB.ZZ];show c.name.size+(zEx.bk+((Za.mk 6 8 0 ⟨#[]⟩ [] [] []).bk+0))≤2097152;omega
    ·rw [ZB.ZZ];show c.name.size+(r.1.bk+(zV.bk+0))≤2097152;omega
   ·unfold Yr Yv
    rw [h1,h2,hk,h3,h4]
    simp only [Option.bind_some]
    by_cases h0:0≤r.2
    ·rw [if_pos h0,decide_eq_true h0];exact ⟨rfl,rfl⟩
    ·rw [if_neg h0,decide_eq_false h0];exact ⟨rfl,rfl⟩
  ·refine ⟨ZB.mk 3 c.name zEx (Za.mk 1 c.n 0 ⟨#[]⟩ [] [] []) 0, ?_,hval.mono fun k ⟨h1,h2⟩=> ?_⟩
   ·have:(Za.mk 1 c.n 0 (⟨#[]⟩:ByteArray) [] [] []).bk≤0:=by rw [Za.ZZ];exact Nat.le_refl 0
    rw [ZB.ZZ];show c.name.size+(zEx.bk+((Za.mk 1 c.n 0 ⟨#[]⟩ [] [] []).bk+0))≤2097152;omega
   ·unfold Yr Yv
    rw [h1,h2,hk];exact ⟨rfl,rfl⟩
  ·obtain ⟨⟨v,b⟩,hd,he⟩:=Zp7 c.code hcode
   cases b with
   | false=>
    obtain ⟨n,hn⟩:=Zlp c.code hcode (v:=v) (he.mono fun k h=>h.2)
    refine ⟨ZB.mk 4 c.name zEx (Za.mk 6 8 0 ⟨#[]⟩ [] [] []) n, ?_,(hval.and (he.and hn)).mono fun k ⟨⟨h1,h2⟩,⟨h3,h4⟩,h5,h6⟩=> ?_⟩
    ·have:=Zln 8
     rw [ZB.ZZ];show c.name.size+(zEx.bk+((Za.mk 6 8 0 ⟨#[]⟩ [] [] []).bk+0))≤2097152;omega
    ·unfold Yr Yv
     rw [h1,h2,hk,h3,h4]
     simp only [Option.bind_some]
     rw [h5,h6];exact ⟨rfl,rfl⟩
   | true=>
    obtain ⟨w,hw,hn⟩:=Zl6 c.id v hd
    refine ⟨ZB.mk 3 c.name zEx w 0, ?_,(hval.and (he.and hn)).mono fun k ⟨⟨h1,h2⟩,⟨h3,h4⟩,h5,h6⟩=> ?_⟩
    ·rw [ZB.ZZ];show c.name.size+(zEx.bk+(w.bk+0))≤2097152;omega
    ·unfold Yr Yv
     rw [h1,h2,hk,h3,h4]
     simp only [Option.bind_some]
     rw [h5,h6];exact ⟨rfl,rfl⟩
theorem Zlt (nb:Ze) (hb:nb.bk≤1048576):∃ps:List ZB,ps.length≤1048576∧(∀p∈ps,p.bk≤2097152)∧Ev fun k=>V0 k nb=some ps∧V5 k nb=some ps:=by
 have e:=Ze.ZZ nb
 have hl:=YL (f:=Zj.bk) (xs:=nb.cells)
 haveI:Inhabited ZB:=⟨ZB.mk 0 ⟨#[]⟩ zEx zV 0⟩
 obtain ⟨f,hf⟩:=Kb nb.cells (p:=fun c (p:ZB)=>p.bk≤2097152∧Ev fun k=>Yr k c=some p∧Yv k c=some p) fun c hc=>Zqc c (by have:=QF (f:=Zj.bk) hc;omega)
 have hall:=Ev.all nb.cells fun c hc=>(hf c hc).2
 refine ⟨if Zqy nb=true then nb.cells.map f else [], ?_, ?_,(hall.and (Ev.ge 1048700)).mono fun k ⟨h1,hk⟩=> ?_⟩
 ·split
  ·rw [List.length_map];omega
  ·simp
 ·split
  ·intro p hp
   obtain ⟨c,hc,rfl⟩:=List.mem_map.1 hp
   exact (hf c hc).1
  ·intro p hp;cases hp
 ·obtain ⟨v1,v2⟩:=ZgG nb hb (k:=k) (by omega)
  unfold V0 V5
  rw [v1,v2,Zg3 200 (by omega) nb.cells f (Yr k) (Y2 k nb) (fun c hc=>(h1 c hc).1) (fun n out i=>by rw [Y2]) (by omega) (by omega),
   Zg3 200 (by omega) nb.cells f (Yv k) (Y6 k nb) (fun c hc=>(h1 c hc).2) (fun n out i=>by rw [Y6]) (by omega) (by omega)]
  cases Zqy nb<;>exact ⟨rfl,rfl⟩
end Go.Proofs.YtfapaeabfcogkaaGreatDoor
namespace Go.Proofs.YtfapaeabfcogkaaGreatDoor
open Go.RowKit Am
theorem Zku (ps:List ZB) (s:ByteArray):∀(n:Nat) (out:List Int) (i:Int),Yg ps s n out i=QX ps s n out i
 | 0,_,_=>rfl
 | n+1,out,i=>by
  rw [Yg,QX]
  simp only [Option.bind_assoc,Zku ps s n]
theorem Zn7 (ps:List ZB) (s:ByteArray) (hl:ps.length≤1048576):∀(m i:Nat) (out:List Int),i+m=ps.length→out.length≤i→(∀x∈out,0≤x)→∃r:List Int,r.length≤ps.length∧(∀x∈r,0≤x)∧∀n,m<n→Yg ps s n out (i:Int)=some r:=by
 intro m
 induction m with
 | zero=>
  intro i out hi ho h0
  refine ⟨out,by omega,h0,fun n hn=> ?_⟩
  obtain ⟨n,rfl⟩:∃n',n=n'+1:=⟨n-1,by omega⟩
  rw [Yg,if_neg (Vi (by omega))]
 | succ m ih=>
  intro i out hi ho h0
  have hlt:i<ps.length:=by omega
  have hat:at? ps (i:Int)=some ps[i]:=Qe hlt
  generalize ps[i]=p at hat
  cases ht:(!decide (p.kind=1))&&decide (p.name=s) with
  | false=>
   obtain ⟨r,h1,h2,h3⟩:=ih (i+1) out (by omega) (by omega) h0
   refine ⟨r,h1,h2,fun n hn=> ?_⟩
   obtain ⟨n,rfl⟩:∃n',n=n'+1:=⟨n-1,by omega⟩
   rw [Yg,if_pos (Yp hlt),hat,wS i (by omega)]
   have e:(if (!decide (p.kind=1))=true then some (decide (p.name=s)) else some false)=some false:=by
    revert ht;cases decide (p.kind=1)<;>cases decide (p.name=s)<;>simp
   simp only [Option.bind_some,e,Bool.false_eq_true,if_false]
   exact h3 n (by omega)
  | true=>
   obtain ⟨r,h1,h2,h3⟩:=ih (i+1) (out++[(i:Int)]) (by omega) (by simp;omega) fun x hx=>by
    rcases List.mem_append.1 hx with h| h
    ·exact h0 x h
    ·simp at h;omega
   refine ⟨r,h1,h2,fun n hn=> ?_⟩
   obtain ⟨n,rfl⟩:∃n',n=n'+1:=⟨n-1,by omega⟩
   rw [Yg,if_pos (Yp hlt),hat,wS i (by omega)]
   have e:(if (!decide (p.kind=1))=true then some (decide (p.name=s)) else some false)=some true:=by
    revert ht;cases decide (p.kind=1)<;>cases decide (p.name=s)<;>simp
   simp only [Option.bind_some,e,if_true,Zd8 (xs:=out) (ys:=[(i:Int)]) (b:=8) (by simp;omega) (by omega)]
   exact h3 n (by omega)
def ZbN:List Int→Int
 | []=> -1
 | [x]=>x
 | _::_::_=> -2
theorem ZnF:∀{ds:List Int},(∀x∈ds,0≤x)→ -2≤ZbN ds
 | [],_=>by decide
 | [x],h=>by have:=h x (by simp);show -2≤x;omega
 | _::_::_,_=>by show (-2:Int)≤ -2;omega
theorem Zk3 (ps:List ZB) (s:ByteArray) (hl:ps.length≤1048576):∃r:Int, -2≤r∧Ev fun k=>Zaz k ps s=some r∧ZaH k ps s=some r:=by
 obtain ⟨ds,h1,h2,h3⟩:=Zn7 ps s hl ps.length 0 [] (by omega) (by simp) (by simp)
 have hs:∀k,ps.length<k→Uu k ps s=some ds:=fun k hk=>by
  unfold Uu
  have:=h3 k hk
  have:Yg ps s k [] 0=some ds:=this
  rw [this];rfl
 have hi:∀k,ps.length<k→J5 k ps s=some ds:=fun k hk=>by
  rw [←hs k hk];unfold J5 Uu;rw [Zku]
 refine ⟨ZbN ds,ZnF h2,(Ev.ge (ps.length+1)).mono fun k hk=> ?_⟩
 ·unfold Zaz ZaH
  rw [hs k (by omega),hi k (by omega)]
  clear h1 h2 h3 hs hi
  match ds with
  | []=>exact ⟨rfl,rfl⟩
  | [x]=>exact ⟨rfl,rfl⟩
  | x::y::l=>
   simp only [Option.bind_some]
   rw [decide_eq_false (show ¬(((x::y::l).length:Int)=0) by simp;omega),decide_eq_false (show ¬(((x::y::l).length:Int)=1) by simp;omega)]
   exact ⟨rfl,rfl⟩
theorem Zpt (ps:List ZB) (hl:ps.length≤1048576) (vs:List Za) (hv:∀v∈vs,v.bk≤1073741824) (s:ByteArray):∃v:Za,v.bk≤1073741824∧Ev fun k=>Wa k ps vs s=some v∧Wk k ps vs s=some v:=by
 obtain ⟨r,h1,h2⟩:=Zk3 ps s hl
 by_cases e2:r= -2
 ·refine ⟨Za.mk 6 2 0 ⟨#[]⟩ [] [] [],by have:=Zln 2;omega,h2.mono fun k ⟨q1,q2⟩=> ?_⟩
  unfold Wa Wk
  rw [q1,q2,e2];exact ⟨rfl,rfl⟩
 by_cases e1:r= -1
 ·refine ⟨Za.mk 6 1 0 ⟨#[]⟩ [] [] [],by have:=Zln 1;omega,h2.mono fun k ⟨q1,q2⟩=> ?_⟩
  unfold Wa Wk
  rw [q1,q2,e1];exact ⟨rfl,rfl⟩
 obtain ⟨j,rfl⟩:=Int.eq_ofNat_of_zero_le (show 0≤r by omega)
 by_cases hj:j<vs.length
 ·refine ⟨vs[j],hv _ (List.getElem_mem hj),(h2.and ((ZeO vs[j] (hv _ (List.getElem_mem hj))).and (Zfc vs[j] (hv _ (List.getElem_mem hj))))).mono fun k ⟨⟨q1,q2⟩,c1,c2⟩=> ?_⟩
  unfold Wa Wk
  rw [q1,q2]
  simp only [Option.bind_some]
  rw [decide_eq_false e2,decide_eq_false e1,decide_eq_false (show ¬((j:Int)<0) by omega),decide_eq_false (show ¬((vs.length:Int)≤(j:Int)) by omega),Qe hj]
  simp only [Option.bind_some,c1,c2,Bool.false_eq_true,if_false]
  exact ⟨trivial,trivial⟩
 ·refine ⟨Za.mk 6 1 0 ⟨#[]⟩ [] [] [],by have:=Zln 1;omega,h2.mono fun k ⟨q1,q2⟩=> ?_⟩
  unfold Wa Wk
  rw [q1,q2]
  simp only [Option.bind_some]
  rw [decide_eq_false e2,decide_eq_false e1,decide_eq_false (show ¬((j:Int)<0) by omega),decide_eq_true (show ((vs.length:Int)≤(j:Int)) by omega)]
  exact ⟨rfl,rfl⟩
theorem Zdz (nb:Ze) (_h:Zea nb.c) (bn:nb.bk≤1048576) (run:Qf) (_hr:Zea run.c) (br:run.bk≤1048576) (s:ByteArray) (_hs:DOk (.str s)) (_bs:s.size≤1048576):
  ∃v:Za,v.bk≤1073741824∧Ev fun k=>Va k nb run s=some v∧WE k nb run s=some v:=by
 obtain ⟨ps,h1,_,h2⟩:=Zlt nb bn
 have e:=Qf.ZZ run
 obtain ⟨v,hv,h3⟩:=Zpt ps h1 run.values (fun x hx=>by have:=QF (f:=Za.bk) hx;omega) s
 refine ⟨v,hv,(h2.and h3).mono fun k ⟨⟨a,b⟩,c,d⟩=> ?_⟩
 unfold Va WE
 rw [a,b,Option.bind_some,Option.bind_some,c,d]
 exact ⟨rfl,rfl⟩
end Go.Proofs.YtfapaeabfcogkaaGreatDoor
