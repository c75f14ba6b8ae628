import Derived.Test.YtpblakfidofgfaaGreatDoorZJ11
set_option linter.unusedSimpArgs false
set_option linter.unusedVariables false
set_option linter.unusedSectionVars false
namespace Go.Proofs.YtpblakfidofgfaaGreatDoor
open Go.RowKit Am
def sc (p:UInt8->Bool) (l:List UInt8) (i:Nat):Nat:=i+((l.drop i).takeWhile p).length
theorem ZfJ {p:UInt8->Bool} {l:List UInt8} {i:Nat} (h:i<l.length):sc p l i=if p l[i]=true then sc p l (i+1) else i:=by
 unfold sc;rw [List.drop_eq_getElem_cons h,List.takeWhile_cons]
 split
 ·simp;omega
 ·simp
theorem ZpP {p:UInt8->Bool} {l:List UInt8} {i:Nat} (h:l.length<=i):sc p l i=i:=by
 unfold sc;rw [List.drop_eq_nil_of_le h];simp
theorem ZoC {p:UInt8->Bool} {l:List UInt8}:∀(m i:Nat),i+m=l.length->i<=sc p l i/\sc p l i<=l.length
 | 0,i,h=>by rw [ZpP (by omega)];omega
 | m+1,i,h=>by
  rw [ZfJ (by omega)];have:=ZoC (p:=p) (l:=l) m (i+1) (by omega)
  split<;>omega
theorem ZbC (l:List UInt8) (p:UInt8->Bool) (N:Int) (hN:N=(l.length:Int)) (u:Nat->Int->Option Int) (hl:l.length<=1048576)
  (hu:∀n x,u (n+1) x=(if (decide (x<N))=true then (at? l x).bind fun c=>some (p c) else some false).bind fun b=>if b=true then u n (IntKind.i64.wrap (x+1)) else some x):
  ∀(m i n:Nat),i+m=l.length->m<n->u n (i:Int)=some ((sc p l i:Nat):Int):=by
 subst hN;intro m
 induction m with
 | zero=>
  intro i n hi hn;obtain ⟨n,rfl⟩:∃n',n=n'+1:=⟨n-1,by omega⟩;rw [hu,if_neg (Ql (by omega)),ZpP (by omega)];rfl
 | succ m ih=>
  intro i n hi hn;obtain ⟨n,rfl⟩:∃n',n=n'+1:=⟨n-1,by omega⟩;have hlt:i<l.length:=by omega
  rw [hu,if_pos (ZE hlt),ZJ hlt,ZfJ hlt];simp only [Zz8]
  split
  ·rw [wS i (by omega)];exact ih (i+1) n (by omega) (by omega)
  ·rfl
def word (c:UInt8):Bool:=ZkT c||Zmi c
def noQ (c:UInt8):Bool:=!decide ((c.toNat:Int)=34)
theorem ZbD (c:UInt8):VU (c.toNat:Int)=some (ZkT c):=by unfold VU ZkT;by_cases h:(97:Int)<=(c.toNat:Int)<;>simp [h]
theorem Zdj (c:UInt8):Uu (c.toNat:Int)=some (Zmi c):=by unfold Uu Zmi;by_cases h:(48:Int)<=(c.toNat:Int)<;>simp [h]
theorem Zfh (c:UInt8):(if (decide (97<=(c.toNat:Int)))=true then some (decide ((c.toNat:Int)<=122)) else some false)=some (ZkT c):=by unfold ZkT;by_cases h:(97:Int)<=(c.toNat:Int)<;>simp [h]
theorem Zfk (c:UInt8):(if (decide (48<=(c.toNat:Int)))=true then some (decide ((c.toNat:Int)<=57)) else some false)=some (Zmi c):=by unfold Zmi;by_cases h:(48:Int)<=(c.toNat:Int)<;>simp [h]
theorem Zvy (c:UInt8):(if (decide (97<=(c.toNat:Int)))=true then if (decide ((c.toNat:Int)<=122))=true then some true else if (decide (48<=(c.toNat:Int)))=true then some (decide ((c.toNat:Int)<=57)) else some false
  else if (decide (48<=(c.toNat:Int)))=true then some (decide ((c.toNat:Int)<=57)) else some false)=some (word c):=by
 rw [Zfk];unfold word ZkT
 by_cases h:(97:Int)<=(c.toNat:Int)
 ·by_cases h2:(c.toNat:Int)<=122<;>simp [h,h2]
 ·simp [h]
section
variable (s:ByteArray) (hs:s.size<=120)
include hs
theorem Zrl:s.data.toList.length=s.size:=by rw [Array.length_toList];rfl
theorem iw (i:Nat) (hi:i<=s.size) {k:Nat} (hk:1000<k):Xl s k (i:Int)=some ((sc word s.data.toList i:Nat):Int):=by
 have e:=Zrl s hs;refine ZbC s.data.toList word s.size (by rw [e]) (Xl s) (by omega) (fun n x=> ?_) (s.size-i) i k (by omega) (by omega);rw [Xl];simp only [Zvy]
theorem id_ (i:Nat) (hi:i<=s.size) {k:Nat} (hk:1000<k):Xk s k (i:Int)=some ((sc Zmi s.data.toList i:Nat):Int):=by
 have e:=Zrl s hs;refine ZbC s.data.toList Zmi s.size (by rw [e]) (Xk s) (by omega) (fun n x=> ?_) (s.size-i) i k (by omega) (by omega);rw [Xk];simp only [Zfk]
theorem sw (i:Nat) (hi:i<=s.size) {k:Nat} (hk:1000<k):X3 s k (i:Int)=some ((sc word s.data.toList i:Nat):Int):=by
 have e:=Zrl s hs;refine ZbC s.data.toList word s.size (by rw [e]) (X3 s) (by omega) (fun n x=> ?_) (s.size-i) i k (by omega) (by omega);rw [X3]
 have:∀c:UInt8,((VU (c.toNat:Int)).bind fun x11=>if x11=true then some true else (Uu (c.toNat:Int)).bind fun x12=>some x12)=some (word c):=fun c=>by
  rw [ZbD,Zdj];unfold word;cases ZkT c<;>simp
 simp only [this]
theorem sd (i:Nat) (hi:i<=s.size) {k:Nat} (hk:1000<k):X2 s k (i:Int)=some ((sc Zmi s.data.toList i:Nat):Int):=by
 have e:=Zrl s hs;refine ZbC s.data.toList Zmi s.size (by rw [e]) (X2 s) (by omega) (fun n x=> ?_) (s.size-i) i k (by omega) (by omega);rw [X2];simp only [Zdj,Zz8]
theorem sq (i:Nat) (hi:i<=s.size) {k:Nat} (hk:1000<k):X1 s k (i:Int)=some ((sc noQ s.data.toList i:Nat):Int):=by
 have e:=Zrl s hs;refine ZbC s.data.toList noQ s.size (by rw [e]) (X1 s) (by omega) (fun n x=> ?_) (s.size-i) i k (by omega) (by omega);rw [X1];rfl
theorem Zcn {a b:Nat} (h1:a<=b) (h2:b<=s.size):UN s (a:Int) (b:Int)=some (s.extract a b):=by
 unfold UN;rw [if_pos ⟨by omega,by omega,by omega⟩];simp
theorem Zhi (a b:Nat):(s.extract a b).data.toList=(s.data.toList.drop a).take (b-a):=by
 rw [ByteArray.data_extract,Array.toList_extract,List.extract_eq_take_drop]
theorem Zky {a b:Nat} (h1:a<b) (h2:b<=s.size):∃c r,s.data.toList[a]? =some c/\(s.extract a b).data.toList=c::r:=by
 have e:=Zrl s hs;have hl:a<s.data.toList.length:=by omega
 refine ⟨s.data.toList[a],(s.data.toList.drop (a+1)).take (b-a-1),ZAg hl, ?_⟩;rw [Zhi s hs,List.drop_eq_getElem_cons hl];obtain ⟨m,hm⟩:∃m,b-a=m+1:=⟨b-a-1,by omega⟩;rw [hm];simp
theorem ZcP {a b:Nat} (h2:b<=s.size):(s.extract a b).size<=120:=by rw [ByteArray.size_extract];omega
end
theorem ZnX (l:List UInt8):∀(m i:Nat),i+m=l.length->Lib.indexByte (l.drop i) 34=if sc noQ l i<l.length then ((sc noQ l i-i:Nat):Int) else-1
 | 0,i,h=>by rw [List.drop_eq_nil_of_le (by omega),ZpP (by omega),if_neg (by omega)];try rfl
 | m+1,i,h=>by
  have hlt:i<l.length:=by omega
  have ih:=ZnX l m (i+1) (by omega);have hle:=ZoC (p:=noQ) (l:=l) m (i+1) (by omega);rw [List.drop_eq_getElem_cons hlt,Lib.indexByte,ZfJ hlt,ih];generalize l[i]=c
  by_cases hc:c=34
  ·subst hc;have:noQ 34=false:=by decide
   simp [this,hlt]
  ·have hq:noQ c=true:=by
    unfold noQ;simp only [Bool.not_eq_true',decide_eq_false_iff_not];intro h;exact hc (UInt8.toNat_inj.1 (by show c.toNat=34;omega))
   have hb:(c==34)=false:=by simpa using hc
   simp only [hb,ZAf,if_false,hq,if_true]
   by_cases h1:sc noQ l (i+1)<l.length
   ·simp only [h1,if_true];have hne:¬(((sc noQ l (i+1)-(i+1):Nat):Int)== -1)=true:=by simp
    rw [if_neg hne];omega
   ·simp [h1]
structure WFt (t:Zg):Prop where
 nm:t.kind=1->∃c r,t.text.data.toList=c::r/\ZkT c=true
 sy:t.kind=4->∃c r,t.text.data.toList=c::r/\ZkT c=false
 at_:0<=t.at_
 tx:t.text.size<=120
def ZuQ:List UInt8:=[40,41,91,93,44,43,45,42,60,61]
theorem Zsk (c:UInt8) (l:List UInt8):(0<=Lib.indexByte l c)↔c∈l:=by
 induction l with
 | nil=>simp [Lib.indexByte]
 | cons b l ih=>
  unfold Lib.indexByte
  by_cases h:b=c
  ·simp [h]
  ·have hb:(b==c)=false:=by simpa using h
   have hne:¬c=b:=fun e=>h e.symm;simp only [hb,ZAf,if_false,List.mem_cons,hne,false_or];have hg:=Lib.indexByte_ge l c;rw [<-ih]
   split
   ·rename_i h1;have h2:Lib.indexByte l c= -1:=by simpa using h1
    constructor<;>intro h<;>omega
   ·rename_i h1;have h2:Lib.indexByte l c≠ -1:=by simpa using h1
    constructor<;>intro h<;>omega
theorem Zw8 (b z:Bool):(if b=true then some true else some z)=some (b||z):=by cases b<;>rfl
theorem u8i (c d:UInt8):decide ((c.toNat:Int)=(d.toNat:Int))=decide (c=d):=by
 have:((c.toNat:Int)=(d.toNat:Int))↔c=d:=⟨fun h=>UInt8.toNat_inj.1 (by omega),fun h=>by rw [h]⟩;simp [this]
theorem Zoy (s:ByteArray) (hs:s.size<=120) (a:Nat) (ha:a<s.size) (c:UInt8) (hat:at? s.data.toList (a:Int)=some c):
  ∃n:Int,UZ s a=some n/\((n=2/\c=61/\a+1<s.size/\s.data.toList[a+1]? =some 61)\/(n=1/\c∈ZuQ/\(c=61->s.data.toList[a+1]? ≠some 61))\/(n=0/\c∉ZuQ)):=by
 have hsz:=Zrl s hs;have w1:IntKind.i64.wrap ((a:Int)+1)=((a+1:Nat):Int):=wS a (by omega);have h40:decide ((c.toNat:Int)=40)=decide (c=40):=u8i c 40;have h41:decide ((c.toNat:Int)=41)=decide (c=41):=u8i c 41;have h91:decide ((c.toNat:Int)=91)=decide (c=91):=u8i c 91;have h93:decide ((c.toNat:Int)=93)=decide (c=93):=u8i c 93;have h44:decide ((c.toNat:Int)=44)=decide (c=44):=u8i c 44;have h43:decide ((c.toNat:Int)=43)=decide (c=43):=u8i c 43;have h45:decide ((c.toNat:Int)=45)=decide (c=45):=u8i c 45;have h42:decide ((c.toNat:Int)=42)=decide (c=42):=u8i c 42;have h60:decide ((c.toNat:Int)=60)=decide (c=60):=u8i c 60;have h61:decide ((c.toNat:Int)=61)=decide (c=61):=u8i c 61
 have hv:UZ s a=if (decide (c=40)||(decide (c=41)||(decide (c=91)||(decide (c=93)||(decide (c=44)||(decide (c=43)||(decide (c=45)||(decide (c=42)||decide (c=60)))))))))=true then some 1
   else if decide (c=61)=true then (if decide (((a+1:Nat):Int)<(s.size:Int))=true then (at? s.data.toList ((a+1:Nat):Int)).bind fun x=>some (decide ((x.toNat:Int)=61)) else some false).bind fun x3=>if x3=true then some 2 else some 1
   else some 0:=by
  unfold UZ;rw [hat];simp only [Zz8,Zw8,h40,h41,h91,h93,h44,h43,h45,h42,h60,h61,w1]
 by_cases h9:c∈[40,41,91,93,44,43,45,42,60]
 ·have e:(decide (c=40)||(decide (c=41)||(decide (c=91)||(decide (c=93)||(decide (c=44)||(decide (c=43)||(decide (c=45)||(decide (c=42)||decide (c=60)))))))))=true:=by simpa using h9
  refine ⟨1,by rw [hv,if_pos e],.inr (.inl ⟨rfl,List.mem_append_left [61] h9, ?_⟩)⟩;rintro rfl;simp at h9
 ·have e:¬(decide (c=40)||(decide (c=41)||(decide (c=91)||(decide (c=93)||(decide (c=44)||(decide (c=43)||(decide (c=45)||(decide (c=42)||decide (c=60)))))))))=true:=by simpa using h9
  by_cases hc:c=61
  ·rw [if_neg e,if_pos (decide_eq_true hc)] at hv
   by_cases hl:a+1<s.size
   ·have hl2:a+1<s.data.toList.length:=by omega
    have hat2:at? s.data.toList ((a+1:Nat):Int)=some s.data.toList[a+1]:=ZJ hl2;have hge:=ZAg hl2;generalize s.data.toList[a+1]=d at hat2 hge;rw [if_pos (ZE hl),hat2,Zz8,show decide ((d.toNat:Int)=61)=decide (d=61) from u8i d 61,Zz8] at hv
    by_cases h2:d=61
    ·exact ⟨2,by rw [hv,if_pos (decide_eq_true h2)],.inl ⟨rfl,hc,hl,by rw [hge,h2]⟩⟩
    ·exact ⟨1,by rw [hv,if_neg (by simpa using h2)],.inr (.inl ⟨rfl,by rw [hc];decide,fun _ e=>h2 (Zz9 (hge.symm.trans e))⟩)⟩
   ·rw [if_neg (Ql (by omega)),Zz8] at hv;refine ⟨1,by rw [hv];rfl,.inr (.inl ⟨rfl,by rw [hc];decide,fun _ e=> ?_⟩)⟩;have:=(List.getElem?_eq_some_iff.1 e).1;omega
  ·refine ⟨0,by rw [hv,if_neg e,if_neg (by simpa using hc)],.inr (.inr ⟨rfl,fun h=> ?_⟩)⟩;rcases List.mem_append.1 (show c∈[40,41,91,93,44,43,45,42,60]++[61] from h) with h| h
   ·exact h9 h
   ·exact hc (by simpa using h)
theorem ZuM (s:ByteArray) (hs:s.size<=120) (a:Nat) (ha:a<s.size):
  (∃(t:Zg) (e:Nat),a<e/\e<=s.size/\WFt t/\∀k,2000<=k->QX k s a=some (t,((e-a:Nat):Int))/\YU k s a=some (t,(e:Int),true))\/
  (∃(t t':Zg) (e:Int),∀k,2000<=k->QX k s a=some (t,0)/\YU k s a=some (t',e,false)):=by
 have hsz:=Zrl s hs;have hla:a<s.data.toList.length:=by omega
 have hat:at? s.data.toList (a:Int)=some s.data.toList[a]:=ZJ hla;have hget:s.data.toList[a]? =some s.data.toList[a]:=ZAg hla;generalize s.data.toList[a]=c at hat hget;have hbs:∀b:Nat,a<=b->b<=s.size->IntKind.i64.wrap ((b:Int)-(a:Int))=((b-a:Nat):Int):=fun b h1 h2=>by rw [w64 (by omega) (by omega)];omega
 have w1:IntKind.i64.wrap ((a:Int)+1)=((a+1:Nat):Int):=wS a (by omega);cases hle:ZkT c with
 | true=>
  have hw:=ZoC (p:=word) (l:=s.data.toList) (s.size-a) a (by omega);have hstep:=ZfJ (p:=word) hla;have hwc:word c=true:=by unfold word;rw [hle];rfl
  have hget2:s.data.toList[a]=c:=by have:=hget;rw [ZAg hla] at this;exact Zz9 this
  rw [hget2,if_pos hwc] at hstep;have hw2:=ZoC (p:=word) (l:=s.data.toList) (s.size-(a+1)) (a+1) (by omega);generalize sc word s.data.toList a=e at hw hstep;subst hstep;generalize he:sc word s.data.toList (a+1)=e at hw hw2;have hc1:=Zcn s hs (a:=a) (b:=e) (by omega) (by omega)
  have e1:∀k,2000<=k->X3 s k a=some (e:Int)/\Xl s k a=some (e:Int):=fun k hk=>by
   have h1:=sw s hs a (by omega) (show 1000<k by omega);have h2:=iw s hs a (by omega) (show 1000<k by omega);rw [ZfJ hla,hget2,if_pos hwc,he] at h1 h2;exact ⟨h1,h2⟩
  obtain ⟨c',r,g1,g2⟩:=Zky s hs (a:=a) (b:=e) (by omega) (by omega);rw [hget] at g1;cases g1
  by_cases h8:8<e-a
  ·right
   refine ⟨⟨1,0,a,s.extract a e⟩,⟨1,0,a,s.extract a e⟩,e,fun k hk=>⟨?_, ?_⟩⟩
   ·unfold QX;rw [hat];simp only [Zz8,ZbD,hle,if_true,(e1 k hk).1,hc1,hbs e (by omega) (by omega)];rw [if_pos (by simp;omega)];rfl
   ·unfold YU;rw [hat];simp only [Zz8,Zfh,hle,if_true,(e1 k hk).2,hc1,hbs e (by omega) (by omega)];rw [show (decide (((e-a:Nat):Int)<=8))=false by simp;omega]
  ·left
   refine ⟨⟨1,0,a,s.extract a e⟩,e,by omega,by omega,⟨fun _=>⟨c,r,g2,hle⟩,(fun h=>by simp at h),by show (0:Int)<=a;omega,ZcP s hs (by omega)⟩,fun k hk=>⟨?_, ?_⟩⟩
   ·unfold QX;rw [hat];simp only [Zz8,ZbD,hle,if_true,(e1 k hk).1,hc1,hbs e (by omega) (by omega)];rw [if_neg (by simp;omega)];simp only [Zz8,hbs e (by omega) (by omega)]
   ·unfold YU;rw [hat];simp only [Zz8,Zfh,hle,if_true,(e1 k hk).2,hc1,hbs e (by omega) (by omega)];rw [show (decide (((e-a:Nat):Int)<=8))=true by simp;omega]
 | false=>
 cases hdi:Zmi c with
 | true=>
  have hget2:s.data.toList[a]=c:=by have:=hget;rw [ZAg hla] at this;exact Zz9 this
  have hw2:=ZoC (p:=Zmi) (l:=s.data.toList) (s.size-(a+1)) (a+1) (by omega);generalize he:sc Zmi s.data.toList (a+1)=e at hw2;have hc1:=Zcn s hs (a:=a) (b:=e) (by omega) (by omega)
  have e1:∀k,2000<=k->X2 s k a=some (e:Int)/\Xk s k a=some (e:Int):=fun k hk=>by
   have h1:=sd s hs a (by omega) (show 1000<k by omega);have h2:=id_ s hs a (by omega) (show 1000<k by omega);rw [ZfJ hla,hget2,if_pos hdi,he] at h1 h2;exact ⟨h1,h2⟩
  have hx:(s.extract a e).size<=120:=ZcP s hs (by omega);have p1:∀k,2000<=k->Wv k (s.extract a e)=some (Uy (s.extract a e)):=fun k hk=>ZhM _ (by omega) (by omega)
  have p2:Zb2 (s.extract a e) 0 1000000000=some (if (Uy (s.extract a e)).2=true/\0<=(Uy (s.extract a e)).1/\(Uy (s.extract a e)).1<=1000000000 then ((Uy (s.extract a e)).1,true) else (0,false)):=by
   unfold Zb2;rw [if_pos (by omega),Zje _ _ _ (by omega) (by omega)]
  have hpos:(Uy (s.extract a e)).2=true->0<=(Uy (s.extract a e)).1:=by
   intro h;unfold Uy at h ⊢;cases hn:ZnO (s.extract a e) with
   | none=>rw [hn] at h;cases h
   | some n=>
    rw [hn] at h;simp only at h ⊢
    by_cases hb:n.natAbs<1000000000000
    ·rw [if_pos hb];have hi:=ZhP hn;obtain ⟨c',r,g1,g2⟩:=Zky s hs (a:=a) (b:=e) (by omega) (by omega);rw [hget] at g1;cases g1;rw [Zji] at hi
     by_cases hneg:n<0
     ·rw [if_pos hneg,g2] at hi;injection hi with hi _
      subst hi;simp [Zmi] at hdi
     ·show 0<=n;omega
    ·rw [if_neg hb] at h;cases h
  generalize Uy (s.extract a e)=rv at p1 p2 hpos
  by_cases hok:rv.2=true/\rv.1<=1000000000
  ·left
   refine ⟨⟨2,rv.1,a,⟨#[]⟩⟩,e,by omega,by omega,⟨(fun h=>by simp at h),(fun h=>by simp at h),by show (0:Int)<=a;omega,by show (0:Nat)<=120;omega⟩,fun k hk=>⟨?_, ?_⟩⟩
   ·unfold QX;rw [hat];simp only [Zz8,ZbD,hle,Zdj,hdi,ZAf,if_false,if_true,(e1 k hk).1,hc1,p1 k hk,hok.1,Bool.not_true];rw [show (decide (1000000000<rv.1))=false by simp;omega];simp only [Zz8,ZAf,if_false,hbs e (by omega) (by omega)]
   ·unfold YU;rw [hat];simp only [Zz8,Zfh,hle,Zfk,hdi,ZAf,if_false,if_true,(e1 k hk).2,hc1,p2];rw [if_pos ⟨hok.1,hpos hok.1,hok.2⟩]
  ·right
   refine ⟨⟨2,rv.1,a,⟨#[]⟩⟩,⟨2,0,a,⟨#[]⟩⟩,e,fun k hk=>⟨?_, ?_⟩⟩
   ·unfold QX;rw [hat]
    have hb:(if (!rv.2)=true then some true else some (decide (1000000000<rv.1)))=some true:=by
     cases h2:rv.2 with
     | false=>rfl
     | true=>simp [h2] at hok ⊢;omega
    simp only [Zz8,ZbD,hle,Zdj,hdi,ZAf,if_false,if_true,(e1 k hk).1,hc1,p1 k hk,hb]
   ·unfold YU;rw [hat];simp only [Zz8,Zfh,hle,Zfk,hdi,ZAf,if_false,if_true,(e1 k hk).2,hc1,p2];rw [if_neg (fun h=>hok ⟨h.1,h.2.2⟩)]
 | false=>
 by_cases h34:(c.toNat:Int)=34
 ·have hw2:=ZoC (p:=noQ) (l:=s.data.toList) (s.size-(a+1)) (a+1) (by omega);have hix:=ZnX s.data.toList (s.size-(a+1)) (a+1) (by omega);generalize he:sc noQ s.data.toList (a+1)=e at hw2 hix
  have e1:∀k,2000<=k->X1 s k ((a+1:Nat):Int)=some (e:Int):=fun k hk=>by
   have h1:=sq s hs (a+1) (by omega) (show 1000<k by omega);rw [he] at h1;exact h1
  have hc1:=Zcn s hs (a:=a+1) (b:=e) (by omega) (by omega);have hc2:=Zcn s hs (a:=a+1) (b:=s.size) (by omega) (by omega)
  have hi2:Yh (s.extract (a+1) s.size) 34=some (if e<s.size then ((e-(a+1):Nat):Int) else-1):=by
   unfold Yh;rw [Zhi s hs,List.take_of_length_le (by simp<;>omega)];rw [show (34:Int).toNat.toUInt8=34 from rfl,hix,hsz]
  have vt:=fun k (hk:2000<=k)=>ZeA (s.extract (a+1) e) (by have:=ZcP s hs (a:=a+1) (b:=e) (by omega);omega) (show (s.extract (a+1) e).size<k by have:=ZcP s hs (a:=a+1) (b:=e) (by omega);omega);generalize (!((s.extract (a+1) e).data.toList.any Uh)&&decide (((s.extract (a+1) e).size:Int)<=20))=tv at vt;have l0:ZkT c=false:=hle
  by_cases hes:e<s.size
  ·rw [if_pos hes] at hi2;have hw3:IntKind.i64.wrap (IntKind.i64.wrap ((a:Int)+1)+((e-(a+1):Nat):Int))=(e:Int):=by rw [w1,w64 (by omega) (by omega)];omega
   have hw4:IntKind.i64.wrap (IntKind.i64.wrap ((a:Int)+((e-(a+1):Nat):Int))+2)=((e+1:Nat):Int):=by rw [w64 (n:=(a:Int)+((e-(a+1):Nat):Int)) (by omega) (by omega),w64 (by omega) (by omega)];omega
   have hi:∀k,2000<=k->YU k s a=some (⟨3,0,a,s.extract (a+1) e⟩,((e+1:Nat):Int),tv):=by
    intro k hk;unfold YU;rw [hat];simp only [Zz8,Zfh,hle,Zfk,hdi,ZAf,if_false,h34,decide_true,if_true,w1,hc2,hi2];rw [if_neg (by simp)];rw [<-w1,hw3,w1,hc1];simp only [Zz8,(vt k hk).2,hw4]
   cases tv with
   | true=>
    left
    refine ⟨⟨3,0,a,s.extract (a+1) e⟩,e+1,by omega,by omega,⟨(fun h=>by simp at h),(fun h=>by simp at h),by show (0:Int)<=a;omega,ZcP s hs (by omega)⟩,fun k hk=>⟨?_,hi k hk⟩⟩;unfold QX;rw [hat];simp only [Zz8,ZbD,hle,Zdj,hdi,ZAf,if_false,h34,decide_true,if_true,w1,e1 k hk,hc1,(vt k hk).1];rw [show (decide ((e:Int)=(s.size:Int)))=false by simp;omega];simp only [ZAf,if_false,Zz8,Bool.not_true,wS e (by omega),hbs (e+1) (by omega) (by omega)]
   | false=>
    right
    refine ⟨⟨3,0,a,s.extract (a+1) e⟩,_,_,fun k hk=>⟨?_,hi k hk⟩⟩;unfold QX;rw [hat];simp only [Zz8,ZbD,hle,Zdj,hdi,ZAf,if_false,h34,decide_true,if_true,w1,e1 k hk,hc1,(vt k hk).1];rw [show (decide ((e:Int)=(s.size:Int)))=false by simp;omega];simp only [ZAf,if_false,Zz8,Bool.not_false,if_true]
  ·rw [if_neg hes] at hi2
   right
   refine ⟨⟨3,0,a,s.extract (a+1) e⟩,⟨0,0,0,⟨#[]⟩⟩,0,fun k hk=>⟨?_, ?_⟩⟩
   ·unfold QX;rw [hat];simp only [Zz8,ZbD,hle,Zdj,hdi,ZAf,if_false,h34,decide_true,if_true,w1,e1 k hk,hc1];rw [show (decide ((e:Int)=(s.size:Int)))=true by simp;omega];simp only [if_true,Zz8]
   ·unfold YU;rw [hat];simp only [Zz8,Zfh,hle,Zfk,hdi,ZAf,if_false,h34,decide_true,if_true,w1,hc2,hi2]
    rfl
 ·have hn34:¬((c.toNat:Int)=34):=h34;have hget2:s.data.toList[a]=c:=by have:=hget;rw [ZAg hla] at this;exact Zz9 this
  have hlist:(s.extract a s.size).data.toList=c::s.data.toList.drop (a+1):=by
   rw [Zhi s hs,List.take_of_length_le (by simp<;>omega),List.drop_eq_getElem_cons hla,hget2]
  have hc0:=Zcn s hs (a:=a) (b:=s.size) (by omega) (by omega);have hc1:=Zcn s hs (a:=a) (b:=a+1) (by omega) (by omega)
  have hix:Yh (⟨#[40,41,91,93,44,43,45,42,60,61]⟩:ByteArray) (c.toNat:Int)=some (Lib.indexByte ZuQ c):=by
   unfold Yh
   congr 2
   simp
  obtain ⟨n,hn,hcase⟩:=Zoy s hs a ha c hat;rcases hcase with ⟨rfl,rfl,h2,h3⟩| ⟨rfl,hmem,hno⟩| ⟨rfl,hmem⟩
  ·
   have hc2:=Zcn s hs (a:=a) (b:=a+2) (by omega) (by omega)
   have he2:s.extract a (a+2)=⟨#[61,61]⟩:=by
    apply ByteArray.ext;apply Array.toList_inj.1;have hl1:a+1<s.data.toList.length:=by omega
    have hg1:s.data.toList[a+1]=61:=by rw [ZAg hl1] at h3;exact Zz9 h3
    rw [Zhi s hs,List.drop_eq_getElem_cons hla,hget2,List.drop_eq_getElem_cons hl1,hg1,show a+2-a=2 by omega]
    rfl
   have hpre:Yi (s.extract a s.size) (⟨#[61,61]⟩:ByteArray)=some true:=by
    unfold Yi Lib.hasPrefix;have hl1:a+1<s.data.toList.length:=by omega
    have hg1:s.data.toList[a+1]=61:=by rw [ZAg hl1] at h3;exact Zz9 h3
    rw [hlist,List.drop_eq_getElem_cons hl1,hg1];simp
   left
   refine ⟨⟨4,0,a,⟨#[61,61]⟩⟩,a+2,by omega,by omega,⟨(fun h=>by simp at h),fun _=>⟨61,[61],rfl,by decide⟩,by show (0:Int)<=a;omega,by show (2:Nat)<=120;omega⟩,fun k hk=>⟨?_, ?_⟩⟩
   ·unfold QX;rw [hat];simp only [Zz8,ZbD,hle,Zdj,hdi,ZAf,if_false,hn34,decide_false,hn];rw [show IntKind.i64.wrap ((a:Int)+2)=((a+2:Nat):Int) by rw [w64 (by omega) (by omega)];rfl,hc2,he2];simp only [Zz8,hbs (a+2) (by omega) (by omega)]
   ·unfold YU;rw [hat];simp only [Zz8,Zfh,hle,Zfk,hdi,ZAf,if_false,hn34,decide_false,hc0,hpre,if_true];rw [show IntKind.i64.wrap ((a:Int)+2)=((a+2:Nat):Int) by rw [w64 (by omega) (by omega)];rfl]
  ·
   have hpre:Yi (s.extract a s.size) (⟨#[61,61]⟩:ByteArray)=some false:=by
    unfold Yi Lib.hasPrefix;rw [hlist]
    congr 1
    by_cases hc61:c=61
    ·subst hc61
     by_cases hl1:a+1<s.data.toList.length
     ·rw [List.drop_eq_getElem_cons hl1];have:s.data.toList[a+1]≠61:=fun e=>hno rfl (by rw [ZAg hl1,e]);simp [List.isPrefixOf];intro e;exact this (by simpa using e.symm)
     ·rw [List.drop_eq_nil_of_le (by omega)];simp
    ·simp [List.isPrefixOf,Ne.symm hc61]
   left
   obtain ⟨c',r,g1,g2⟩:=Zky s hs (a:=a) (b:=a+1) (by omega) (by omega);rw [hget] at g1;cases g1;refine ⟨⟨4,0,a,s.extract a (a+1)⟩,a+1,by omega,by omega,⟨(fun h=>by simp at h),fun _=>⟨c,r,g2,hle⟩,by show (0:Int)<=a;omega,ZcP s hs (by omega)⟩,fun k hk=>⟨?_, ?_⟩⟩
   ·unfold QX;rw [hat];simp only [Zz8,ZbD,hle,Zdj,hdi,ZAf,if_false,hn34,decide_false,hn];rw [w1,hc1];simp only [Zz8,hbs (a+1) (by omega) (by omega)]
   ·unfold YU;rw [hat];simp only [Zz8,Zfh,hle,Zfk,hdi,ZAf,if_false,hn34,decide_false,hc0,hpre,w1,hc1,hix];rw [decide_eq_true ((Zsk c ZuQ).2 hmem)]
  ·right
   have hpre:∃b,Yi (s.extract a s.size) (⟨#[61,61]⟩:ByteArray)=some b/\b=false:=by
    refine ⟨_,rfl, ?_⟩;unfold Lib.hasPrefix;rw [hlist];have:c≠61:=fun e=>hmem (by rw [e];decide);simp [List.isPrefixOf,Ne.symm this]
   obtain ⟨b,hpre,rfl⟩:=hpre;have hc00:=Zcn s hs (a:=a) (b:=a) (by omega) (by omega);refine ⟨⟨4,0,a,s.extract a a⟩,⟨4,0,a,s.extract a (a+1)⟩,((a+1:Nat):Int),fun k hk=>⟨?_, ?_⟩⟩
   ·unfold QX;rw [hat];simp only [Zz8,ZbD,hle,Zdj,hdi,ZAf,if_false,hn34,decide_false,hn];rw [show IntKind.i64.wrap ((a:Int)+0)=(a:Int) by rw [w64 (by omega) (by omega)];omega,hc00];simp only [Zz8,hbs a (by omega) (by omega),Nat.sub_self]
    rfl
   ·unfold YU;rw [hat];simp only [Zz8,Zfh,hle,Zfk,hdi,ZAf,if_false,hn34,decide_false,hc0,hpre,w1,hc1,hix];rw [decide_eq_false (fun h=>hmem ((Zsk c ZuQ).1 h))]
theorem ZM.Zvv (r:ZM):r.cells.length<=r.bk/\r.from_.length<=r.bk:=by
 have h2:=r.ZB;have h3:=ZL (f:=fun _:Int=>0) (xs:=r.cells);have h4:=ZL (f:=fun _:Zl=>0) (xs:=r.from_);constructor<;>omega
theorem ZpR (r:ZM) (h:r.bk<=1073741824):ZfK r=some r:=by
 obtain ⟨h1,h2⟩:=r.Zvv;unfold ZfK;rw [Zd4 (by simp;omega) (by omega),Zz8,Zd4 (by simp;omega) (by omega)];rfl
theorem Zqu (r:ZM) (h:r.bk<=1073741824):KS r=some r:=by
 obtain ⟨h1,h2⟩:=r.Zvv;unfold KS;rw [Zd4 (by simp;omega) (by omega),Zz8,Zd4 (by simp;omega) (by omega)];rfl
structure Zym (v:Za):Prop where
 list:v.list.length<=v.bk
 cols:v.columns.length<=v.bk
 rows:v.rows.length<=v.bk
 text:v.text.size<=v.bk
 row:∀r∈v.rows,r.bk<=v.bk
 el:∀x∈v.list,x.bk<=v.bk
 col:∀s∈v.columns,s.size<=v.bk
theorem Za.ZtK (v:Za):Zym v:=by
 have e:=v.ZB;have l1:=ZL (f:=Za.bk) (xs:=v.list);have l2:=ZL (f:=ByteArray.size) (xs:=v.columns);have l3:=ZL (f:=ZM.bk) (xs:=v.rows);exact ⟨by omega,by omega,by omega,by omega,fun r hr=>by have:=Yl (f:=ZM.bk) hr;omega,fun r hr=>by have:=Yl (f:=Za.bk) hr;omega,fun r hr=>by have:=Yl (f:=ByteArray.size) hr;omega⟩
theorem ZhC:∀v:Za,v.bk<=1073741824->Ev fun k=>WO k v=some v:=by
 refine Za.ind fun v ih hb=> ?_;have l:=v.ZtK;have:=l.list;have:=l.cols;have:=l.rows;refine ((Ev.all v.list fun y hy=>ih y hy (by have:=l.el y hy;omega)).and (Ev.ge (v.list.length+v.rows.length+2))).pred ?_;rintro k ⟨hx,hk⟩
 rw [WO,Zd4 (by simp;omega) (by omega),Zz8,
  Zfw 112 (by omega) v.list (WO k) (VY (WO k) v) hx (fun n out i=>by rw [VY]) (by omega) (by omega),Zz8,
  Zfw 48 (by omega) v.rows ZfK (VX v) (fun r hr=>ZpR r (by have:=l.row r hr;omega)) (fun n out i=>by rw [VX]) (by omega) (by omega)]
 simp only [Zz8,List.nil_append];cases v;rfl
theorem ZhZ:∀v:Za,v.bk<=1073741824->Ev fun k=>YG k v=some v:=by
 refine Za.ind fun v ih hb=> ?_;have l:=v.ZtK;have:=l.list;have:=l.cols;have:=l.rows;refine Ev.pred (p:=fun k=>YG (k+1) v=some v) (((Ev.all v.list fun y hy=>ih y hy (by have:=l.el y hy;omega)).and (Ev.ge (v.list.length+v.rows.length+2))).pred ?_) fun k h=>h;rintro k ⟨hx,hk⟩
 rw [YG,UA,
  Zfw 112 (by omega) v.list (YG k) (Xa (YG k) v.list) hx (fun n out i=>by rw [Xa]) (by omega) (by omega),Zz8,Zz8,
  Zd4 (by simp;omega) (by omega),Zz8,
  Zfw 48 (by omega) v.rows KS (XT v) (fun r hr=>Zqu r (by have:=l.row r hr;omega)) (fun n out i=>by rw [XT]) (by omega) (by omega)]
 simp only [Zz8,List.nil_append];cases v;rfl
def spl (sep t:ByteArray):List ByteArray:=Lib.splitB sep 0 (Lib.countB t sep) t
theorem ZqS {a b:ByteArray} (h:a.data.toList=b.data.toList):a=b:=ByteArray.ext (Array.toList_inj.1 h)
theorem ZpI (sep:ByteArray):∀(k:Nat) (s:ByteArray) (x:ByteArray),x∈Lib.splitB sep 0 k s->x.size<=s.size
 | 0,s,x,h=>by simp [Lib.splitB] at h;simp [h]
 | k+1,s,x,h=>by
  unfold Lib.splitB at h
  split at h
  ·simp at h;simp [h]
  ·rcases List.mem_cons.1 h with rfl| h
   ·rw [ByteArray.size_extract];omega
   ·have:=ZpI sep k _ x h;rw [ByteArray.size_extract] at this;omega
theorem ZnC {sep t x:ByteArray} (h:x∈spl sep t):x.size<=t.size:=ZpI sep _ t x h
theorem Zj2 (sep t:ByteArray) (h1:1<=sep.size):1<=(spl sep t).length/\(spl sep t).length<=t.size+1:=by
 have h2:=Lib.splitB_all sep h1 0 _ t rfl;have h3:=Lib.countB_le sep h1 _ t (ZAe _);unfold spl;omega
theorem ZpJ (s sep:ByteArray) (h1:1<=sep.size) {fr i:Nat} (hf:fr<=i) (hi:i+sep.size<=s.size) (ho:Lib.occAt s.data.toList sep.data.toList i=true) (hn:∀j,fr<=j->j<i->Lib.occAt s.data.toList sep.data.toList j=false):
  spl sep (s.extract fr s.size)=s.extract fr i::spl sep (s.extract (i+sep.size) s.size):=by
 have tl:=Lib.extract_to_end s fr;have hsz:=Lib.size_eq s;have occ:∀j,Lib.occAt (s.data.toList.drop fr) sep.data.toList j=Lib.occAt s.data.toList sep.data.toList (fr+j):=fun j=>by unfold Lib.occAt;rw [List.drop_drop]
 have idx:Lib.indexB (s.extract fr s.size) sep=((i-fr:Nat):Int):=by
  show Lib.index _ _=_;rw [tl];refine Lib.index_first (by rw [List.length_drop];omega) ?_ fun j hj=> ?_
  ·rw [occ,show fr+(i-fr)=i by omega];exact ho
  ·rw [occ];exact hn _ (by omega) (by omega)
 have cnt:=Lib.countB_hit _ sep (i-fr) h1 idx
 have e2:(s.extract fr s.size).extract (i-fr+sep.size) (s.extract fr s.size).size=s.extract (i+sep.size) s.size:=by
  apply ZqS;rw [Lib.extract_to_end,tl,Lib.extract_to_end,List.drop_drop]
  congr 1;omega
 have e1:(s.extract fr s.size).extract 0 (i-fr+0)=s.extract fr i:=by
  apply ZqS;rw [Lib.extract_data,tl,Lib.extract_data,List.drop_zero]
  congr 1
 unfold spl;rw [cnt,Nat.add_comm,Lib.splitB_hit sep 0 _ _ (i-fr) idx,e1,e2]
theorem ZnD (s sep:ByteArray) {fr:Nat} (hn:∀j,fr<=j->Lib.occAt s.data.toList sep.data.toList j=false):spl sep (s.extract fr s.size)=[s.extract fr s.size]:=by
 have idx:Lib.indexB (s.extract fr s.size) sep= -1:=by
  show Lib.index _ _=_;rw [Lib.extract_to_end];refine Lib.index_none fun j _=> ?_;unfold Lib.occAt;rw [List.drop_drop];exact hn _ (by omega)
 unfold spl;rw [Lib.splitB_miss _ _ _ _ idx]
theorem Zwk (l:List UInt8) (c:UInt8) (j:Nat):Lib.occAt l [c] j=decide (l[j]? =some c):=by
 unfold Lib.occAt
 by_cases h:j<l.length
 ·rw [List.drop_eq_getElem_cons h,ZAg h];simp [List.isPrefixOf,eq_comm]
  rfl
 ·rw [List.drop_eq_nil_of_le (by omega),List.getElem?_eq_none (by omega)];simp
theorem Zw9 (l:List UInt8) (c d:UInt8) (j:Nat):Lib.occAt l [c,d] j=(decide (l[j]? =some c)&&decide (l[j+1]? =some d)):=by
 have:=Zwk l d (j+1);unfold Lib.occAt at this ⊢
 by_cases h:j<l.length
 ·rw [List.drop_eq_getElem_cons h,ZAg h,<-this];simp only [List.isPrefixOf]
  congr 1
  simp [eq_comm]
  rfl
 ·rw [List.drop_eq_nil_of_le (by omega),List.getElem?_eq_none (by omega)];simp
theorem whole (s:ByteArray):s.extract 0 s.size=s:=by apply ZqS;rw [Lib.extract_to_end];simp
theorem Zoz (s:ByteArray) (hs:s.size<=120) (c:UInt8):∀(m fr i:Nat) (out:List ByteArray) (n:Nat),i+m=s.size+1->fr<=i->(m=0->fr=s.size+1)->out.length<=i->(∀j,fr<=j->j<i->s.data.toList[j]? ≠some c)->m<n->
  Y8 s (c.toNat:Int) n out fr i=some (out++if fr<=s.size then spl ⟨#[c]⟩ (s.extract fr s.size) else []):=by
 have hsz:=Lib.size_eq s;have hsep:(⟨#[c]⟩:ByteArray).data.toList=[c]:=rfl;intro m
 induction m with
 | zero=>
  intro fr i out n hi hf h0 hl hn hm;obtain ⟨n,rfl⟩:∃n',n=n'+1:=⟨n-1,by omega⟩;have:=h0 rfl;rw [Y8,if_neg (by simp;omega),if_neg (by omega),List.append_nil]
 | succ m ih=>
  intro fr i out n hi hf h0 hl hn hm;obtain ⟨n,rfl⟩:∃n',n=n'+1:=⟨n-1,by omega⟩;rw [Y8,if_pos (decide_eq_true (by omega)),if_pos (show fr<=s.size by omega)];have hcut:UN s (fr:Int) (i:Int)=some (s.extract fr i):=Zcn s hs hf (by omega);have happ:YH 16 out [s.extract fr i]=some (out++[s.extract fr i]):=XG (by simp;omega) (by omega)
  by_cases he:i=s.size
  ·subst he;rw [decide_eq_true (show ((s.size:Nat):Int)=(s.size:Int) from rfl)];simp only [if_true,Zz8,hcut,happ];rw [wS s.size (by omega),ih (s.size+1) (s.size+1) _ n (by omega) (by omega) (fun _=>rfl) (by simp;omega) (fun j h1 h2=>by omega) (by omega),if_neg (by omega),List.append_nil,ZnD];intro j hj;rw [hsep,Zwk]
   by_cases h2:j<s.size
   ·simpa using hn j hj h2
   ·rw [List.getElem?_eq_none (by omega)];simp
  ·have hlt:i<s.data.toList.length:=by omega
   have hat:at? s.data.toList (i:Int)=some s.data.toList[i]:=ZJ hlt;have hget:s.data.toList[i]? =some s.data.toList[i]:=ZAg hlt;generalize s.data.toList[i]=d at hat hget;rw [decide_eq_false (show ¬((i:Int)=(s.size:Int)) by omega)];simp only [ZAf,if_false,hat,Zz8];have hd:decide ((d.toNat:Int)=(c.toNat:Int))=decide (d=c):=u8i d c;rw [hd]
   by_cases hdc:d=c
   ·subst hdc;simp only [decide_true,if_true,hcut,happ,Zz8];rw [wS i (by omega),ih (i+1) (i+1) _ n (by omega) (by omega) (fun h=>by omega) (by simp;omega) (fun j h1 h2=>by omega) (by omega),if_pos (by omega)];rw [ZpJ s ⟨#[d]⟩ (ZAe 1) hf (by show i+1<=s.size;omega) (by rw [hsep,Zwk,hget];simp) (fun j h1 h2=>by rw [hsep,Zwk];simpa using hn j h1 h2)];rw [List.append_assoc];rfl
   ·rw [decide_eq_false hdc];simp only [ZAf,if_false,Zz8]
    rw [wS i (by omega),ih fr (i+1) out n (by omega) (by omega) (fun h=>by omega) (by omega) (fun j h1 h2=>by
     by_cases hj:j=i
     ·subst hj;rw [hget];simpa using hdc
     ·exact hn j h1 (by omega)) (by omega),if_pos (by omega)]
def sp:ByteArray:=⟨#[32]⟩
theorem Zj5 (s:ByteArray) (hs:s.size<=120) {k:Nat} (hk:2000<=k):WZ k s 32=some (spl sp s):=by
 unfold WZ;have:=Zoz s hs 32 (s.size+1) 0 0 [] k (by omega) (by omega) (by omega) (by simp) (fun j h1 h2=>by omega) (by omega);have:Y8 s 32 k [] 0 0=some ([]++if 0<=s.size then spl sp (s.extract 0 s.size) else []):=this;rw [this,if_pos (by omega),whole];rfl
theorem Zko (s:ByteArray) (hs:s.size<=120):W0 s 32=some (spl sp s):=by
 unfold W0 YL;have e:Zne [32]=sp:=by decide
 rw [e,if_pos ⟨by omega,by decide⟩];rfl
def ZoB:ByteArray:=⟨#[59,32]⟩
theorem ZoG (s:ByteArray) (hs:s.size<=120):∀(m fr i:Nat) (out:List ByteArray),i+m=s.size->fr<=i->out.length<=i->(∀j,fr<=j->j<i->Lib.occAt s.data.toList ZoB.data.toList j=false)->
  ∃ps f2,f2<=s.size/\out.length+ps.length<=s.size/\ps++[s.extract f2 s.size]=spl ZoB (s.extract fr s.size)/\∀n,m<n->ZX s n out fr i=some (out++ps,(f2:Int)):=by
 have hsz:=Lib.size_eq s;have hsep:ZoB.data.toList=[59,32]:=rfl;intro m
 induction m using Nat.strongRecOn with
 | _ m ih=>
 intro fr i out hi hf hl hn
 by_cases hlt:i+1<s.size
 ·have hl0:i<s.data.toList.length:=by omega
  have hl1:i+1<s.data.toList.length:=by omega
  have hat:at? s.data.toList (i:Int)=some s.data.toList[i]:=ZJ hl0;have hat1:at? s.data.toList ((i+1:Nat):Int)=some s.data.toList[i+1]:=ZJ hl1;have hget:s.data.toList[i]? =some s.data.toList[i]:=ZAg hl0;have hget1:s.data.toList[i+1]? =some s.data.toList[i+1]:=ZAg hl1;generalize s.data.toList[i]=c at hat hget;generalize s.data.toList[i+1]=d at hat1 hget1;have hc:decide ((c.toNat:Int)=59)=decide (c=59):=u8i c 59;have hd:decide ((d.toNat:Int)=32)=decide (d=32):=u8i d 32
  have step:∀n,ZX s (n+1) out fr i=(if (decide (c=59)&&decide (d=32))=true then (UN s fr i).bind fun x11=>(YH 16 out [x11]).bind fun x12=>ZX s n x12 ((i+2:Nat):Int) ((i+1:Nat):Int) else ZX s n out fr ((i+1:Nat):Int)):=by
   intro n;rw [ZX,wS i (by omega),if_pos (decide_eq_true (by omega)),hat,hat1];simp only [Zz8,hc,hd];rw [show IntKind.i64.wrap ((i:Int)+2)=((i+2:Nat):Int) by rw [w64 (by omega) (by omega)];rfl];cases decide (c=59)
   ·simp
   ·cases decide (d=32)
    ·simp
    ·simp only [if_true,Bool.and_self,Zz8];cases UN s fr i with
     | none=>rfl
     | some x=>simp only [Zz8];cases YH 16 out [x]<;>rfl
  have hcut:UN s (fr:Int) (i:Int)=some (s.extract fr i):=Zcn s hs hf (by omega);have happ:YH 16 out [s.extract fr i]=some (out++[s.extract fr i]):=XG (by simp;omega) (by omega)
  by_cases hh:c=59/\d=32
  ·obtain ⟨rfl,rfl⟩:=hh;have ho:Lib.occAt s.data.toList ZoB.data.toList i=true:=by rw [hsep,Zw9,hget,hget1];simp
   have hspl:=ZpJ s ZoB (by decide) hf (by show i+2<=s.size;omega) ho hn;have hspl:spl ZoB (s.extract fr s.size)=s.extract fr i::spl ZoB (s.extract (i+2) s.size):=hspl;obtain ⟨ps,f2,a1,a2,a3,a4⟩:=ih (m-2) (by omega) (i+2) (i+2) (out++[s.extract fr i]) (by omega) (by omega) (by simp;omega) (fun j h1 h2=>by omega);refine ⟨s.extract fr i::ps,f2,a1,by simp at a2 ⊢;omega,by rw [hspl,<-a3];rfl,fun n hm=> ?_⟩;obtain ⟨n,rfl⟩:∃n',n=n'+2:=⟨n-2,by omega⟩;rw [step (n+1)];simp only [decide_true,Bool.and_self,if_true,hcut,happ,Zz8]
   by_cases h2:i+2<s.size
   ·have hl2:i+1+1<s.data.toList.length:=by omega
    rw [ZX,wS (i+1) (by omega),if_pos (decide_eq_true (by omega)),hat1];simp only [Zz8];rw [show (decide (((32:UInt8).toNat:Int)=59))=false from rfl];simp only [ZAf,if_false,Zz8];rw [a4 n (by omega)];simp
   ·have:=a4 (n+1) (by omega);rw [ZX,wS (i+2) (by omega),if_neg (by simp;omega)] at this;rw [ZX,wS (i+1) (by omega),if_neg (by simp;omega)];rw [this];simp
  ·have hno:(decide (c=59)&&decide (d=32))=false:=by
    by_cases h1:c=59
    ·have:d≠32:=fun h=>hh ⟨h1,h⟩;simp [this]
    ·simp [h1]
   obtain ⟨ps,f2,a1,a2,a3,a4⟩:=ih (m-1) (by omega) fr (i+1) out (by omega) (by omega) (by omega) (fun j h1 h2=>by
    by_cases hj:j=i
    ·subst hj;rw [hsep,Zw9,hget,hget1];simpa using hno
    ·exact hn j h1 (by omega))
   refine ⟨ps,f2,a1,a2,a3,fun n hm=> ?_⟩;obtain ⟨n,rfl⟩:∃n',n=n'+1:=⟨n-1,by omega⟩;rw [step n,hno];simp only [ZAf,if_false];exact a4 n (by omega)
 ·refine ⟨[],fr,by omega,by simp;omega, ?_,fun n hm=> ?_⟩
  ·rw [ZnD,List.nil_append];intro j hj
   by_cases h2:j<i
   ·exact hn j hj h2
   ·rw [hsep,Zw9,List.getElem?_eq_none (show s.data.toList.length<=j+1 by omega)];simp
  ·obtain ⟨n,rfl⟩:∃n',n=n'+1:=⟨n-1,by omega⟩;rw [ZX,wS i (by omega),if_neg (by simp;omega),List.append_nil]
theorem ZpS (s:ByteArray) (hs:s.size<=120) {k:Nat} (hk:2000<=k):U2 k s=some (spl ZoB s):=by
 obtain ⟨ps,f2,a1,a2,a3,a4⟩:=ZoG s hs s.size 0 0 [] (by omega) (by omega) (by simp) (fun j h1 h2=>by omega);unfold U2;have:=a4 k (by omega);have:ZX s k [] 0 0=some ([]++ps,(f2:Int)):=this;rw [this];simp only [Zz8,List.nil_append];rw [Zcn s hs a1 (ZAe _)];simp only [Zz8];rw [XG (by simp at a2 ⊢;omega) (by omega),a3,whole];rfl
theorem Zqv (s:ByteArray) (hs:s.size<=120):YL s (⟨#[59,32]⟩:ByteArray)=some (spl ZoB s):=by
 unfold YL;rw [if_pos ⟨by omega,by decide⟩];rfl
def ZhO:List ByteArray->Option (List Int)
 | []=>some []
 | w::ws=>if (Xj w (-1000000000) 1000000000).2=true then (ZhO ws).map fun ns=>(Xj w (-1000000000) 1000000000).1::ns else none
theorem ZlF:∀{ws:List ByteArray} {ns:List Int},ZhO ws=some ns->ns.length=ws.length
 | [],ns,h=>by simp [ZhO] at h;simp [<-h]
 | w::ws,ns,h=>by
  unfold ZhO at h
  split at h
  ·obtain ⟨ms,h1,rfl⟩:=Option.map_eq_some_iff.1 h;simp [ZlF h1]
  ·cases h
theorem Zrr (ws:List ByteArray) (hl:ws.length<=1000) (hs:∀w∈ws,w.size<=120):∀(m i:Nat) (out:List Int),i+m=ws.length->out.length<=i->
  (∀ns,ZhO (ws.drop i)=some ns->∀k n,2000<=k->m<n->YQ k ws n out i=some (.inl (out++ns))/\Yy ws n out i=some (.inl (out++ns)))/\
  (ZhO (ws.drop i)=none->∃r,r.length<=ws.length/\∀k n,2000<=k->m<n->YQ k ws n out i=some (.inr (r,false))/\Yy ws n out i=some (.inr ([],false))):=by
 intro m
 induction m with
 | zero=>
  intro i out hi hlo;rw [List.drop_eq_nil_of_le (by omega)];refine ⟨fun ns h k n hk hn=> ?_,fun h=>by cases h⟩;obtain rfl:ns=[]:=by simpa [ZhO] using h.symm
  obtain ⟨n,rfl⟩:∃n',n=n'+1:=⟨n-1,by omega⟩;rw [YQ,Yy,if_neg (Ql (by omega)),if_neg (Ql (by omega)),List.append_nil];exact ⟨rfl,rfl⟩
 | succ m ih=>
  intro i out hi hlo;have hlt:i<ws.length:=by omega
  have hat:at? ws (i:Int)=some ws[i]:=ZJ hlt;have hw:=hs ws[i] (List.getElem_mem hlt);rw [List.drop_eq_getElem_cons hlt];generalize ws[i]=w at hat hw;have hp:Zb2 w (-1000000000) 1000000000=some (Xj w (-1000000000) 1000000000):=by unfold Zb2;rw [if_pos (by omega)]
  have hr:=Zje w (-1000000000) 1000000000 (by omega) (by omega)
  have hb:∀k,2000<=k->((Wv k w).bind fun x6=>(if (!x6.2)=true then some true else (YN x6.1).bind fun x8=>some (!x8)).bind fun x7=>some (x6.1,x7))=some ((Uy w).1,!(Xj w (-1000000000) 1000000000).2):=by
   intro k hk;rw [ZhM w (by omega) (by omega),hr];simp only [Zz8];generalize Uy w=rv;cases h2:rv.2 with
   | false=>simp
   | true=>
    simp only [Bool.not_true,ZAf,if_false,true_and];unfold YN;rw [V8];simp only [Zz8]
    by_cases h3: -1000000000<=rv.1/\rv.1<=1000000000
    ·rw [if_pos h3];simp [h3.1,h3.2]
    ·rw [if_neg h3]
     have:(decide (-1000000000<=rv.1)&&decide (rv.1<=1000000000))=false:=by
      by_cases h4: -1000000000<=rv.1
      ·have:¬rv.1<=1000000000:=fun h=>h3 ⟨h4,h⟩;simp [this]
      ·simp [h4]
     rw [this]
  have sstep:∀k n,2000<=k->YQ k ws (n+1) out i=(if (!(Xj w (-1000000000) 1000000000).2)=true then some (.inr (out,false)) else (YH 8 out [(Uy w).1]).bind fun x9=>YQ k ws n x9 ((i+1:Nat):Int)):=by
   intro k n hk;have:=hb k hk;rw [YQ,if_pos (ZE hlt),hat,wS i (by omega)];simp only [Zz8];cases hq:Wv k w with
   | none=>rw [hq] at this;cases this
   | some x6=>
    rw [hq] at this;simp only [Zz8] at this ⊢;cases hq2:(if (!x6.2)=true then some true else (YN x6.1).bind fun x8=>some (!x8)) with
    | none=>rw [hq2] at this;cases this
    | some x7=>
     rw [hq2] at this;simp only [Zz8,ZAb,ZAc] at this ⊢;rw [this.2,this.1]
  have istep:∀n,Yy ws (n+1) out i=(if (!(Xj w (-1000000000) 1000000000).2)=true then some (.inr ([],false)) else (YH 8 out [(Xj w (-1000000000) 1000000000).1]).bind fun x7=>Yy ws n x7 ((i+1:Nat):Int)):=by
   intro n;rw [Yy,if_pos (ZE hlt),hat,wS i (by omega)];simp only [Zz8,hp]
  unfold ZhO;cases hv:(Xj w (-1000000000) 1000000000).2 with
  | false=>
   rw [hv] at sstep istep;refine ⟨fun ns h=>by simp at h,fun _=>⟨out,by omega,fun k n hk hn=> ?_⟩⟩;obtain ⟨n,rfl⟩:∃n',n=n'+1:=⟨n-1,by omega⟩;exact ⟨by rw [sstep k n hk];rfl,by rw [istep n];rfl⟩
  | true=>
   rw [hv] at sstep istep
   have e1:(Xj w (-1000000000) 1000000000).1=(Uy w).1:=by
    rw [hr] at hv ⊢
    split
    ·rfl
    ·rename_i h;rw [if_neg h] at hv;cases hv
   have ha:YH 8 out [(Uy w).1]=some (out++[(Uy w).1]):=XG (by simp;omega) (by omega);obtain ⟨g1,g2⟩:=ih (i+1) (out++[(Uy w).1]) (by omega) (by simp;omega);simp only [if_true];refine ⟨fun ns h=> ?_,fun h=> ?_⟩
   ·obtain ⟨ms,h1,rfl⟩:=Option.map_eq_some_iff.1 h;intro k n hk hn;obtain ⟨n,rfl⟩:∃n',n=n'+1:=⟨n-1,by omega⟩;obtain ⟨q1,q2⟩:=g1 ms h1 k n hk (by omega);rw [sstep k n hk,istep n,e1,ha];simp only [Bool.not_true,ZAf,if_false,Zz8,q1,q2];simp
   ·have h1:ZhO (ws.drop (i+1))=none:=by
     cases hx:ZhO (ws.drop (i+1)) with
     | none=>rfl
     | some ms=>rw [hx] at h;cases h
    obtain ⟨r,r0,r1⟩:=g2 h1;refine ⟨r,r0,fun k n hk hn=> ?_⟩;obtain ⟨n,rfl⟩:∃n',n=n'+1:=⟨n-1,by omega⟩;obtain ⟨q1,q2⟩:=r1 k n hk (by omega);rw [sstep k n hk,istep n,e1,ha];simp only [Bool.not_true,ZAf,if_false,Zz8,q1,q2];exact ⟨trivial,trivial⟩
theorem Zu6 (s:ByteArray) (hs:s.size<=120) (c:Int):∃(rs ri:List Int) (b:Bool),(b=true->rs=ri)/\ri.length<=121/\∀k,2000<=k->JS k s c=some (rs,b)/\Uz k s c=some (ri,b):=by
 obtain ⟨l1,l2⟩:=Zj2 sp s (by decide);obtain ⟨g1,g2⟩:=Zrr (spl sp s) (by omega) (fun w hw=>by have:=ZnC hw;omega) (spl sp s).length 0 [] (by omega) (by simp);rw [List.drop_zero] at g1 g2;cases hv:ZhO (spl sp s) with
 | some ns=>
  have hl:=ZlF hv;refine ⟨ns,ns,decide ((ns.length:Int)=c),fun _=>rfl,by omega,fun k hk=> ?_⟩;obtain ⟨q1,q2⟩:=g1 ns hv k k hk (by omega);have q1:YQ k (spl sp s) k [] 0=some (.inl ([]++ns)):=q1;have q2:Yy (spl sp s) k [] 0=some (.inl ([]++ns)):=q2;constructor
  ·unfold JS;rw [Zj5 s hs hk];simp only [Zz8];rw [q1];rfl
  ·unfold Uz;rw [Zko s hs];simp only [Zz8];rw [q2];rfl
 | none=>
  obtain ⟨r,r0,r1⟩:=g2 hv;refine ⟨r,[],false,fun h=>(by cases h),by simp,fun k hk=> ?_⟩;obtain ⟨q1,q2⟩:=r1 k k hk (by omega);have q1:YQ k (spl sp s) k [] 0=some (.inr (r,false)):=q1;have q2:Yy (spl sp s) k [] 0=some (.inr ([],false)):=q2;constructor
  ·unfold JS;rw [Zj5 s hs hk];simp only [Zz8];rw [q1];rfl
  ·unfold Uz;rw [Zko s hs];simp only [Zz8];rw [q2];rfl
def cix (nb:Zh) (id:Int):Int:=Za9 (fun x:Zs=>decide (x.id=id)) nb.cells
theorem Kc (nb:Zh) (id:Int) (hl:nb.cells.length<=4294967296) {k:Nat} (hk:nb.cells.length<k):YR k nb id=some (cix nb id):=by
 unfold YR cix Za9
 rw [Zck nb.cells (fun x=>decide (x.id=id)) (Yp nb id) (fun i=>some (.inr (i:Int))) (some (.inl ()))
  (fun n i h hp=>by rw [Yp,if_pos (ZE h),ZJ h,Zz8,if_neg (by simpa using hp),wS i (by omega)])
  (fun n i h hp=>by rw [Yp,if_pos (ZE h),ZJ h,Zz8,if_pos hp])
  (fun n=>by rw [Yp,if_neg (Ql (ZAe _))]) hk]
 split<;>rfl
theorem Zdy (nb:Zh) (id:Int) (hl:nb.cells.length<=4294967296) {k:Nat} (hk:nb.cells.length<k):Qn k nb id=some (cix nb id):=by
 rw [Zh5];exact Kc nb id hl hk
theorem Zso (nb:Zh):nb.cells.length<=nb.bk:=by rw [Zh.ZB];have:=ZL (f:=Zs.bk) (xs:=nb.cells);omega
def Zv4 (c:UInt8):Bool:=decide ((c.toNat:Int)<32)||decide (126<(c.toNat:Int))
def ZfP (s:ByteArray):Bool:=!(s.data.toList.any Zv4)&&decide ((s.size:Int)<=120)
theorem ZhD (s:ByteArray) (hs:(s.size:Int)<=9223372036854775807) {k:Nat} (hk:s.size<k):Xr k s=some (ZfP s):=by
 have hT:∀x∈s.data.toList,(fun c:UInt8=>(if (decide ((c.toNat:Int)<32))=true then some true else some (decide (126<(c.toNat:Int))):Option Bool)) x=some (Zv4 x):=by
  intro x _;unfold Zv4;simp only;cases decide ((x.toNat:Int)<32)<;>simp
 unfold Xr ZfP;rw [YV s.data.toList Zv4 _ false () (Yv s) hT (fun n i=>by rw [Yv,Qi];simp only [Option.bind_assoc]) (by rw [Qi];exact hs) (by rw [Qi];exact hk)];cases s.data.toList.any Zv4<;>simp
theorem ZmW (s:ByteArray) (hs:(s.size:Int)<=9223372036854775807) {k:Nat} (hk:s.size<k):WD k s=some (ZfP s):=by
 rw [Zf0];exact ZhD s hs hk
def UL (c:Zs):Bool:= ((decide (1<=c.id)&&decide (c.id<=999))&&(decide (1<=c.version)&&decide (c.version<=999))&&ZfP c.code)&& (if c.kind=1 then decide (c.name=(⟨#[]⟩:ByteArray))&&decide (c.n=0) else if c.kind=2\/c.kind=4 then WJ c.name&&decide (c.n=0) else if c.kind=3 then WJ c.name&&(decide (c.code=(⟨#[]⟩:ByteArray))&&(decide (0<=c.n)&&decide (c.n<=100))) else false)
theorem Zhu (c:Zs) (hc:c.bk<=1048576) {k:Nat} (hk:1048600<k):YY k c=some (UL c)/\Y1 k c=some (UL c):=by
 have e:=Zs.ZB c;obtain ⟨n1,n2⟩:=Jh c.name (by omega) (show c.name.size<k by omega) (by omega);have p1:=ZhD c.code (by omega) (show c.code.size<k by omega);have p2:=ZmW c.code (by omega) (show c.code.size<k by omega);unfold YY Y1 UL;rw [n1,n2,p1,p2];simp only [V8,Kf,Zz8];generalize (decide (1<=c.id)&&decide (c.id<=999))=A;generalize (decide (1<=c.version)&&decide (c.version<=999))=B;generalize ZfP c.code=C;generalize WJ c.name=D;generalize decide (c.name=(⟨#[]⟩:ByteArray))=E;generalize decide (c.code=(⟨#[]⟩:ByteArray))=F;generalize (decide (0<=c.n)&&decide (c.n<=100))=G;generalize decide (c.n=0)=H
 by_cases h1:c.kind=1
 ·simp only [h1,decide_true,if_true];cases A<;>cases B<;>cases C<;>cases E<;>cases H<;>exact ⟨rfl,rfl⟩
 by_cases h2:c.kind=2
 ·simp only [h2];cases A<;>cases B<;>cases C<;>cases D<;>cases H<;>exact ⟨rfl,rfl⟩
 by_cases h4:c.kind=4
 ·simp only [h4];cases A<;>cases B<;>cases C<;>cases D<;>cases H<;>exact ⟨rfl,rfl⟩
 by_cases h3:c.kind=3
 ·simp only [h3];cases A<;>cases B<;>cases C<;>cases D<;>cases F<;>cases G<;>exact ⟨rfl,rfl⟩
 simp only [h1,h2,h3,h4,decide_false,if_false,or_self];cases A<;>cases B<;>cases C<;>exact ⟨rfl,rfl⟩
def Zcp (nb:Zh) (j:Nat) (c:Zs):Bool:=!UL c||!decide (cix nb c.id=(j:Int))
def Zpm (nb:Zh):Bool:=!anyI (Zcp nb) 0 nb.cells&&decide ((nb.cells.length:Int)<=8)
theorem ZjV (nb:Zh) (hb:nb.bk<=1048576) {k:Nat} (hk:1048600<k):Q7 k nb=some (Zpm nb)/\Xc k nb=some (Zpm nb):=by
 have e:=Zh.ZB nb;have hl:=Zso nb
 have hc:∀j (h:j<nb.cells.length),YY k nb.cells[j]=some (UL nb.cells[j])/\Y1 k nb.cells[j]=some (UL nb.cells[j]):=fun j h=>by
  have:=Yl (f:=Zs.bk) (List.getElem_mem h);exact Zhu _ (by omega) hk
 constructor
 ·unfold Q7 Zpm
  rw [U9 nb.cells (Zcp nb) (fun i x3=>(YY k x3).bind fun x4=>if (!x4)=true then some true else (YR k nb x3.id).bind fun x5=>some (!decide (x5=i))) false () (Yt k nb)
   (fun j h=>by rw [(hc j h).1,Kc nb _ (by omega) (by omega)];unfold Zcp;simp only [Zz8];cases UL nb.cells[j]<;>simp)
   (fun n i=>by rw [Yt];simp only [Option.bind_assoc]) (by omega) (by omega)]
  cases anyI (Zcp nb) 0 nb.cells<;>simp
 ·unfold Xc Zpm
  rw [U9 nb.cells (Zcp nb) (fun i x3=>(Y1 k x3).bind fun x4=>if (!x4)=true then some true else (Qn k nb x3.id).bind fun x5=>some (!decide (x5=i))) false () (Yu k nb)
   (fun j h=>by rw [(hc j h).2,Zdy nb _ (by omega) (by omega)];unfold Zcp;simp only [Zz8];cases UL nb.cells[j]<;>simp)
   (fun n i=>by rw [Yu]) (by omega) (by omega)]
  cases anyI (Zcp nb) 0 nb.cells<;>simp
theorem Zjz {α:Type} {t:Nat->α->Bool}:∀{xs:List α} {i:Nat},anyI t i xs=false->∀x∈xs,∃j,t j x=false
 | [],_,_,x,hx=>by simp at hx
 | y::ys,i,h,x,hx=>by
  simp only [anyI,Bool.or_eq_false_iff] at h;rcases List.mem_cons.1 hx with rfl| hx
  ·exact ⟨i,h.1⟩
  ·exact Zjz h.2 x hx
theorem ZoI {nb:Zh} (h:Zpm nb=true):nb.cells.length<=8/\∀c∈nb.cells,UL c=true:=by
 unfold Zpm at h;simp only [ZAd,Bool.not_eq_true',decide_eq_true_eq] at h;refine ⟨by omega,fun c hc=> ?_⟩;obtain ⟨j,hj⟩:=Zjz h.1 c hc;unfold Zcp at hj;simp only [Bool.or_eq_false_iff,Bool.not_eq_false'] at hj;exact hj.1
theorem Zpy (s:ByteArray) (hs:s.size<=120):∀(m a:Nat) (out:List Zg),a<=s.size->s.size-a<=m->out.length<=60->(∀t∈out,WFt t)->
  ∃r,(∀k n,2000<=k->m<n->ZY k s n out a=some r/\ZZ k s n out a=some r)/\(∀o,r= .inl o->o.length<=60/\∀t∈o,WFt t)/\∀z,r= .inr z->0<=z.2:=by
 have hsz:=Zrl s hs
 have stop:∀(m a:Nat) (out:List Zg),s.size<=a->out.length<=60->(∀t∈out,WFt t)->
   ∃r,(∀k n,2000<=k->m<n->ZY k s n out a=some r/\ZZ k s n out a=some r)/\(∀o,r= .inl o->o.length<=60/\∀t∈o,WFt t)/\∀z,r= .inr z->0<=z.2:=by
  intro m a out ha hl hw;refine ⟨.inl out,fun k n hk hn=> ?_,(fun o e=>by cases e;exact ⟨hl,hw⟩),fun z e=>by cases e⟩;obtain ⟨n,rfl⟩:∃n',n=n'+1:=⟨n-1,by omega⟩;exact ⟨by rw [ZY,if_neg (Ql (by omega))],by rw [ZZ,if_neg (Ql (by omega))]⟩
 intro m
 induction m with
 | zero=>intro a out ha hm hl hw;exact stop 0 a out (by omega) hl hw
 | succ m ih=>
  intro a out ha hm hl hw
  by_cases hlt:a<s.size
  ·have hla:a<s.data.toList.length:=by omega
   have hat:at? s.data.toList (a:Int)=some s.data.toList[a]:=ZJ hla;generalize s.data.toList[a]=c at hat
   by_cases h32:(c.toNat:Int)=32
   ·obtain ⟨r,r1,r2,r3⟩:=ih (a+1) out (by omega) (by omega) hl hw;refine ⟨r,fun k n hk hn=> ?_,r2,r3⟩;obtain ⟨n,rfl⟩:∃n',n=n'+1:=⟨n-1,by omega⟩;rw [ZY,ZZ,if_pos (ZE hlt),if_pos (ZE hlt),hat];simp only [Zz8];rw [if_pos (decide_eq_true h32),if_pos (decide_eq_true h32),wS a (by omega)];exact r1 k n hk (by omega)
   ·have start:∀k n,ZY k s (n+1) out a=((QX k s a).bind fun x5=>(if (decide (x5.2=0))=true then some true else some (decide ((out.length:Int)=60))).bind fun x6=>if x6=true then some (.inr (([]:List Zg),(a:Int))) else (YH 40 out [x5.1]).bind fun x7=>ZY k s n x7 (IntKind.i64.wrap ((a:Int)+x5.2)))/\
      ZZ k s (n+1) out a=((YU k s a).bind fun x5=>(if (!x5.2.2)=true then some true else some (decide ((out.length:Int)=60))).bind fun x6=>if x6=true then some (.inr (([]:List Zg),(a:Int))) else (YH 40 out [x5.1]).bind fun x7=>ZZ k s n x7 x5.2.1):=by
     intro k n;rw [ZY,ZZ,if_pos (ZE hlt),if_pos (ZE hlt),hat];simp only [Zz8];rw [if_neg (by simpa using h32),if_neg (by simpa using h32)];exact ⟨rfl,rfl⟩
    rcases ZuM s hs a hlt with ⟨t,e,h1,h2,h3,h4⟩| ⟨t,t',e,h4⟩
    ·by_cases h60:out.length=60
     ·refine ⟨.inr ([],a),fun k n hk hn=> ?_,(fun o e=>by cases e),fun z e=>by cases e;show (0:Int)<=a;omega⟩;obtain ⟨n,rfl⟩:∃n',n=n'+1:=⟨n-1,by omega⟩;obtain ⟨q1,q2⟩:=h4 k hk;rw [(start k n).1,(start k n).2,q1,q2];have hd:decide ((out.length:Int)=60)=true:=by simp;omega
      simp [hd]
     ·obtain ⟨r,r1,r2,r3⟩:=ih e (out++[t]) h2 (by omega) (by simp;omega) (fun t' ht=>by
       rcases List.mem_append.1 ht with ht| ht
       ·exact hw t' ht
       ·simp at ht;rw [ht];exact h3)
      refine ⟨r,fun k n hk hn=> ?_,r2,r3⟩;obtain ⟨n,rfl⟩:∃n',n=n'+1:=⟨n-1,by omega⟩;obtain ⟨q1,q2⟩:=h4 k hk;have hd:decide ((out.length:Int)=60)=false:=by simp;omega
      have hd2:decide ((((e-a:Nat):Int))=0)=false:=by simp;omega
      rw [(start k n).1,(start k n).2,q1,q2];simp only [Zz8,Bool.not_true,ZAf,if_false,hd,hd2];rw [XG (by simp;omega) (by omega)];simp only [Zz8];rw [show IntKind.i64.wrap ((a:Int)+((e-a:Nat):Int))=(e:Int) by rw [w64 (by omega) (by omega)];omega];exact r1 k n hk (by omega)
    ·refine ⟨.inr ([],a),fun k n hk hn=> ?_,(fun o e=>by cases e),fun z e=>by cases e;show (0:Int)<=a;omega⟩;obtain ⟨n,rfl⟩:∃n',n=n'+1:=⟨n-1,by omega⟩;obtain ⟨q1,q2⟩:=h4 k hk;rw [(start k n).1,(start k n).2,q1,q2];simp
  ·exact stop _ a out (by omega) hl hw
theorem Zmo (s:ByteArray):∃(T:List Zg) (b:Int),(b<0->b= -1/\s.size<=120/\ZgU T s.size)/\∀k,2000<=k->V3 k s=some (T,b)/\Ue k s=some (T,b):=by
 by_cases hs:s.size<=120
 ·obtain ⟨r,h1,h2,h3⟩:=Zpy s hs s.size 0 [] (by omega) (by omega) (by simp) (by simp);cases r with
  | inl T=>
   obtain ⟨g1,g2⟩:=h2 T rfl;refine ⟨T, -1,fun _=>⟨rfl,hs,⟨fun t ht=>(g2 t ht).nm,fun t ht=>(g2 t ht).sy,fun t ht=>(g2 t ht).at_,fun t ht=>(g2 t ht).tx,by omega,g1⟩⟩,fun k hk=> ?_⟩;obtain ⟨q1,q2⟩:=h1 k k hk (by omega);have q1:ZY k s k [] 0=some (.inl T):=q1;have q2:ZZ k s k [] 0=some (.inl T):=q2;constructor
   ·unfold V3;rw [if_neg (by simp;omega),q1];rfl
   ·unfold Ue;rw [if_neg (by simp;omega),q2];rfl
  | inr z=>
   refine ⟨z.1,z.2,fun h=>absurd h (by have:=h3 z rfl;omega),fun k hk=> ?_⟩;obtain ⟨q1,q2⟩:=h1 k k hk (by omega);have q1:ZY k s k [] 0=some (.inr z):=q1;have q2:ZZ k s k [] 0=some (.inr z):=q2;constructor
   ·unfold V3;rw [if_neg (by simp;omega),q1];rfl
   ·unfold Ue;rw [if_neg (by simp;omega),q2];rfl
 ·refine ⟨[],120,fun h=>absurd h (by decide),fun k hk=>⟨?_, ?_⟩⟩
  ·unfold V3;rw [if_pos (decide_eq_true (by omega))]
  ·unfold Ue;rw [if_pos (decide_eq_true (by omega))]
def zX:Zb:=⟨0,0,⟨#[]⟩,[]⟩
theorem Zrd:zX.bk=0:=by rw [zX,ZlT];rfl
theorem Zrx (s:ByteArray):∃r:Zb×Int,r.1.bk<=12000/\(-1<=r.2)/\Ev fun k=>Wb k s=some r/\Wi k s=some r:=by
 obtain ⟨T,b,h1,h2⟩:=Zmo s
 by_cases hb:0<=b
 ·refine ⟨(zX,b),by rw [Zrd];omega,by show -1<=b;omega,2000,fun k hk=>⟨?_, ?_⟩⟩
  ·unfold Wb;rw [(h2 k hk).1];simp only [Zz8];rw [if_pos (decide_eq_true hb)];rfl
  ·unfold Wi;rw [(h2 k hk).2];simp only [Zz8];rw [if_pos (decide_eq_true hb)];rfl
 obtain ⟨rfl,hs,ok⟩:=h1 (by omega);obtain ⟨es,ei,x',p',o',r1,g1,B,e1⟩:=Zv7 ok T.length ⟨T,0,s.size, -1⟩ ⟨T,0, -1⟩ (some 0) ⟨by omega,rfl,rfl⟩ (fun j e=>by cases e;omega);have hlen:=ok.len
 have sS:∀k,2000<=k->B<=k->Wb k s=((if (decide (x'.bad<0))=true then some (decide (x'.i<(T.length:Int))) else some false).bind fun x7=>if x7=true then (YD x').bind fun x8=>some (x8.2.toks,x8.2.i,x8.2.end_,x8.2.bad) else some (x'.toks,x'.i,x'.end_,x'.bad)).bind fun (x3,x4,x5,x6)=>if (decide (0<=x6))=true then some (zX,x6) else (Ww k es).bind fun x9=>if (!x9)=true then some (zX,0) else some (es, -1):=by
  intro k hk hB;have q:=(e1 k hB).1;dsimp only at q;unfold Wb;rw [(h2 k hk).1];simp only [Zz8];rw [if_neg (by simp),q]
  rfl
 have iS:∀k,2000<=k->B<=k->Wi k s=((if (decide (p'.bad<0))=true then some (decide (p'.at_<(T.length:Int))) else some false).bind fun x4=>if x4=true then some p'.at_ else some p'.bad).bind fun x3=>if (decide ((T.length:Int)<=x3))=true then some (zX,(s.size:Int)) else if (decide (0<=x3))=true then (at? T x3).bind fun x5=>some (zX,x5.at_) else (WC k ei).bind fun x6=>if (!x6)=true then some (zX,0) else some (ei, -1):=by
  intro k hk hB;have q:=(e1 k hB).2;dsimp only at q;unfold Wi;rw [(h2 k hk).2];simp only [Zz8];rw [if_neg (by simp),q]
  rfl
 cases o' with
 | none=>
  obtain ⟨c,c0,c1,c2,c3,c4,c5⟩:=r1;have hp:=ZnN ok c;refine ⟨(zX,Zq8 T s.size c),by rw [Zrd];omega,by show -1<=Zq8 T s.size c;omega,max 2000 B,fun k hk=>⟨?_, ?_⟩⟩
  ·rw [sS k (by omega) (by omega),c5];simp [show ¬Zq8 T s.size c<0 by omega,hp]
  ·rw [iS k (by omega) (by omega),c4];simp only [show ¬((c:Int)<0) by omega,decide_false,ZAf,if_false,Zz8]
   by_cases hc:c<T.length
   ·rw [if_neg (by simp;omega),if_pos (decide_eq_true (by omega)),ZJ hc];simp only [Zz8,Zq8,ZAg hc]
   ·rw [if_pos (decide_eq_true (by omega))];simp only [Zq8,List.getElem?_eq_none (show T.length<=c by omega)]
 | some j=>
  obtain ⟨c0,rfl,rfl⟩:=r1;obtain ⟨rfl,j0,hj0,hj1,hj2⟩:=g1 j rfl;cases hj0
  by_cases hj:j<T.length
  ·have hat:at? T (j:Int)=some T[j]:=ZJ hj;have hpos:=ok.at_ T[j] (List.getElem_mem hj)
   have f1:YD ⟨T,j,s.size, -1⟩=some (zE,⟨T,j,s.size,T[j].at_⟩):=by
    unfold YD;simp [ZE hj,hat,zE,hj]
   refine ⟨(zX,T[j].at_),by rw [Zrd];omega,by show -1<=T[j].at_;omega,max 2000 B,fun k hk=>⟨?_, ?_⟩⟩
   ·rw [sS k (by omega) (by omega)];simp only [show ((-1:Int)<0) by decide,decide_true,if_true,ZE hj,Zz8,f1];rw [if_pos (decide_eq_true hpos)]
   ·rw [iS k (by omega) (by omega)];simp only [show ((-1:Int)<0) by decide,decide_true,if_true,ZE hj,Zz8];rw [if_neg (by simp;omega),if_pos (decide_eq_true (by omega)),hat]
    rfl
  ·obtain ⟨v,B2,hv⟩:=Zpv es (by omega);have hno:decide ((j:Int)<(T.length:Int))=false:=by simp;omega
   have h9:∀k,max 2000 (max B B2)<=k->Wb k s=some (if v=true then (es, -1) else (zX,0))/\Wi k s=some (if v=true then (es, -1) else (zX,0)):=by
    intro k hk;obtain ⟨v1,v2⟩:=hv k (by omega);constructor
    ·rw [sS k (by omega) (by omega)];simp only [show ((-1:Int)<0) by decide,decide_true,if_true,hno,Zz8,ZAf,if_false];rw [if_neg (by simp),v1];cases v<;>rfl
    ·rw [iS k (by omega) (by omega)];simp only [show ((-1:Int)<0) by decide,decide_true,if_true,hno,Zz8,ZAf,if_false];rw [if_neg (by simp;omega),if_neg (by simp),v2];cases v<;>rfl
   refine ⟨_, ?_, ?_,_,h9⟩
   ·split
    ·show es.bk<=12000;omega
    ·rw [Zrd];omega
   ·split
    ·exact Int.le_refl _
    ·show (-1:Int)<=0;decide
theorem Zof {α:Type} {f:α->Nat} {B:Nat}:∀{xs:List α},(∀x∈xs,f x<=B)->bkS f xs<=xs.length*(B+1)
 | [],_=>by simp [bkS,Qh]
 | x::xs,h=>by
  have h1:=h x (by simp);have h2:=Zof (xs:=xs) fun y hy=>h y (by simp [hy]);have e:bkS f (x::xs)=1+f x+bkS f xs:=by unfold bkS;rw [List.length_cons,show Qh f (x::xs)=f x+Qh f xs from rfl];omega
  rw [e,List.length_cons,Nat.add_mul];omega
def zV:Za:=Za.mk 0 0 0 ⟨#[]⟩ [] [] []
abbrev Znk:=ByteArray->List Int×List Int×Bool
def Zpo (g:Znk) (s:ByteArray):ZM:=ZM.mk (g s).2.1 []
def Zc1 (g:Znk) (out:List ZM) (l:List ByteArray):Option (List ZM ⊕ (Za×Bool)):=if l.all (fun s=>(g s).2.2)=true then some (.inl (out++l.map (Zpo g))) else some (.inr (zV,false))
theorem ZrT {g:Znk} {out:List ZM} {s:ByteArray} {l:List ByteArray} (h:(g s).2.2=false):Zc1 g out (s::l)=some (.inr (zV,false)):=by unfold Zc1;rw [List.all_cons,h];rfl
theorem ZqI {g:Znk} {out:List ZM} {s:ByteArray} {l:List ByteArray} (h:(g s).2.2=true):Zc1 g out (s::l)=Zc1 g (out++[Zpo g s]) l:=by unfold Zc1;rw [List.all_cons,h,Bool.true_and,List.map_cons,List.append_assoc];rfl
structure Zul (c:Int) (t:ByteArray) (r:List Int×List Int×Bool):Prop where
 same:r.2.2=true->r.1=r.2.1
 len:r.2.1.length<=121
 s:∀k,2000<=k->JS k t c=some (r.1,r.2.2)
 i:∀k,2000<=k->Uz k t c=some (r.2.1,r.2.2)
theorem Zae (x:ByteArray) (ys:List ByteArray):(((x::ys).take (((x::ys).length:Int)).toNat).drop (1:Int).toNat)=ys:=by
 rw [show (((x::ys).length:Int)).toNat=(x::ys).length from Int.toNat_natCast _,List.take_length];rfl
theorem ZlW (x:ByteArray) (ys cs:List ByteArray) (hl:ys.length<=1000) (g:Znk) (hg:∀s∈ys,Zul cs.length s (g s)):∀(m i:Nat) (out:List ZM) (k n:Nat),i+m=ys.length->out.length<=i->2000<=k->m<n->
  Y9 k (x::ys) cs n out ((i+1:Nat):Int)=Zc1 g out (ys.drop i)/\Qc k (x::ys) cs n out (i:Int)=Zc1 g out (ys.drop i):=by
 intro m
 induction m with
 | zero=>
  intro i out k n hi ho hk hn;obtain ⟨n,rfl⟩:∃n',n=n'+1:=⟨n-1,by omega⟩;rw [List.drop_eq_nil_of_le (by omega),Y9,Qc,Zae,if_neg (Ql (by simp;omega)),if_neg (Ql (by omega))];unfold Zc1;simp
 | succ m ih=>
  intro i out k n hi ho hk hn;obtain ⟨n,rfl⟩:∃n',n=n'+1:=⟨n-1,by omega⟩;have hlt:i<ys.length:=by omega
  have hat:at? ys (i:Int)=some ys[i]:=ZJ hlt;have hat':at? (x::ys) ((i+1:Nat):Int)=some ys[i]:=ZJ (by simp;omega);have h:=hg ys[i] (List.getElem_mem hlt);rw [List.drop_eq_getElem_cons hlt,Y9,Qc,Zae,if_pos (ZE (by simp;omega)),if_pos (ZE hlt),hat,hat',wS (i+1) (by omega),wS i (by omega)];generalize ys[i]=s at h;simp only [Zz8,h.s k hk,h.i k hk];cases hv:(g s).2.2 with
  | false=>rw [ZrT hv];exact ⟨rfl,rfl⟩
  | true=>
   rw [ZqI hv,h.same hv];have ha:YH 48 out [ZM.mk (g s).2.1 []]=some (out++[Zpo g s]):=XG (by simp;omega) (by omega);simp only [Bool.not_true,ZAf,if_false,ha,Zz8];exact ih (i+1) _ k n (by omega) (by simp;omega) hk (by omega)
structure Zww (v:Za):Prop where
 bk:v.bk<=100000
 rows:v.rows.length<=121
 row:∀r∈v.rows,r.cells.length<=121/\r.from_=[]
theorem Zsb:Zww zV:=⟨by rw [Za.ZB];show 0<=100000;omega,by simp [zV],by simp [zV]⟩
theorem Zyu (x:ByteArray) (ys:List ByteArray):ZiE (x::ys) 1 ((x::ys).length:Int)=some ys:=by
 unfold ZiE;rw [if_pos ⟨by omega,by simp;omega,by omega⟩,Zae]
theorem Zlp (s:ByteArray) (hs:s.size<=120):∃x ys,spl ZoB s=x::ys/\x.size<=120/\ys.length<=120/\∀y∈ys,y.size<=120:=by
 obtain ⟨l1,l2⟩:=Zj2 ZoB s (by decide);have h:∀y∈spl ZoB s,y.size<=120:=fun y hy=>by have:=ZnC hy;omega
 cases e:spl ZoB s with
 | nil=>rw [e] at l1;simp at l1
 | cons x ys=>
  rw [e] at l2 h;exact ⟨x,ys,rfl,h x (by simp),by simp at l2;omega,fun y hy=>h y (by simp [hy])⟩
theorem ZpX (cs ys:List ByteArray) (hy:∀y∈ys,y.size<=120):∃g:Znk,∀s∈ys,Zul cs.length s (g s):=by
 refine YO ys fun y h=> ?_;obtain ⟨rs,ri,b,h1,h2,h3⟩:=Zu6 y (hy y h) cs.length;exact ⟨(rs,ri,b),⟨h1,h2,fun k hk=>(h3 k hk).1,fun k hk=>(h3 k hk).2⟩⟩
theorem Zt4 (s:ByteArray) (hs:s.size<=120):∃r:Za×Bool,Zww r.1/\Ev fun k=>V5 k s=some r/\Wj k s=some r:=by
 obtain ⟨x,ys,e,hx,hl,hy⟩:=Zlp s hs;have hcs:∀y∈spl sp x,y.size<=120:=fun y h=>by have:=ZnC h;omega
 have hcl:=(Zj2 sp x (by decide)).2;obtain ⟨g,hg⟩:=ZpX (spl sp x) ys hy
 have sdef:∀k,2000<=k->V5 k s=(Zc1 g [] ys).bind fun | .inl x4=>(ZK k (Za.mk 5 0 0 ⟨#[]⟩ [] (spl sp x) x4)).bind fun x10=>if (!x10)=true then some (zV,false) else some (Za.mk 5 0 0 ⟨#[]⟩ [] (spl sp x) x4,true)| .inr z=>some z:=by
  intro k hk;unfold V5;have h0:at? (x::ys) 0=some x:=ZJ (xs:=x::ys) (i:=0) (by simp);rw [ZpS s hs hk,e,Zz8,h0,Zz8,Zj5 x hx hk,Zz8];have:=(ZlW x ys (spl sp x) (by omega) g hg ys.length 0 [] k k (by omega) (by simp) hk (by omega)).1;rw [List.drop_zero] at this;have:Y9 k (x::ys) (spl sp x) k [] 1=Zc1 g [] ys:=this;rw [this];rfl
 have idef:∀k,2000<=k->Wj k s=(Zc1 g [] ys).bind fun | .inl x4=>(ZA k (Za.mk 5 0 0 ⟨#[]⟩ [] (spl sp x) x4)).bind fun x10=>if (!x10)=true then some (zV,false) else some (Za.mk 5 0 0 ⟨#[]⟩ [] (spl sp x) x4,true)| .inr z=>some z:=by
  intro k hk;unfold Wj;have h0:at? (x::ys) 0=some x:=ZJ (xs:=x::ys) (i:=0) (by simp);rw [Zqv s hs,e,Zz8,h0,Zz8,Zko x hx,Zz8,Zyu,Zz8];have:=(ZlW x ys (spl sp x) (by omega) g hg ys.length 0 [] k k (by omega) (by simp) hk (by omega)).2;rw [List.drop_zero] at this;have:Qc k (x::ys) (spl sp x) k [] 0=Zc1 g [] ys:=this;rw [this];rfl
 by_cases hall:ys.all (fun s=>(g s).2.2)=true
 ·have hr:Zc1 g [] ys=some (.inl (ys.map (Zpo g))):=by unfold Zc1;rw [if_pos hall,List.nil_append]
  have htab:Zww (Za.mk 5 0 0 ⟨#[]⟩ [] (spl sp x) (ys.map (Zpo g))):=by
   have hrow:∀r∈ys.map (Zpo g),r.cells.length<=121/\r.from_=[]:=fun r hr=>by
    obtain ⟨y,hy,rfl⟩:=List.mem_map.1 hr;exact ⟨(hg y hy).len,rfl⟩
   refine ⟨?_,by show (ys.map (Zpo g)).length<=121;simp;omega,hrow⟩;rw [Za.ZB];show (0:Nat)+(bkS Za.bk []+(bkS ByteArray.size (spl sp x)+(bkS ZM.bk (ys.map (Zpo g))+0)))<=100000;have h1:=Zof (f:=ByteArray.size) (xs:=spl sp x) hcs
   have h2:=Zof (f:=ZM.bk) (B:=121) (xs:=ys.map (Zpo g)) fun r hr=>by
    obtain ⟨a,b⟩:=hrow r hr;rw [ZM.ZB,Zo8,Zo8,b];simp;omega
   have h3:bkS Za.bk []=0:=rfl;have h4:(spl sp x).length*(120+1)<=121*121:=Nat.mul_le_mul (by omega) (by omega);have h5:(ys.map (Zpo g)).length*(121+1)<=120*122:=Nat.mul_le_mul (by simp;omega) (by omega);omega
  obtain ⟨b,hb,hev⟩:=Zi1 (Za.mk 5 0 0 ⟨#[]⟩ [] (spl sp x) (ys.map (Zpo g))) (by have:=htab.bk;omega);refine ⟨if b then (Za.mk 5 0 0 ⟨#[]⟩ [] (spl sp x) (ys.map (Zpo g)),true) else (zV,false), ?_,(hev.and (Ev.ge 2000)).mono fun k ⟨⟨h1,h2⟩,hk⟩=> ?_⟩
  ·cases b
   ·exact Zsb
   ·exact htab
  ·rw [sdef k hk,idef k hk,hr];simp only [Zz8,h1,h2];cases b<;>exact ⟨rfl,rfl⟩
 ·have hr:Zc1 g [] ys=some (.inr (zV,false)):=by unfold Zc1;rw [if_neg hall]
  refine ⟨(zV,false),Zsb,(Ev.ge 2000).mono fun k hk=> ?_⟩;rw [sdef k hk,idef k hk,hr];exact ⟨rfl,rfl⟩
theorem ZrP (x:ByteArray) (ys cs:List ByteArray) (hl:ys.length<=1000) (g:Znk) (hg:∀s∈ys,Zul cs.length s (g s)):∀(m i:Nat),i+m=ys.length->∃r:Unit ⊕ Int,∀k n:Nat,2000<=k->m<n->
  Qb k (x::ys) cs n ((i+1:Nat):Int)=some r/\Qd k (x::ys) cs n (i:Int)=some r:=by
 intro m
 induction m with
 | zero=>
  intro i hi;refine ⟨.inl (),fun k n hk hn=> ?_⟩;obtain ⟨n,rfl⟩:∃n',n=n'+1:=⟨n-1,by omega⟩;rw [Qb,Qd,Zae,if_neg (Ql (by simp;omega)),if_neg (Ql (by omega))];exact ⟨rfl,rfl⟩
 | succ m ih=>
  intro i hi;have hlt:i<ys.length:=by omega
  have hat:at? ys (i:Int)=some ys[i]:=ZJ hlt;have hat':at? (x::ys) ((i+1:Nat):Int)=some ys[i]:=ZJ (by simp;omega);have h:=hg ys[i] (List.getElem_mem hlt);generalize ys[i]=s at h hat hat';obtain ⟨r,hr⟩:=ih (i+1) (by omega);refine ⟨if ((!(g s).2.2)||decide (12<=i))=true then .inr ((i+1:Nat):Int) else r,fun k n hk hn=> ?_⟩;obtain ⟨n,rfl⟩:∃n',n=n'+1:=⟨n-1,by omega⟩;obtain ⟨q1,q2⟩:=hr k n hk (by omega);rw [Qb,Qd,Zae,if_pos (ZE (by simp;omega)),if_pos (ZE hlt),hat,hat',wS (i+1) (by omega),wS i (by omega)];simp only [Zz8,h.s k hk,h.i k hk,q1,q2];have e1:decide (12<((i+1:Nat):Int))=decide (12<=i):=decide_eq_decide.2 (by omega);have e2:decide (12<=(i:Int))=decide (12<=i):=decide_eq_decide.2 (by omega);rw [e1,e2];cases (g s).2.2<;>cases decide (12<=i)<;>exact ⟨rfl,rfl⟩
theorem ZoX (s:ByteArray) (hs:s.size<=120) {v:Za} (hf:Ev fun k=>Wj k s=some (v,false)):∃n:Int,Ev fun k=>Jr k s=some n/\Jz k s=some n:=by
 obtain ⟨x,ys,e,hx,hl,hy⟩:=Zlp s hs;have hcs:∀y∈spl sp x,y.size<=120:=fun y h=>by have:=ZnC h;omega
 have hcl:=(Zj2 sp x (by decide)).2;obtain ⟨g,hg⟩:=ZpX (spl sp x) ys hy;obtain ⟨r,hr⟩:=ZrP x ys (spl sp x) (by omega) g hg ys.length 0 (by omega);refine ⟨if Zdz (spl sp x)=true then (match r with | .inl _=> -1| .inr z=>z) else 0,(hf.and (Ev.ge 1048700)).mono fun k ⟨hp,hk⟩=> ?_⟩;have h0:at? (x::ys) 0=some x:=ZJ (xs:=x::ys) (i:=0) (by simp);obtain ⟨c1,c2⟩:=Zl0 (spl sp x) (by omega) (fun y h=>by have:=hcs y h;omega) (k:=k) (by omega);obtain ⟨q1,q2⟩:=hr k k (by omega) (by omega);have q1:Qb k (x::ys) (spl sp x) k 1=some r:=q1;have q2:Qd k (x::ys) (spl sp x) k 0=some r:=q2;constructor
 ·unfold Jr;rw [ZpS s hs (by omega),e,Zz8,h0,Zz8,Zj5 x hx (by omega),Zz8,c1,q1];cases Zdz (spl sp x)<;>cases r<;>rfl
 ·unfold Jz;rw [hp,Zqv s hs,e,Zz8];simp only [ZAf,if_false,Zz8];rw [h0,Zz8,Zko x hx,Zz8,c2,Zyu,Zz8,q2];cases Zdz (spl sp x)<;>cases r<;>rfl
theorem Zny (a:Int) (v:Za):∀(n:Nat) (xs:List ZM) (i:Int),xs.length=v.rows.length->Z2 a n xs i=YS a v n xs i
 | 0,_,_,_=>rfl
 | n+1,xs,i,h=>by
  rw [Z2,YS,h]
  split
  ·cases at? xs i with
   | none=>rfl
   | some y=>exact Zny a v n _ _ (by simp [h])
  ·rfl
theorem Zrn (a:Int) (B:Nat):∀(m i:Nat) (xs:List ZM),i+m=xs.length->xs.length<=1000->(∀r∈xs,r.cells.length<=121/\r.from_.length<=1)->∃ys:List ZM,ys.length=xs.length/\(∀r∈ys,r.cells.length<=121/\r.from_.length<=1)/\∀n,m<n->Z2 a n xs (i:Int)=some ys:=by
 intro m
 induction m with
 | zero=>
  intro i xs hi hl hx;refine ⟨xs,rfl,hx,fun n hn=> ?_⟩;obtain ⟨n,rfl⟩:∃n',n=n'+1:=⟨n-1,by omega⟩;rw [Z2,if_neg (Ql (by omega))]
 | succ m ih=>
  intro i xs hi hl hx;have hlt:i<xs.length:=by omega
  have hat:at? xs (i:Int)=some xs[i]:=ZJ hlt;have h:=hx xs[i] (List.getElem_mem hlt)
  obtain ⟨ys,h1,h2,h3⟩:=ih (i+1) (xs.set i (ZM.mk xs[i].cells [Zl.mk a i])) (by simp;omega) (by simp;omega) fun r hr=>by
   rcases List.mem_or_eq_of_mem_set hr with h'| rfl
   ·exact hx r h'
   ·exact ⟨h.1,ZAe 1⟩
  refine ⟨ys,by rw [h1];simp,h2,fun n hn=> ?_⟩;obtain ⟨n,rfl⟩:∃n',n=n'+1:=⟨n-1,by omega⟩;rw [Z2,if_pos (ZE hlt),hat,Zz8,wS i (by omega),Int.toNat_natCast];exact h3 n (by omega)
theorem ZrR (n:Int):(Za.mk 6 n 0 (⟨#[]⟩:ByteArray) [] [] []).bk<=0:=by rw [Za.ZB];exact ZAe 0
theorem ZpK (a:Int) (v:Za) (hv:Zww v):∃w:Za,w.bk<=200000/\Ev fun k=>Vu k a v=some w/\VC k a v=some w:=by
 obtain ⟨b,hb,hev⟩:=Zi1 v (by have:=hv.bk;omega);have hrow:∀r∈v.rows,r.cells.length<=121/\r.from_.length<=1:=fun r hr=>⟨(hv.row r hr).1,by rw [(hv.row r hr).2];simp⟩;have hl:=hv.rows;obtain ⟨ys,h1,h2,h3⟩:=Zrn a 0 v.rows.length 0 v.rows (by omega) (by omega) hrow;have hbk:=hv.bk;have hlens:=v.ZtK;refine ⟨if (!decide (v.kind=5)||(!b||decide (a<0)))=true then Za.mk 6 4 0 ⟨#[]⟩ [] [] [] else Za.mk v.kind v.n v.step v.text v.list v.columns ys, ?_,(hev.and ((ZhC v (by omega)).and ((ZhZ v (by omega)).and (Ev.ge 2000)))).mono fun k ⟨⟨e1,e2⟩,e3,e4,hk⟩=> ?_⟩
 ·split
  ·have:=ZrR 4;omega
  ·have e:=Za.ZB v;rw [Za.ZB];show v.text.size+(bkS Za.bk v.list+(bkS ByteArray.size v.columns+(bkS ZM.bk ys+0)))<=200000
   have:=Zof (f:=ZM.bk) (B:=122) (xs:=ys) fun r hr=>by
    obtain ⟨a,b⟩:=h2 r hr;rw [ZM.ZB,Zo8,Zo8];omega
   have h5:ys.length*(122+1)<=121*123:=Nat.mul_le_mul (by omega) (by omega);omega
 ·have q1:Z2 a k v.rows 0=some ys:=h3 k (by omega);have q2:YS a v k v.rows 0=some ys:=by rw [<-Zny a v k v.rows 0 rfl];exact q1
  unfold Vu VC;rw [e1,e2,e3,e4];simp only [Zz8];rw [q1,q2];cases decide (v.kind=5)<;>cases b<;>cases decide (a<0)<;>exact ⟨rfl,rfl⟩
theorem Zm5 {c:Zs} (h:UL c=true):c.code.size<=120:=by
 unfold UL at h;simp only [ZAd] at h;have:=h.1.2;unfold ZfP at this;simp only [ZAd,decide_eq_true_eq] at this;omega
theorem Zm4 {c:Zs} (h:UL c=true):c.kind=1\/c.kind=2\/c.kind=3\/c.kind=4:=by
 unfold UL at h
 by_cases h1:c.kind=1
 ·exact .inl h1
 by_cases h2:c.kind=2
 ·exact .inr (.inl h2)
 by_cases h3:c.kind=3
 ·exact .inr (.inr (.inl h3))
 by_cases h4:c.kind=4
 ·exact .inr (.inr (.inr h4))
 simp [h1,h2,h3,h4] at h
def zEx:Zb:=Zb.mk 0 0 ⟨#[]⟩ []
theorem ZuC:zEx.bk<=0:=by rw [Zb.ZB];exact ZAe 0
def CP (c:Zs) (p:Zi):Prop:=UL c=true->(p.kind=1↔c.kind=1)/\(¬c.kind=1->p.name=c.name)
def KP (c:Zs) (p:Zi):Prop:=UL c=true->p.kind=1\/p.kind=2\/p.kind=3\/p.kind=4
theorem Zt9 (c:Zs) (hc:c.bk<=1048576):∃p:Zi,((p.bk<=2097152/\p.expr.bk<=12000)/\CP c p/\KP c p)/\Ev fun k=>Yc k c=some p/\Yf k c=some p:=by
 have e:=Zs.ZB c;have hz:=ZuC;have hz12:zEx.bk<=12000:=by omega
 have hzv:zV.bk<=0:=by rw [Za.ZB];exact ZAe 0
 cases hok:UL c with
 | false=>
  refine ⟨Zi.mk 0 ⟨#[]⟩ zEx zV 0,⟨⟨by rw [Zi.ZB];show 0+(zEx.bk+(zV.bk+0))<=2097152;omega,hz12⟩,fun h=>absurd h (by rw [hok];simp),fun h=>absurd h (by rw [hok];simp)⟩,(Ev.ge 1048601).mono fun k hk=> ?_⟩;obtain ⟨h1,h2⟩:=Zhu c hc (k:=k) (by omega);unfold Yc Yf;rw [h1,h2,hok];exact ⟨rfl,rfl⟩
 | true=>
  have hcode:=Zm5 hok
  have hval:Ev fun k=>YY k c=some true/\Y1 k c=some true:=(Ev.ge 1048601).mono fun k hk=>by
   have:=Zhu c hc (k:=k) (by omega);rw [hok] at this;exact this
  rcases Zm4 hok with hk| hk| hk| hk
  ·refine ⟨Zi.mk 1 ⟨#[]⟩ zEx zV 0,⟨⟨by rw [Zi.ZB];show 0+(zEx.bk+(zV.bk+0))<=2097152;omega,hz12⟩,fun _=>⟨by simp [hk],fun h=>absurd hk h⟩,fun _=>.inl rfl⟩,hval.mono fun k ⟨h1,h2⟩=> ?_⟩;unfold Yc Yf;rw [h1,h2,hk];exact ⟨rfl,rfl⟩
  ·obtain ⟨r,r1,r2,r3⟩:=Zrx c.code;refine ⟨if 0<=r.2 then Zi.mk 4 c.name zEx (Za.mk 6 8 0 ⟨#[]⟩ [] [] []) r.2 else Zi.mk 2 c.name r.1 zV 0,⟨⟨?_,by split;exact hz12;exact r1⟩,fun _=>⟨by split<;>simp [hk],fun _=>by split<;>rfl⟩,fun _=>by split<;>simp⟩,(hval.and r3).mono fun k ⟨⟨h1,h2⟩,h3,h4⟩=> ?_⟩
   ·have:=ZrR 8
    split
    ·rw [Zi.ZB];show c.name.size+(zEx.bk+((Za.mk 6 8 0 ⟨#[]⟩ [] [] []).bk+0))<=2097152;omega
    ·rw [Zi.ZB];show c.name.size+(r.1.bk+(zV.bk+0))<=2097152;omega
   ·unfold Yc Yf;rw [h1,h2,hk,h3,h4];simp only [Zz8]
    by_cases h0:0<=r.2
    ·rw [if_pos h0,decide_eq_true h0];exact ⟨rfl,rfl⟩
    ·rw [if_neg h0,decide_eq_false h0];exact ⟨rfl,rfl⟩
  ·refine ⟨Zi.mk 3 c.name zEx (Za.mk 1 c.n 0 ⟨#[]⟩ [] [] []) 0,⟨⟨?_,hz12⟩,fun _=>⟨by simp [hk],fun _=>rfl⟩,fun _=>by simp⟩,hval.mono fun k ⟨h1,h2⟩=> ?_⟩
   ·have:(Za.mk 1 c.n 0 (⟨#[]⟩:ByteArray) [] [] []).bk<=0:=by rw [Za.ZB];exact ZAe 0
    rw [Zi.ZB];show c.name.size+(zEx.bk+((Za.mk 1 c.n 0 ⟨#[]⟩ [] [] []).bk+0))<=2097152;omega
   ·unfold Yc Yf;rw [h1,h2,hk];exact ⟨rfl,rfl⟩
  ·obtain ⟨⟨v,b⟩,hd,he⟩:=Zt4 c.code hcode;cases b with
   | false=>
    obtain ⟨n,hn⟩:=ZoX c.code hcode (v:=v) (he.mono fun k h=>h.2);refine ⟨Zi.mk 4 c.name zEx (Za.mk 6 8 0 ⟨#[]⟩ [] [] []) n,⟨⟨?_,hz12⟩,fun _=>⟨by simp [hk],fun _=>rfl⟩,fun _=>by simp⟩,(hval.and (he.and hn)).mono fun k ⟨⟨h1,h2⟩,⟨h3,h4⟩,h5,h6⟩=> ?_⟩
    ·have:=ZrR 8;rw [Zi.ZB];show c.name.size+(zEx.bk+((Za.mk 6 8 0 ⟨#[]⟩ [] [] []).bk+0))<=2097152;omega
    ·unfold Yc Yf;rw [h1,h2,hk,h3,h4];simp only [Zz8];rw [h5,h6];exact ⟨rfl,rfl⟩
   | true=>
    obtain ⟨w,hw,hn⟩:=ZpK c.id v hd;refine ⟨Zi.mk 3 c.name zEx w 0,⟨⟨?_,hz12⟩,fun _=>⟨by simp [hk],fun _=>rfl⟩,fun _=>by simp⟩,(hval.and (he.and hn)).mono fun k ⟨⟨h1,h2⟩,⟨h3,h4⟩,h5,h6⟩=> ?_⟩
    ·rw [Zi.ZB];show c.name.size+(zEx.bk+(w.bk+0))<=2097152;omega
    ·unfold Yc Yf;rw [h1,h2,hk,h3,h4];simp only [Zz8];rw [h5,h6];exact ⟨rfl,rfl⟩
theorem Zm2 (nb:Zh) (hb:nb.bk<=1048576):∃ps:List Zi,(ps.length<=1048576/\(ps=[]/\Zpm nb=false\/Zpm nb=true/\∃f,ps=nb.cells.map f/\∀c∈nb.cells,CP c (f c)/\KP c (f c)))/\(∀p∈ps,p.bk<=2097152/\p.expr.bk<=12000)/\Ev fun k=>Wc k nb=some ps/\Vo k nb=some ps:=by
 have e:=Zh.ZB nb;have hl:=ZL (f:=Zs.bk) (xs:=nb.cells);haveI:Inhabited Zi:=⟨Zi.mk 0 ⟨#[]⟩ zEx zV 0⟩;obtain ⟨f,hf⟩:=YO nb.cells (p:=fun c (p:Zi)=>((p.bk<=2097152/\p.expr.bk<=12000)/\CP c p/\KP c p)/\Ev fun k=>Yc k c=some p/\Yf k c=some p) fun c hc=>Zt9 c (by have:=Yl (f:=Zs.bk) hc;omega);have hall:=Ev.all nb.cells fun c hc=>(hf c hc).2;refine ⟨if Zpm nb=true then nb.cells.map f else [], ?_, ?_,(hall.and (Ev.ge 1048700)).mono fun k ⟨h1,hk⟩=> ?_⟩
 ·split
  ·rename_i hnb;exact ⟨by rw [List.length_map];omega,.inr ⟨hnb,f,rfl,fun c hc=>(hf c hc).1.2⟩⟩
  ·rename_i hnb;exact ⟨by simp,.inl ⟨rfl,by simpa using hnb⟩⟩
 ·split
  ·intro p hp;obtain ⟨c,hc,rfl⟩:=List.mem_map.1 hp;exact (hf c hc).1.1
  ·intro p hp;cases hp
 ·obtain ⟨v1,v2⟩:=ZjV nb hb (k:=k) (by omega);unfold Wc Vo
  rw [v1,v2,Zki 200 (by omega) nb.cells f (Yc k) (Q8 k nb) (fun c hc=>(h1 c hc).1) (fun n out i=>by rw [Q8]) (by omega) (by omega),
   Zki 200 (by omega) nb.cells f (Yf k) (Xf k nb) (fun c hc=>(h1 c hc).2) (fun n out i=>by rw [Xf]) (by omega) (by omega)]
  cases Zpm nb<;>exact ⟨rfl,rfl⟩
theorem Zm3 (nb:Zh) (hb:nb.bk<=1048576):∃ps:List Zi,(ps.length<=1048576/\(ps=[]/\Zpm nb=false\/Zpm nb=true/\ps.length=nb.cells.length))/\(∀p∈ps,(p.bk<=2097152/\p.expr.bk<=12000)/\(p.kind=1\/p.kind=2\/p.kind=3\/p.kind=4))/\Ev fun k=>Wc k nb=some ps/\Vo k nb=some ps:=by
 obtain ⟨ps,⟨h1,h2⟩,h3,h4⟩:=Zm2 nb hb;rcases h2 with ⟨h,g⟩| ⟨h,f,rfl,hf⟩
 ·exact ⟨ps,⟨h1,.inl ⟨h,g⟩⟩,fun p hp=>(by rw [h] at hp;cases hp),h4⟩
 ·refine ⟨_,⟨h1,.inr ⟨h,by rw [List.length_map]⟩⟩,fun p hp=>⟨h3 p hp, ?_⟩,h4⟩;obtain ⟨c,hc,rfl⟩:=List.mem_map.1 hp;exact (hf c hc).2 ((ZoI ‹_›).2 c hc)
theorem Zrf (xs ys:List ByteArray) (hl:xs.length<=1073741824) {k:Nat} (hk:xs.length<k):Jk k xs ys=some (WV (fun x y=>decide (x=y)) xs ys):=by
 unfold Jk;exact Zj4 xs ys (fun x y=>decide (x=y)) (fun x y=>some (!decide (x=y))) (Xh xs ys) (fun _ _ _ _=>rfl) (fun n i=>by rw [Xh];rfl) (by omega) hk
theorem Zmm (xs ys:List Int) (hl:xs.length<=1073741824) {k:Nat} (hk:xs.length<k):WQ k xs ys=some (WV (fun x y=>decide (x=y)) xs ys):=by
 unfold WQ;exact Zj4 xs ys (fun x y=>decide (x=y)) (fun x y=>some (!decide (x=y))) (X8 xs ys) (fun _ _ _ _=>rfl) (fun n i=>by rw [X8];rfl) (by omega) hk
theorem Zov (xs ys:List Zl) (hl:xs.length<=1073741824) {k:Nat} (hk:xs.length<k):QO k xs ys=some (WV (fun x y=>decide (x.cell=y.cell)&&decide (x.row=y.row)) xs ys):=by
 unfold QO;exact Zj4 xs ys (fun x y=>decide (x.cell=y.cell)&&decide (x.row=y.row)) (fun x y=>some (!(decide (x.cell=y.cell)&&decide (x.row=y.row)))) (Y4 xs ys) (fun _ _ _ _=>rfl) (fun n i=>by rw [Y4];rfl) (by omega) hk
theorem Zpt {α:Type} (xs ys:List α) (p:α->α->Bool) (R:α->α->Option Bool) (u:Nat->Int->Option (Unit ⊕ Bool)) (hR:∀x∈xs,∀y∈ys,R x y=some (p x y))
  (hu:∀n i,u (n+1) i=if (decide (i<(xs.length:Int)))=true then (at? xs i).bind fun x=>(at? ys i).bind fun y=>(R x y).bind fun b=>if (!b)=true then some (.inr false) else u n (IntKind.i64.wrap (i+1)) else some (.inl ()))
  (hl:xs.length<=1073741824) (he:xs.length=ys.length) {k:Nat} (hk:xs.length<k):u k 0=some (if WV p xs ys=true then .inl () else .inr false):=by
 have:=ZeE xs ys p (fun x y=>(R x y).bind fun b=>some (!b)) u (fun x hx y hy=>by rw [hR x hx y hy];rfl) (fun n i=>by rw [hu];simp only [Option.bind_assoc,Zz8]) (by omega) he xs.length k 0 (by omega) hk
 simpa using this
def ZdE (t:Bool) (x y:ZM):Bool:=WV (fun x y=>decide (x=y)) x.cells y.cells&&(!t||WV (fun x y=>decide (x.cell=y.cell)&&decide (x.row=y.row)) x.from_ y.from_)
theorem ZrQ:∀v:Za,v.bk<=1073741824->∃f:Za->Bool->Bool,Ev fun k=>∀(w:Za) (t:Bool),Vs k v w t=some (f w t)/\Jw k v w t=some (f w t):=by
 refine Za.ind fun v ih hb=> ?_;have hbk:=v.ZB;have l1:=ZL (f:=Za.bk) (xs:=v.list);have l2:=ZL (f:=ZM.bk) (xs:=v.rows);have l3:=ZL (f:=ByteArray.size) (xs:=v.columns);obtain ⟨g,hg⟩:=YO (p:=fun (x:Za) (f:Za->Bool->Bool)=>Ev fun k=>∀(w:Za) (t:Bool),Vs k x w t=some (f w t)/\Jw k x w t=some (f w t)) v.list fun x hx=>ih x hx (by have:=Yl (f:=Za.bk) hx;omega);refine ⟨fun w t=>decide (v.kind=w.kind)&&(decide (v.n=w.n)&&(decide (v.step=w.step)&&(decide (v.text=w.text)&&(WV (fun x y=>decide (x=y)) v.columns w.columns&&(decide ((v.list.length:Int)=w.list.length)&&(decide ((v.rows.length:Int)=w.rows.length)&&(WV (fun x y=>g x y t) v.list w.list&&WV (ZdE t) v.rows w.rows))))))), ?_⟩;refine ((Ev.all v.list hg).and (Ev.ge (v.bk+1))).pred fun k ⟨h1,hk⟩ w t=> ?_;have c1:=Zrf v.columns w.columns (by omega) (k:=k) (by omega);rw [Vs,Jw,c1,ZfW,c1]
 by_cases e1:v.kind=w.kind
 case neg=>exact ⟨by simp [e1],by simp [e1]⟩
 by_cases e2:v.n=w.n
 case neg=>exact ⟨by simp [e1,e2],by simp [e1,e2]⟩
 by_cases e3:v.step=w.step
 case neg=>exact ⟨by simp [e1,e2,e3],by simp [e1,e2,e3]⟩
 by_cases e4:v.text=w.text
 case neg=>exact ⟨by simp [e1,e2,e3,e4],by simp [e1,e2,e3,e4]⟩
 cases e5:WV (fun x y=>decide (x=y)) v.columns w.columns
 ·refine ⟨?_, ?_⟩
  ·by_cases e6:(v.list.length:Int)=w.list.length<;>simp [e1,e2,e3,e4,e5,e6]
  ·simp [e1,e2,e3,e4,e5]
 by_cases e6:(v.list.length:Int)=w.list.length
 case neg=>exact ⟨by simp [e1,e2,e3,e4,e6],by simp [e1,e2,e3,e4,e6]⟩
 by_cases e7:(v.rows.length:Int)=w.rows.length
 case neg=>exact ⟨by simp [e1,e2,e3,e4,e6,e7],by simp [e1,e2,e3,e4,e6,e7]⟩
 have s1:=Zpt v.list w.list (fun x y=>g x y t) (fun x y=>Vs k x y t) (VV (Vs k) v w t) (fun x hx y _=>(h1 x hx y t).1) (fun n i=>by rw [VV]) (by omega) (by omega) (k:=k) (by omega);have s2:=Zpt v.list w.list (fun x y=>g x y t) (fun x y=>Jw k x y t) (U5 (Jw k) v w t) (fun x hx y _=>(h1 x hx y t).2) (fun n i=>by rw [U5]) (by omega) (by omega) (k:=k) (by omega)
 have hrow:∀x∈v.rows,∀y:ZM,(WQ k x.cells y.cells).bind (fun x11=>if (!x11)=true then some true else if t=true then (QO k x.from_ y.from_).bind fun x12=>some (!x12) else some false)=some (!ZdE t x y):=fun x hx y=>by
  have hx1:=Yl (f:=ZM.bk) hx;have hx2:=x.ZB;have l4:=ZL (f:=fun _:Int=>0) (xs:=x.cells);have l5:=ZL (f:=fun _:Zl=>0) (xs:=x.from_);rw [Zmm _ _ (by omega) (k:=k) (by omega),Zov _ _ (by omega) (k:=k) (by omega)];unfold ZdE;cases WV (fun x y=>decide (x=y)) x.cells y.cells<;>cases t<;>simp
 have s3:=ZeE v.rows w.rows (ZdE t) (fun x y=>(WQ k x.cells y.cells).bind (fun x11=>if (!x11)=true then some true else if t=true then (QO k x.from_ y.from_).bind fun x12=>some (!x12) else some false)) (WW k v w t) (fun x hx y _=>hrow x hx y) (fun n i=>by rw [WW];simp only [Option.bind_assoc]) (by omega) (by omega) v.rows.length k 0 (by omega) (by omega);have s4:=ZeE v.rows w.rows (ZdE t) (fun x y=>(WQ k x.cells y.cells).bind (fun x11=>if (!x11)=true then some true else if t=true then (QO k x.from_ y.from_).bind fun x12=>some (!x12) else some false)) (Ud k v w t) (fun x hx y _=>hrow x hx y) (fun n i=>by rw [Ud,Zdp,ZfY];simp only [Option.bind_assoc]) (by omega) (by omega) v.rows.length k 0 (by omega) (by omega);simp only [List.drop_zero,Int.natCast_zero] at s3 s4;refine ⟨?_, ?_⟩
 ·simp only [e1,e2,e3,e4,e6,e7,decide_true,Bool.not_true,ZAf,if_false,Zz8,e5,s1,Bool.true_and];cases WV (fun x y=>g x y t) v.list w.list
  ·rfl
  ·simp only [if_true,Zz8,Bool.true_and];rw [show WW k v w t k 0=_ from s3];cases WV (ZdE t) v.rows w.rows<;>rfl
 ·simp only [e1,e2,e3,e4,e6,e7,decide_true,Bool.not_true,ZAf,if_false,Zz8,e5,s2,Bool.true_and];cases WV (fun x y=>g x y t) v.list w.list
  ·rfl
  ·simp only [if_true,Zz8,Bool.true_and];rw [show Ud k v w t k 0=_ from s4];cases WV (ZdE t) v.rows w.rows<;>rfl
theorem ZqB (v w:Za) (hb:v.bk<=1073741824):∃b,Ev fun k=>Xi k v w=some b/\Xn k v w=some b:=by
 obtain ⟨f,h⟩:=ZrQ v hb;refine ⟨f w true,h.mono fun k h=> ?_⟩;unfold Xi Xn;rw [(h w true).1,(h w true).2];exact ⟨rfl,rfl⟩
theorem Zqz {ps:List Zi} (hl:ps.length<=1048576) (hp:∀p∈ps,p.bk<=2097152) (hk:∀p∈ps,p.kind=1\/p.kind=2\/p.kind=3\/p.kind=4) {U:Int->List Int} (h:GU ps U) {run:Nat->Bool} (hrun:Zr7 ps U run) (i:Nat) (hi:i<ps.length) (cb:Bool) (hcb:cb=true↔Reach U i i):∃v:Za×Bool,((v.2=false->run i=true/\ps[i].kind=2)/\v.1.bk<=2097152)/\Ev fun k=>YE k ps (i:Int) cb=some v/\ZI k ps (i:Int)=some v:=by
 obtain ⟨db,hd⟩:=ZsC ps hl (i:Int);obtain ⟨cb',hcb',hc⟩:=ZqL hl h (i:Int)
 obtain rfl:cb'=cb:=by
  cases cb<;>cases cb'
  ·rfl
  ·exact (hcb.2 (hcb'.1 rfl)).symm
  ·exact hcb'.2 (hcb.1 rfl)
  ·rfl
 have hv0:=hp _ (List.getElem_mem hi)
 have hv:ps[i].value.bk<=2097152:=by
  have e:=Zi.ZB ps[i];omega
 have hall:=(hd.and hc).and ((ZhC ps[i].value (by omega)).and (ZhZ ps[i].value (by omega)));have hE:∀n,QH n=some (Za.mk 6 n 0 (⟨#[]⟩:ByteArray) [] [] []):=fun _=>rfl;have hF:∀n,QL n=some (Za.mk 6 n 0 (⟨#[]⟩:ByteArray) [] [] []):=fun _=>rfl;have d3:decide ((i:Int)<0)=false:=decide_eq_false (by omega);have d4:decide ((ps.length:Int)<=(i:Int))=false:=decide_eq_false (by omega);have z0:(Za.mk 0 0 0 (⟨#[]⟩:ByteArray) [] [] []).bk<=2097152:=by rw [Za.ZB];show 0<=2097152;omega
 have z1:∀n,(Za.mk 6 n 0 (⟨#[]⟩:ByteArray) [] [] []).bk<=2097152:=fun n=>by have:=ZrR n;omega
 have go:∀v:Za×Bool,(∀k,(YZ k ps (i:Int)=some db/\YJ k ps (i:Int)=some db)->(ZeW k ps (i:Int)=some cb'/\VE k ps (i:Int)=some cb')->WO k ps[i].value=some ps[i].value->YG k ps[i].value=some ps[i].value->YE k ps (i:Int) cb'=some v/\ZI k ps (i:Int)=some v)->((v.2=false->run i=true/\ps[i].kind=2)/\v.1.bk<=2097152)->∃v:Za×Bool,((v.2=false->run i=true/\ps[i].kind=2)/\v.1.bk<=2097152)/\Ev fun k=>YE k ps (i:Int) cb'=some v/\ZI k ps (i:Int)=some v:=
  fun v g1 g2=>⟨v,g2,hall.mono fun k ⟨⟨e1,e2⟩,e3,e4⟩=>g1 k e1 e2 e3 e4⟩
 by_cases k1:ps[i].kind=1
 ·refine go (Za.mk 0 0 0 (⟨#[]⟩:ByteArray) [] [] [],true) (fun k e1 e2 e3 e4=> ?_) ⟨by simp,z0⟩;unfold YE ZI;rw [ZJ hi,d3,d4];simp only [Zz8,ZAf,if_false,decide_eq_true k1,if_true,and_self]
 ·have n1:decide (ps[i].kind=1)=false:=decide_eq_false k1;cases db with
  | true=>
   refine go (Za.mk 6 2 0 (⟨#[]⟩:ByteArray) [] [] [],true) (fun k e1 e2 e3 e4=> ?_) ⟨by simp,z1 _⟩;unfold YE ZI;rw [ZJ hi,d3,d4,e1.1];simp only [Zz8,ZAf,if_false,n1,e1.2,if_true,hE,hF,and_self]
  | false=>
   by_cases k4:ps[i].kind=4
   ·refine go (Za.mk 6 8 0 (⟨#[]⟩:ByteArray) [] [] [],true) (fun k e1 e2 e3 e4=> ?_) ⟨by simp,z1 _⟩;unfold YE ZI;rw [ZJ hi,d3,d4,e1.1];simp only [Zz8,ZAf,if_false,n1,e1.2,decide_eq_true k4,if_true,hE,hF,and_self]
   ·have n4:decide (ps[i].kind=4)=false:=decide_eq_false k4
    by_cases k3:ps[i].kind=3
    ·refine go (ps[i].value,true) (fun k e1 e2 e3 e4=> ?_) ⟨by simp,hv⟩;unfold YE ZI;rw [ZJ hi,d3,d4,e1.1];simp only [Zz8,ZAf,if_false,n1,n4,e1.2,decide_eq_true k3,if_true,e3,e4,and_self]
    ·have n3:decide (ps[i].kind=3)=false:=decide_eq_false k3;cases cb' with
     | true=>
      refine go (Za.mk 6 3 0 (⟨#[]⟩:ByteArray) [] [] [],true) (fun k e1 e2 e3 e4=> ?_) ⟨by simp,z1 _⟩;unfold YE ZI;rw [ZJ hi,d3,d4,e1.1];simp only [Zz8,ZAf,if_false,n1,n4,n3,e1.2,e2.2,if_true,hE,hF,and_self]
     | false=>
      refine go (Za.mk 0 0 0 (⟨#[]⟩:ByteArray) [] [] [],false) (fun k e1 e2 e3 e4=> ?_) ⟨fun _=> ?_,z0⟩
      ·unfold YE ZI;rw [ZJ hi,d3,d4,e1.1];simp only [Zz8,ZAf,if_false,n1,n4,n3,e1.2,e2.2,and_self]
      ·have k2:ps[i].kind=2:=by
        rcases hk _ (List.getElem_mem hi) with g| g| g| g
        ·exact absurd g k1
        ·exact g
        ·exact absurd g k3
        ·exact absurd g k4
       refine ⟨?_,k2⟩;obtain ⟨k,⟨e1,e2⟩,e3⟩:=((hd.and hc).and hrun.evI).get;have e4:=e3 i hi;unfold QK at e4;rw [decide_eq_true (show (0:Int)<=(i:Int) by omega),decide_eq_true (show (i:Int)<(ps.length:Int) by omega),ZJ hi,e1.2,e2.2] at e4;simp only [if_true,Zz8,decide_eq_true k2,ZAf,if_false,Bool.not_false,ZAb] at e4;exact e4.symm
theorem Zhj (ps:List Zi) (s:ByteArray):∀(n:Nat) (out:List Int) (j:Int) (ds:List Int),(∀x∈out,∀p,ps[x.toNat]? =some p->¬p.kind=1)->Yb ps s n out j=some ds->∀x∈ds,∀p,ps[x.toNat]? =some p->¬p.kind=1
 | 0,_,_,_,_,h=>by rw [Yb] at h;cases h
 | n+1,out,j,ds,h0,h=>by
  rw [Yb] at h
  split at h
  ·cases hat:at? ps j with
   | none=>rw [hat] at h;simp at h
   | some q=>
    rw [hat] at h;have hq:ps[j.toNat]? =some q:=(Zf8 hat).2.1;simp only [Zz8] at h
    by_cases k1:q.kind=1
    ·simp only [k1,decide_true,Bool.not_true,ZAf,if_false,Zz8] at h;exact Zhj ps s n out _ ds h0 h
    ·simp only [k1,decide_false,Bool.not_false,if_true,Zz8] at h;cases hn:decide (q.name=s)
     ·rw [hn] at h;simp only [ZAf,if_false,Zz8] at h;exact Zhj ps s n out _ ds h0 h
     ·rw [hn] at h;simp only [if_true] at h;cases ha:YH 8 out [j] with
      | none=>rw [ha] at h;simp at h
      | some out'=>
       rw [ha] at h;simp only [Zz8] at h;obtain ⟨e,_⟩:=WG ha;refine Zhj ps s n out' _ ds (fun x hx p hp=> ?_) h;rw [e] at hx;rcases List.mem_append.1 hx with g| g
       ·exact h0 x g p hp
       ·rw [List.mem_singleton] at g;subst g;rw [hq] at hp;cases hp;exact k1
  ·cases h;exact h0
end Go.Proofs.YtpblakfidofgfaaGreatDoor
