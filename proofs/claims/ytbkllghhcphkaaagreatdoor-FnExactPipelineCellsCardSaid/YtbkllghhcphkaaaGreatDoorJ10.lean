import Derived.Test.YtbkllghhcphkaaaGreatDoorJ9
set_option linter.unusedSimpArgs false
set_option linter.unusedVariables false
set_option linter.unusedSectionVars false
namespace Go.Proofs.YtbkllghhcphkaaaGreatDoor
open Go.RowKit Am
def sc (p:UInt8->Bool) (l:List UInt8) (i:Nat):Nat:=i+((l.drop i).takeWhile p).length
theorem ZcM {p:UInt8->Bool} {l:List UInt8} {i:Nat} (h:i<l.length):sc p l i=if p l[i]=true then sc p l (i+1) else i:=by
 unfold sc;rw [List.drop_eq_getElem_cons h,List.takeWhile_cons]
 split
 ·simp;omega
 ·simp
theorem ZlD {p:UInt8->Bool} {l:List UInt8} {i:Nat} (h:l.length<=i):sc p l i=i:=by
 unfold sc;rw [List.drop_eq_nil_of_le h];simp
theorem Zks {p:UInt8->Bool} {l:List UInt8}:∀(m i:Nat),i+m=l.length->i<=sc p l i/\sc p l i<=l.length
 | 0,i,h=>by rw [ZlD (by omega)];omega
 | m+1,i,h=>by
  rw [ZcM (by omega)];have:=Zks (p:=p) (l:=l) m (i+1) (by omega)
  split<;>omega
theorem KX (l:List UInt8) (p:UInt8->Bool) (N:Int) (hN:N=(l.length:Int)) (u:Nat->Int->Option Int) (hl:l.length<=1048576)
  (hu:∀n x,u (n+1) x=(if (decide (x<N))=true then (at? l x).bind fun c=>some (p c) else some false).bind fun b=>if b=true then u n (IntKind.i64.wrap (x+1)) else some x):
  ∀(m i n:Nat),i+m=l.length->m<n->u n (i:Int)=some ((sc p l i:Nat):Int):=by
 subst hN;intro m
 induction m with
 | zero=>
  intro i n hi hn;obtain ⟨n,rfl⟩:∃n',n=n'+1:=⟨n-1,by omega⟩;rw [hu,if_neg (Xs (by omega)),ZlD (by omega)];rfl
 | succ m ih=>
  intro i n hi hn;obtain ⟨n,rfl⟩:∃n',n=n'+1:=⟨n-1,by omega⟩;have hlt:i<l.length:=by omega
  rw [hu,if_pos (ZK hlt),Yp hlt,ZcM hlt];simp only [Zwe]
  split
  ·rw [wS i (by omega)];exact ih (i+1) n (by omega) (by omega)
  ·rfl
def word (c:UInt8):Bool:=ZgL c||ZhX c
def noQ (c:UInt8):Bool:=!decide ((c.toNat:Int)=34)
theorem KY (c:UInt8):Vu (c.toNat:Int)=some (ZgL c):=by unfold Vu ZgL;by_cases h:(97:Int)<=(c.toNat:Int)<;>simp [h]
theorem Za7 (c:UInt8):VZ (c.toNat:Int)=some (ZhX c):=by unfold VZ ZhX;by_cases h:(48:Int)<=(c.toNat:Int)<;>simp [h]
theorem Zcn (c:UInt8):(if (decide (97<=(c.toNat:Int)))=true then some (decide ((c.toNat:Int)<=122)) else some false)=some (ZgL c):=by unfold ZgL;by_cases h:(97:Int)<=(c.toNat:Int)<;>simp [h]
theorem Zcq (c:UInt8):(if (decide (48<=(c.toNat:Int)))=true then some (decide ((c.toNat:Int)<=57)) else some false)=some (ZhX c):=by unfold ZhX;by_cases h:(48:Int)<=(c.toNat:Int)<;>simp [h]
theorem ZrZ (c:UInt8):(if (decide (97<=(c.toNat:Int)))=true then if (decide ((c.toNat:Int)<=122))=true then some true else if (decide (48<=(c.toNat:Int)))=true then some (decide ((c.toNat:Int)<=57)) else some false
  else if (decide (48<=(c.toNat:Int)))=true then some (decide ((c.toNat:Int)<=57)) else some false)=some (word c):=by
 rw [Zcq];unfold word ZgL
 by_cases h:(97:Int)<=(c.toNat:Int)
 ·by_cases h2:(c.toNat:Int)<=122<;>simp [h,h2]
 ·simp [h]
section
variable (s:ByteArray) (hs:s.size<=120)
include hs
theorem Znl:s.data.toList.length=s.size:=by rw [Array.length_toList];rfl
theorem iw (i:Nat) (hi:i<=s.size) {k:Nat} (hk:1000<k):QE s k (i:Int)=some ((sc word s.data.toList i:Nat):Int):=by
 have e:=Znl s hs;refine KX s.data.toList word s.size (by rw [e]) (QE s) (by omega) (fun n x=> ?_) (s.size-i) i k (by omega) (by omega);rw [QE];simp only [ZrZ]
theorem id_ (i:Nat) (hi:i<=s.size) {k:Nat} (hk:1000<k):QD s k (i:Int)=some ((sc ZhX s.data.toList i:Nat):Int):=by
 have e:=Znl s hs;refine KX s.data.toList ZhX s.size (by rw [e]) (QD s) (by omega) (fun n x=> ?_) (s.size-i) i k (by omega) (by omega);rw [QD];simp only [Zcq]
theorem sw (i:Nat) (hi:i<=s.size) {k:Nat} (hk:1000<k):Xh s k (i:Int)=some ((sc word s.data.toList i:Nat):Int):=by
 have e:=Znl s hs;refine KX s.data.toList word s.size (by rw [e]) (Xh s) (by omega) (fun n x=> ?_) (s.size-i) i k (by omega) (by omega);rw [Xh]
 have:∀c:UInt8,((Vu (c.toNat:Int)).bind fun x11=>if x11=true then some true else (VZ (c.toNat:Int)).bind fun x12=>some x12)=some (word c):=fun c=>by
  rw [KY,Za7];unfold word;cases ZgL c<;>simp
 simp only [this]
theorem sd (i:Nat) (hi:i<=s.size) {k:Nat} (hk:1000<k):Xg s k (i:Int)=some ((sc ZhX s.data.toList i:Nat):Int):=by
 have e:=Znl s hs;refine KX s.data.toList ZhX s.size (by rw [e]) (Xg s) (by omega) (fun n x=> ?_) (s.size-i) i k (by omega) (by omega);rw [Xg];simp only [Za7,Zwe]
theorem sq (i:Nat) (hi:i<=s.size) {k:Nat} (hk:1000<k):Xf s k (i:Int)=some ((sc noQ s.data.toList i:Nat):Int):=by
 have e:=Znl s hs;refine KX s.data.toList noQ s.size (by rw [e]) (Xf s) (by omega) (fun n x=> ?_) (s.size-i) i k (by omega) (by omega);rw [Xf];rfl
theorem ZaA {a b:Nat} (h1:a<=b) (h2:b<=s.size):Uj s (a:Int) (b:Int)=some (s.extract a b):=by
 unfold Uj;rw [if_pos ⟨by omega,by omega,by omega⟩];simp
theorem ZdY (a b:Nat):(s.extract a b).data.toList=(s.data.toList.drop a).take (b-a):=by
 rw [ByteArray.data_extract,Array.toList_extract,List.extract_eq_take_drop]
theorem Zgw {a b:Nat} (h1:a<b) (h2:b<=s.size):∃c r,s.data.toList[a]? =some c/\(s.extract a b).data.toList=c::r:=by
 have e:=Znl s hs;have hl:a<s.data.toList.length:=by omega
 refine ⟨s.data.toList[a],(s.data.toList.drop (a+1)).take (b-a-1),Zwm hl, ?_⟩;rw [ZdY s hs,List.drop_eq_getElem_cons hl];obtain ⟨m,hm⟩:∃m,b-a=m+1:=⟨b-a-1,by omega⟩;rw [hm];simp
theorem ZaS {a b:Nat} (h2:b<=s.size):(s.extract a b).size<=120:=by rw [ByteArray.size_extract];omega
end
theorem ZjL (l:List UInt8):∀(m i:Nat),i+m=l.length->Lib.indexByte (l.drop i) 34=if sc noQ l i<l.length then ((sc noQ l i-i:Nat):Int) else-1
 | 0,i,h=>by rw [List.drop_eq_nil_of_le (by omega),ZlD (by omega),if_neg (by omega)];try rfl
 | m+1,i,h=>by
  have hlt:i<l.length:=by omega
  have ih:=ZjL l m (i+1) (by omega);have hle:=Zks (p:=noQ) (l:=l) m (i+1) (by omega);rw [List.drop_eq_getElem_cons hlt,Lib.indexByte,ZcM hlt,ih];generalize l[i]=c
  by_cases hc:c=34
  ·subst hc;have:noQ 34=false:=by decide
   simp [this,hlt]
  ·have hq:noQ c=true:=by
    unfold noQ;simp only [Bool.not_eq_true',decide_eq_false_iff_not];intro h;exact hc (UInt8.toNat_inj.1 (by show c.toNat=34;omega))
   have hb:(c==34)=false:=by simpa using hc
   simp only [hb,Zwl,if_false,hq,if_true]
   by_cases h1:sc noQ l (i+1)<l.length
   ·simp only [h1,if_true];have hne:¬(((sc noQ l (i+1)-(i+1):Nat):Int)== -1)=true:=by simp
    rw [if_neg hne];omega
   ·simp [h1]
structure WFt (t:Zh):Prop where
 nm:t.kind=1->∃c r,t.text.data.toList=c::r/\ZgL c=true
 sy:t.kind=4->∃c r,t.text.data.toList=c::r/\ZgL c=false
 at_:0<=t.at_
 tx:t.text.size<=120
def Zrj:List UInt8:=[40,41,91,93,44,43,45,42,60,61]
theorem Zox (c:UInt8) (l:List UInt8):(0<=Lib.indexByte l c)↔c∈l:=by
 induction l with
 | nil=>simp [Lib.indexByte]
 | cons b l ih=>
  unfold Lib.indexByte
  by_cases h:b=c
  ·simp [h]
  ·have hb:(b==c)=false:=by simpa using h
   have hne:¬c=b:=fun e=>h e.symm;simp only [hb,Zwl,if_false,List.mem_cons,hne,false_or];have hg:=Lib.indexByte_ge l c;rw [<-ih]
   split
   ·rename_i h1;have h2:Lib.indexByte l c= -1:=by simpa using h1
    constructor<;>intro h<;>omega
   ·rename_i h1;have h2:Lib.indexByte l c≠ -1:=by simpa using h1
    constructor<;>intro h<;>omega
theorem ZtH (b z:Bool):(if b=true then some true else some z)=some (b||z):=by cases b<;>rfl
theorem u8i (c d:UInt8):decide ((c.toNat:Int)=(d.toNat:Int))=decide (c=d):=by
 have:((c.toNat:Int)=(d.toNat:Int))↔c=d:=⟨fun h=>UInt8.toNat_inj.1 (by omega),fun h=>by rw [h]⟩;simp [this]
theorem Zkp (s:ByteArray) (hs:s.size<=120) (a:Nat) (ha:a<s.size) (c:UInt8) (hat:at? s.data.toList (a:Int)=some c):
  ∃n:Int,Ut s a=some n/\((n=2/\c=61/\a+1<s.size/\s.data.toList[a+1]? =some 61)\/(n=1/\c∈Zrj/\(c=61->s.data.toList[a+1]? ≠some 61))\/(n=0/\c∉Zrj)):=by
 have hsz:=Znl s hs;have w1:IntKind.i64.wrap ((a:Int)+1)=((a+1:Nat):Int):=wS a (by omega);have h40:decide ((c.toNat:Int)=40)=decide (c=40):=u8i c 40;have h41:decide ((c.toNat:Int)=41)=decide (c=41):=u8i c 41;have h91:decide ((c.toNat:Int)=91)=decide (c=91):=u8i c 91;have h93:decide ((c.toNat:Int)=93)=decide (c=93):=u8i c 93;have h44:decide ((c.toNat:Int)=44)=decide (c=44):=u8i c 44;have h43:decide ((c.toNat:Int)=43)=decide (c=43):=u8i c 43;have h45:decide ((c.toNat:Int)=45)=decide (c=45):=u8i c 45;have h42:decide ((c.toNat:Int)=42)=decide (c=42):=u8i c 42;have h60:decide ((c.toNat:Int)=60)=decide (c=60):=u8i c 60;have h61:decide ((c.toNat:Int)=61)=decide (c=61):=u8i c 61
 have hv:Ut s a=if (decide (c=40)||(decide (c=41)||(decide (c=91)||(decide (c=93)||(decide (c=44)||(decide (c=43)||(decide (c=45)||(decide (c=42)||decide (c=60)))))))))=true then some 1
   else if decide (c=61)=true then (if decide (((a+1:Nat):Int)<(s.size:Int))=true then (at? s.data.toList ((a+1:Nat):Int)).bind fun x=>some (decide ((x.toNat:Int)=61)) else some false).bind fun x3=>if x3=true then some 2 else some 1
   else some 0:=by
  unfold Ut;rw [hat];simp only [Zwe,ZtH,h40,h41,h91,h93,h44,h43,h45,h42,h60,h61,w1]
 by_cases h9:c∈[40,41,91,93,44,43,45,42,60]
 ·have e:(decide (c=40)||(decide (c=41)||(decide (c=91)||(decide (c=93)||(decide (c=44)||(decide (c=43)||(decide (c=45)||(decide (c=42)||decide (c=60)))))))))=true:=by simpa using h9
  refine ⟨1,by rw [hv,if_pos e],.inr (.inl ⟨rfl,List.mem_append_left [61] h9, ?_⟩)⟩;rintro rfl;simp at h9
 ·have e:¬(decide (c=40)||(decide (c=41)||(decide (c=91)||(decide (c=93)||(decide (c=44)||(decide (c=43)||(decide (c=45)||(decide (c=42)||decide (c=60)))))))))=true:=by simpa using h9
  by_cases hc:c=61
  ·rw [if_neg e,if_pos (decide_eq_true hc)] at hv
   by_cases hl:a+1<s.size
   ·have hl2:a+1<s.data.toList.length:=by omega
    have hat2:at? s.data.toList ((a+1:Nat):Int)=some s.data.toList[a+1]:=Yp hl2;have hge:=Zwm hl2;generalize s.data.toList[a+1]=d at hat2 hge;rw [if_pos (ZK hl),hat2,Zwe,show decide ((d.toNat:Int)=61)=decide (d=61) from u8i d 61,Zwe] at hv
    by_cases h2:d=61
    ·exact ⟨2,by rw [hv,if_pos (decide_eq_true h2)],.inl ⟨rfl,hc,hl,by rw [hge,h2]⟩⟩
    ·exact ⟨1,by rw [hv,if_neg (by simpa using h2)],.inr (.inl ⟨rfl,by rw [hc];decide,fun _ e=>h2 (Zwf (hge.symm.trans e))⟩)⟩
   ·rw [if_neg (Xs (by omega)),Zwe] at hv;refine ⟨1,by rw [hv];rfl,.inr (.inl ⟨rfl,by rw [hc];decide,fun _ e=> ?_⟩)⟩;have:=(List.getElem?_eq_some_iff.1 e).1;omega
  ·refine ⟨0,by rw [hv,if_neg e,if_neg (by simpa using hc)],.inr (.inr ⟨rfl,fun h=> ?_⟩)⟩;rcases List.mem_append.1 (show c∈[40,41,91,93,44,43,45,42,60]++[61] from h) with h| h
   ·exact h9 h
   ·exact hc (by simpa using h)
theorem Zrf (s:ByteArray) (hs:s.size<=120) (a:Nat) (ha:a<s.size):
  (∃(t:Zh) (e:Nat),a<e/\e<=s.size/\WFt t/\∀k,2000<=k->Xm k s a=some (t,((e-a:Nat):Int))/\Qs k s a=some (t,(e:Int),true))\/
  (∃(t t':Zh) (e:Int),∀k,2000<=k->Xm k s a=some (t,0)/\Qs k s a=some (t',e,false)):=by
 have hsz:=Znl s hs;have hla:a<s.data.toList.length:=by omega
 have hat:at? s.data.toList (a:Int)=some s.data.toList[a]:=Yp hla;have hget:s.data.toList[a]? =some s.data.toList[a]:=Zwm hla;generalize s.data.toList[a]=c at hat hget;have hbs:∀b:Nat,a<=b->b<=s.size->IntKind.i64.wrap ((b:Int)-(a:Int))=((b-a:Nat):Int):=fun b h1 h2=>by rw [w64 (by omega) (by omega)];omega
 have w1:IntKind.i64.wrap ((a:Int)+1)=((a+1:Nat):Int):=wS a (by omega);cases hle:ZgL c with
 | true=>
  have hw:=Zks (p:=word) (l:=s.data.toList) (s.size-a) a (by omega);have hstep:=ZcM (p:=word) hla;have hwc:word c=true:=by unfold word;rw [hle];rfl
  have hget2:s.data.toList[a]=c:=by have:=hget;rw [Zwm hla] at this;exact Zwf this
  rw [hget2,if_pos hwc] at hstep;have hw2:=Zks (p:=word) (l:=s.data.toList) (s.size-(a+1)) (a+1) (by omega);generalize sc word s.data.toList a=e at hw hstep;subst hstep;generalize he:sc word s.data.toList (a+1)=e at hw hw2;have hc1:=ZaA s hs (a:=a) (b:=e) (by omega) (by omega)
  have e1:∀k,2000<=k->Xh s k a=some (e:Int)/\QE s k a=some (e:Int):=fun k hk=>by
   have h1:=sw s hs a (by omega) (show 1000<k by omega);have h2:=iw s hs a (by omega) (show 1000<k by omega);rw [ZcM hla,hget2,if_pos hwc,he] at h1 h2;exact ⟨h1,h2⟩
  obtain ⟨c',r,g1,g2⟩:=Zgw s hs (a:=a) (b:=e) (by omega) (by omega);rw [hget] at g1;cases g1
  by_cases h8:8<e-a
  ·right
   refine ⟨⟨1,0,a,s.extract a e⟩,⟨1,0,a,s.extract a e⟩,e,fun k hk=>⟨?_, ?_⟩⟩
   ·unfold Xm;rw [hat];simp only [Zwe,KY,hle,if_true,(e1 k hk).1,hc1,hbs e (by omega) (by omega)];rw [if_pos (by simp;omega)];rfl
   ·unfold Qs;rw [hat];simp only [Zwe,Zcn,hle,if_true,(e1 k hk).2,hc1,hbs e (by omega) (by omega)];rw [show (decide (((e-a:Nat):Int)<=8))=false by simp;omega]
  ·left
   refine ⟨⟨1,0,a,s.extract a e⟩,e,by omega,by omega,⟨fun _=>⟨c,r,g2,hle⟩,(fun h=>by simp at h),by show (0:Int)<=a;omega,ZaS s hs (by omega)⟩,fun k hk=>⟨?_, ?_⟩⟩
   ·unfold Xm;rw [hat];simp only [Zwe,KY,hle,if_true,(e1 k hk).1,hc1,hbs e (by omega) (by omega)];rw [if_neg (by simp;omega)];simp only [Zwe,hbs e (by omega) (by omega)]
   ·unfold Qs;rw [hat];simp only [Zwe,Zcn,hle,if_true,(e1 k hk).2,hc1,hbs e (by omega) (by omega)];rw [show (decide (((e-a:Nat):Int)<=8))=true by simp;omega]
 | false=>
 cases hdi:ZhX c with
 | true=>
  have hget2:s.data.toList[a]=c:=by have:=hget;rw [Zwm hla] at this;exact Zwf this
  have hw2:=Zks (p:=ZhX) (l:=s.data.toList) (s.size-(a+1)) (a+1) (by omega);generalize he:sc ZhX s.data.toList (a+1)=e at hw2;have hc1:=ZaA s hs (a:=a) (b:=e) (by omega) (by omega)
  have e1:∀k,2000<=k->Xg s k a=some (e:Int)/\QD s k a=some (e:Int):=fun k hk=>by
   have h1:=sd s hs a (by omega) (show 1000<k by omega);have h2:=id_ s hs a (by omega) (show 1000<k by omega);rw [ZcM hla,hget2,if_pos hdi,he] at h1 h2;exact ⟨h1,h2⟩
  have hx:(s.extract a e).size<=120:=ZaS s hs (by omega);have p1:∀k,2000<=k->WB k (s.extract a e)=some (V2 (s.extract a e)):=fun k hk=>Zei _ (by omega) (by omega)
  have p2:Zap (s.extract a e) 0 1000000000=some (if (V2 (s.extract a e)).2=true/\0<=(V2 (s.extract a e)).1/\(V2 (s.extract a e)).1<=1000000000 then ((V2 (s.extract a e)).1,true) else (0,false)):=by
   unfold Zap;rw [if_pos (by omega),Zfm _ _ _ (by omega) (by omega)]
  have hpos:(V2 (s.extract a e)).2=true->0<=(V2 (s.extract a e)).1:=by
   intro h;unfold V2 at h ⊢;cases hn:ZjD (s.extract a e) with
   | none=>rw [hn] at h;cases h
   | some n=>
    rw [hn] at h;simp only at h ⊢
    by_cases hb:n.natAbs<1000000000000
    ·rw [if_pos hb];have hi:=Zem hn;obtain ⟨c',r,g1,g2⟩:=Zgw s hs (a:=a) (b:=e) (by omega) (by omega);rw [hget] at g1;cases g1;rw [Zfq] at hi
     by_cases hneg:n<0
     ·rw [if_pos hneg,g2] at hi;injection hi with hi _
      subst hi;simp [ZhX] at hdi
     ·show 0<=n;omega
    ·rw [if_neg hb] at h;cases h
  generalize V2 (s.extract a e)=rv at p1 p2 hpos
  by_cases hok:rv.2=true/\rv.1<=1000000000
  ·left
   refine ⟨⟨2,rv.1,a,⟨#[]⟩⟩,e,by omega,by omega,⟨(fun h=>by simp at h),(fun h=>by simp at h),by show (0:Int)<=a;omega,by show (0:Nat)<=120;omega⟩,fun k hk=>⟨?_, ?_⟩⟩
   ·unfold Xm;rw [hat];simp only [Zwe,KY,hle,Za7,hdi,Zwl,if_false,if_true,(e1 k hk).1,hc1,p1 k hk,hok.1,Bool.not_true];rw [show (decide (1000000000<rv.1))=false by simp;omega];simp only [Zwe,Zwl,if_false,hbs e (by omega) (by omega)]
   ·unfold Qs;rw [hat];simp only [Zwe,Zcn,hle,Zcq,hdi,Zwl,if_false,if_true,(e1 k hk).2,hc1,p2];rw [if_pos ⟨hok.1,hpos hok.1,hok.2⟩]
  ·right
   refine ⟨⟨2,rv.1,a,⟨#[]⟩⟩,⟨2,0,a,⟨#[]⟩⟩,e,fun k hk=>⟨?_, ?_⟩⟩
   ·unfold Xm;rw [hat]
    have hb:(if (!rv.2)=true then some true else some (decide (1000000000<rv.1)))=some true:=by
     cases h2:rv.2 with
     | false=>rfl
     | true=>simp [h2] at hok ⊢;omega
    simp only [Zwe,KY,hle,Za7,hdi,Zwl,if_false,if_true,(e1 k hk).1,hc1,p1 k hk,hb]
   ·unfold Qs;rw [hat];simp only [Zwe,Zcn,hle,Zcq,hdi,Zwl,if_false,if_true,(e1 k hk).2,hc1,p2];rw [if_neg (fun h=>hok ⟨h.1,h.2.2⟩)]
 | false=>
 by_cases h34:(c.toNat:Int)=34
 ·have hw2:=Zks (p:=noQ) (l:=s.data.toList) (s.size-(a+1)) (a+1) (by omega);have hix:=ZjL s.data.toList (s.size-(a+1)) (a+1) (by omega);generalize he:sc noQ s.data.toList (a+1)=e at hw2 hix
  have e1:∀k,2000<=k->Xf s k ((a+1:Nat):Int)=some (e:Int):=fun k hk=>by
   have h1:=sq s hs (a+1) (by omega) (show 1000<k by omega);rw [he] at h1;exact h1
  have hc1:=ZaA s hs (a:=a+1) (b:=e) (by omega) (by omega);have hc2:=ZaA s hs (a:=a+1) (b:=s.size) (by omega) (by omega)
  have hi2:Yw (s.extract (a+1) s.size) 34=some (if e<s.size then ((e-(a+1):Nat):Int) else-1):=by
   unfold Yw;rw [ZdY s hs,List.take_of_length_le (by simp<;>omega)];rw [show (34:Int).toNat.toUInt8=34 from rfl,hix,hsz]
  have vt:=fun k (hk:2000<=k)=>ZbL (s.extract (a+1) e) (by have:=ZaS s hs (a:=a+1) (b:=e) (by omega);omega) (show (s.extract (a+1) e).size<k by have:=ZaS s hs (a:=a+1) (b:=e) (by omega);omega);generalize (!((s.extract (a+1) e).data.toList.any VQ)&&decide (((s.extract (a+1) e).size:Int)<=20))=tv at vt;have l0:ZgL c=false:=hle
  by_cases hes:e<s.size
  ·rw [if_pos hes] at hi2;have hw3:IntKind.i64.wrap (IntKind.i64.wrap ((a:Int)+1)+((e-(a+1):Nat):Int))=(e:Int):=by rw [w1,w64 (by omega) (by omega)];omega
   have hw4:IntKind.i64.wrap (IntKind.i64.wrap ((a:Int)+((e-(a+1):Nat):Int))+2)=((e+1:Nat):Int):=by rw [w64 (n:=(a:Int)+((e-(a+1):Nat):Int)) (by omega) (by omega),w64 (by omega) (by omega)];omega
   have hi:∀k,2000<=k->Qs k s a=some (⟨3,0,a,s.extract (a+1) e⟩,((e+1:Nat):Int),tv):=by
    intro k hk;unfold Qs;rw [hat];simp only [Zwe,Zcn,hle,Zcq,hdi,Zwl,if_false,h34,decide_true,if_true,w1,hc2,hi2];rw [if_neg (by simp)];rw [<-w1,hw3,w1,hc1];simp only [Zwe,(vt k hk).2,hw4]
   cases tv with
   | true=>
    left
    refine ⟨⟨3,0,a,s.extract (a+1) e⟩,e+1,by omega,by omega,⟨(fun h=>by simp at h),(fun h=>by simp at h),by show (0:Int)<=a;omega,ZaS s hs (by omega)⟩,fun k hk=>⟨?_,hi k hk⟩⟩;unfold Xm;rw [hat];simp only [Zwe,KY,hle,Za7,hdi,Zwl,if_false,h34,decide_true,if_true,w1,e1 k hk,hc1,(vt k hk).1];rw [show (decide ((e:Int)=(s.size:Int)))=false by simp;omega];simp only [Zwl,if_false,Zwe,Bool.not_true,wS e (by omega),hbs (e+1) (by omega) (by omega)]
   | false=>
    right
    refine ⟨⟨3,0,a,s.extract (a+1) e⟩,_,_,fun k hk=>⟨?_,hi k hk⟩⟩;unfold Xm;rw [hat];simp only [Zwe,KY,hle,Za7,hdi,Zwl,if_false,h34,decide_true,if_true,w1,e1 k hk,hc1,(vt k hk).1];rw [show (decide ((e:Int)=(s.size:Int)))=false by simp;omega];simp only [Zwl,if_false,Zwe,Bool.not_false,if_true]
  ·rw [if_neg hes] at hi2
   right
   refine ⟨⟨3,0,a,s.extract (a+1) e⟩,⟨0,0,0,⟨#[]⟩⟩,0,fun k hk=>⟨?_, ?_⟩⟩
   ·unfold Xm;rw [hat];simp only [Zwe,KY,hle,Za7,hdi,Zwl,if_false,h34,decide_true,if_true,w1,e1 k hk,hc1];rw [show (decide ((e:Int)=(s.size:Int)))=true by simp;omega];simp only [if_true,Zwe]
   ·unfold Qs;rw [hat];simp only [Zwe,Zcn,hle,Zcq,hdi,Zwl,if_false,h34,decide_true,if_true,w1,hc2,hi2]
    rfl
 ·have hn34:¬((c.toNat:Int)=34):=h34;have hget2:s.data.toList[a]=c:=by have:=hget;rw [Zwm hla] at this;exact Zwf this
  have hlist:(s.extract a s.size).data.toList=c::s.data.toList.drop (a+1):=by
   rw [ZdY s hs,List.take_of_length_le (by simp<;>omega),List.drop_eq_getElem_cons hla,hget2]
  have hc0:=ZaA s hs (a:=a) (b:=s.size) (by omega) (by omega);have hc1:=ZaA s hs (a:=a) (b:=a+1) (by omega) (by omega)
  have hix:Yw (⟨#[40,41,91,93,44,43,45,42,60,61]⟩:ByteArray) (c.toNat:Int)=some (Lib.indexByte Zrj c):=by
   unfold Yw
   congr 2
   simp
  obtain ⟨n,hn,hcase⟩:=Zkp s hs a ha c hat;rcases hcase with ⟨rfl,rfl,h2,h3⟩| ⟨rfl,hmem,hno⟩| ⟨rfl,hmem⟩
  ·
   have hc2:=ZaA s hs (a:=a) (b:=a+2) (by omega) (by omega)
   have he2:s.extract a (a+2)=⟨#[61,61]⟩:=by
    apply ByteArray.ext;apply Array.toList_inj.1;have hl1:a+1<s.data.toList.length:=by omega
    have hg1:s.data.toList[a+1]=61:=by rw [Zwm hl1] at h3;exact Zwf h3
    rw [ZdY s hs,List.drop_eq_getElem_cons hla,hget2,List.drop_eq_getElem_cons hl1,hg1,show a+2-a=2 by omega]
    rfl
   have hpre:Yx (s.extract a s.size) (⟨#[61,61]⟩:ByteArray)=some true:=by
    unfold Yx Lib.hasPrefix;have hl1:a+1<s.data.toList.length:=by omega
    have hg1:s.data.toList[a+1]=61:=by rw [Zwm hl1] at h3;exact Zwf h3
    rw [hlist,List.drop_eq_getElem_cons hl1,hg1];simp
   left
   refine ⟨⟨4,0,a,⟨#[61,61]⟩⟩,a+2,by omega,by omega,⟨(fun h=>by simp at h),fun _=>⟨61,[61],rfl,by decide⟩,by show (0:Int)<=a;omega,by show (2:Nat)<=120;omega⟩,fun k hk=>⟨?_, ?_⟩⟩
   ·unfold Xm;rw [hat];simp only [Zwe,KY,hle,Za7,hdi,Zwl,if_false,hn34,decide_false,hn];rw [show IntKind.i64.wrap ((a:Int)+2)=((a+2:Nat):Int) by rw [w64 (by omega) (by omega)];rfl,hc2,he2];simp only [Zwe,hbs (a+2) (by omega) (by omega)]
   ·unfold Qs;rw [hat];simp only [Zwe,Zcn,hle,Zcq,hdi,Zwl,if_false,hn34,decide_false,hc0,hpre,if_true];rw [show IntKind.i64.wrap ((a:Int)+2)=((a+2:Nat):Int) by rw [w64 (by omega) (by omega)];rfl]
  ·
   have hpre:Yx (s.extract a s.size) (⟨#[61,61]⟩:ByteArray)=some false:=by
    unfold Yx Lib.hasPrefix;rw [hlist]
    congr 1
    by_cases hc61:c=61
    ·subst hc61
     by_cases hl1:a+1<s.data.toList.length
     ·rw [List.drop_eq_getElem_cons hl1];have:s.data.toList[a+1]≠61:=fun e=>hno rfl (by rw [Zwm hl1,e]);simp [List.isPrefixOf];intro e;exact this (by simpa using e.symm)
     ·rw [List.drop_eq_nil_of_le (by omega)];simp
    ·simp [List.isPrefixOf,Ne.symm hc61]
   left
   obtain ⟨c',r,g1,g2⟩:=Zgw s hs (a:=a) (b:=a+1) (by omega) (by omega);rw [hget] at g1;cases g1;refine ⟨⟨4,0,a,s.extract a (a+1)⟩,a+1,by omega,by omega,⟨(fun h=>by simp at h),fun _=>⟨c,r,g2,hle⟩,by show (0:Int)<=a;omega,ZaS s hs (by omega)⟩,fun k hk=>⟨?_, ?_⟩⟩
   ·unfold Xm;rw [hat];simp only [Zwe,KY,hle,Za7,hdi,Zwl,if_false,hn34,decide_false,hn];rw [w1,hc1];simp only [Zwe,hbs (a+1) (by omega) (by omega)]
   ·unfold Qs;rw [hat];simp only [Zwe,Zcn,hle,Zcq,hdi,Zwl,if_false,hn34,decide_false,hc0,hpre,w1,hc1,hix];rw [decide_eq_true ((Zox c Zrj).2 hmem)]
  ·right
   have hpre:∃b,Yx (s.extract a s.size) (⟨#[61,61]⟩:ByteArray)=some b/\b=false:=by
    refine ⟨_,rfl, ?_⟩;unfold Lib.hasPrefix;rw [hlist];have:c≠61:=fun e=>hmem (by rw [e];decide);simp [List.isPrefixOf,Ne.symm this]
   obtain ⟨b,hpre,rfl⟩:=hpre;have hc00:=ZaA s hs (a:=a) (b:=a) (by omega) (by omega);refine ⟨⟨4,0,a,s.extract a a⟩,⟨4,0,a,s.extract a (a+1)⟩,((a+1:Nat):Int),fun k hk=>⟨?_, ?_⟩⟩
   ·unfold Xm;rw [hat];simp only [Zwe,KY,hle,Za7,hdi,Zwl,if_false,hn34,decide_false,hn];rw [show IntKind.i64.wrap ((a:Int)+0)=(a:Int) by rw [w64 (by omega) (by omega)];omega,hc00];simp only [Zwe,hbs a (by omega) (by omega),Nat.sub_self]
    rfl
   ·unfold Qs;rw [hat];simp only [Zwe,Zcn,hle,Zcq,hdi,Zwl,if_false,hn34,decide_false,hc0,hpre,w1,hc1,hix];rw [decide_eq_false (fun h=>hmem ((Zox c Zrj).1 h))]
theorem YT.ZrV (r:YT):r.cells.length<=r.bk/\r.from_.length<=r.bk:=by
 have h2:=r.QP;have h3:=WK (f:=fun _:Int=>0) (xs:=r.cells);have h4:=WK (f:=fun _:ZD=>0) (xs:=r.from_);constructor<;>omega
theorem ZlF (r:YT) (h:r.bk<=1073741824):ZcN r=some r:=by
 obtain ⟨h1,h2⟩:=r.ZrV;unfold ZcN;rw [ZbB (by simp;omega) (by omega),Zwe,ZbB (by simp;omega) (by omega)];rfl
theorem Zml (r:YT) (h:r.bk<=1073741824):JQ r=some r:=by
 obtain ⟨h1,h2⟩:=r.ZrV;unfold JQ;rw [ZbB (by simp;omega) (by omega),Zwe,ZbB (by simp;omega) (by omega)];rfl
structure ZuZ (v:Zb):Prop where
 list:v.list.length<=v.bk
 cols:v.columns.length<=v.bk
 rows:v.rows.length<=v.bk
 text:v.text.size<=v.bk
 row:∀r∈v.rows,r.bk<=v.bk
 el:∀x∈v.list,x.bk<=v.bk
 col:∀s∈v.columns,s.size<=v.bk
theorem Zb.ZpZ (v:Zb):ZuZ v:=by
 have e:=v.QP;have l1:=WK (f:=Zb.bk) (xs:=v.list);have l2:=WK (f:=ByteArray.size) (xs:=v.columns);have l3:=WK (f:=YT.bk) (xs:=v.rows);exact ⟨by omega,by omega,by omega,by omega,fun r hr=>by have:=Ui (f:=YT.bk) hr;omega,fun r hr=>by have:=Ui (f:=Zb.bk) hr;omega,fun r hr=>by have:=Ui (f:=ByteArray.size) hr;omega⟩
theorem Zd9:∀v:Zb,v.bk<=1073741824->Ev fun k=>X1 k v=some v:=by
 refine Zb.ind fun v ih hb=> ?_;have l:=v.ZpZ;have:=l.list;have:=l.cols;have:=l.rows;refine ((Ev.all v.list fun y hy=>ih y hy (by have:=l.el y hy;omega)).and (Ev.ge (v.list.length+v.rows.length+2))).pred ?_;rintro k ⟨hx,hk⟩
 rw [X1,ZbB (by simp;omega) (by omega),Zwe,
  ZcA 112 (by omega) v.list (X1 k) (X8 (X1 k) v) hx (fun n out i=>by rw [X8]) (by omega) (by omega),Zwe,
  ZcA 48 (by omega) v.rows ZcN (X7 v) (fun r hr=>ZlF r (by have:=l.row r hr;omega)) (fun n out i=>by rw [X7]) (by omega) (by omega)]
 simp only [Zwe,List.nil_append];cases v;rfl
theorem Zex:∀v:Zb,v.bk<=1073741824->Ev fun k=>Yz k v=some v:=by
 refine Zb.ind fun v ih hb=> ?_;have l:=v.ZpZ;have:=l.list;have:=l.cols;have:=l.rows;refine Ev.pred (p:=fun k=>Yz (k+1) v=some v) (((Ev.all v.list fun y hy=>ih y hy (by have:=l.el y hy;omega)).and (Ev.ge (v.list.length+v.rows.length+2))).pred ?_) fun k h=>h;rintro k ⟨hx,hk⟩
 rw [Yz,V4,
  ZcA 112 (by omega) v.list (Yz k) (Qi (Yz k) v.list) hx (fun n out i=>by rw [Qi]) (by omega) (by omega),Zwe,Zwe,
  ZbB (by simp;omega) (by omega),Zwe,
  ZcA 48 (by omega) v.rows JQ (QF v) (fun r hr=>Zml r (by have:=l.row r hr;omega)) (fun n out i=>by rw [QF]) (by omega) (by omega)]
 simp only [Zwe,List.nil_append];cases v;rfl
def spl (sep t:ByteArray):List ByteArray:=Lib.splitB sep 0 (Lib.countB t sep) t
theorem ZmJ {a b:ByteArray} (h:a.data.toList=b.data.toList):a=b:=ByteArray.ext (Array.toList_inj.1 h)
theorem Zlw (sep:ByteArray):∀(k:Nat) (s:ByteArray) (x:ByteArray),x∈Lib.splitB sep 0 k s->x.size<=s.size
 | 0,s,x,h=>by simp [Lib.splitB] at h;simp [h]
 | k+1,s,x,h=>by
  unfold Lib.splitB at h
  split at h
  ·simp at h;simp [h]
  ·rcases List.mem_cons.1 h with rfl| h
   ·rw [ByteArray.size_extract];omega
   ·have:=Zlw sep k _ x h;rw [ByteArray.size_extract] at this;omega
theorem Zjr {sep t x:ByteArray} (h:x∈spl sep t):x.size<=t.size:=Zlw sep _ t x h
theorem ZfT (sep t:ByteArray) (h1:1<=sep.size):1<=(spl sep t).length/\(spl sep t).length<=t.size+1:=by
 have h2:=Lib.splitB_all sep h1 0 _ t rfl;have h3:=Lib.countB_le sep h1 _ t (Zwk _);unfold spl;omega
theorem Zlx (s sep:ByteArray) (h1:1<=sep.size) {fr i:Nat} (hf:fr<=i) (hi:i+sep.size<=s.size) (ho:Lib.occAt s.data.toList sep.data.toList i=true) (hn:∀j,fr<=j->j<i->Lib.occAt s.data.toList sep.data.toList j=false):
  spl sep (s.extract fr s.size)=s.extract fr i::spl sep (s.extract (i+sep.size) s.size):=by
 have tl:=Lib.extract_to_end s fr;have hsz:=Lib.size_eq s;have occ:∀j,Lib.occAt (s.data.toList.drop fr) sep.data.toList j=Lib.occAt s.data.toList sep.data.toList (fr+j):=fun j=>by unfold Lib.occAt;rw [List.drop_drop]
 have idx:Lib.indexB (s.extract fr s.size) sep=((i-fr:Nat):Int):=by
  show Lib.index _ _=_;rw [tl];refine Lib.index_first (by rw [List.length_drop];omega) ?_ fun j hj=> ?_
  ·rw [occ,show fr+(i-fr)=i by omega];exact ho
  ·rw [occ];exact hn _ (by omega) (by omega)
 have cnt:=Lib.countB_hit _ sep (i-fr) h1 idx
 have e2:(s.extract fr s.size).extract (i-fr+sep.size) (s.extract fr s.size).size=s.extract (i+sep.size) s.size:=by
  apply ZmJ;rw [Lib.extract_to_end,tl,Lib.extract_to_end,List.drop_drop]
  congr 1;omega
 have e1:(s.extract fr s.size).extract 0 (i-fr+0)=s.extract fr i:=by
  apply ZmJ;rw [Lib.extract_data,tl,Lib.extract_data,List.drop_zero]
  congr 1
 unfold spl;rw [cnt,Nat.add_comm,Lib.splitB_hit sep 0 _ _ (i-fr) idx,e1,e2]
theorem Zjs (s sep:ByteArray) {fr:Nat} (hn:∀j,fr<=j->Lib.occAt s.data.toList sep.data.toList j=false):spl sep (s.extract fr s.size)=[s.extract fr s.size]:=by
 have idx:Lib.indexB (s.extract fr s.size) sep= -1:=by
  show Lib.index _ _=_;rw [Lib.extract_to_end];refine Lib.index_none fun j _=> ?_;unfold Lib.occAt;rw [List.drop_drop];exact hn _ (by omega)
 unfold spl;rw [Lib.splitB_miss _ _ _ _ idx]
theorem ZsV (l:List UInt8) (c:UInt8) (j:Nat):Lib.occAt l [c] j=decide (l[j]? =some c):=by
 unfold Lib.occAt
 by_cases h:j<l.length
 ·rw [List.drop_eq_getElem_cons h,Zwm h];simp [List.isPrefixOf,eq_comm]
  rfl
 ·rw [List.drop_eq_nil_of_le (by omega),List.getElem?_eq_none (by omega)];simp
theorem ZtJ (l:List UInt8) (c d:UInt8) (j:Nat):Lib.occAt l [c,d] j=(decide (l[j]? =some c)&&decide (l[j+1]? =some d)):=by
 have:=ZsV l d (j+1);unfold Lib.occAt at this ⊢
 by_cases h:j<l.length
 ·rw [List.drop_eq_getElem_cons h,Zwm h,<-this];simp only [List.isPrefixOf]
  congr 1
  simp [eq_comm]
  rfl
 ·rw [List.drop_eq_nil_of_le (by omega),List.getElem?_eq_none (by omega)];simp
theorem whole (s:ByteArray):s.extract 0 s.size=s:=by apply ZmJ;rw [Lib.extract_to_end];simp
theorem Zkq (s:ByteArray) (hs:s.size<=120) (c:UInt8):∀(m fr i:Nat) (out:List ByteArray) (n:Nat),i+m=s.size+1->fr<=i->(m=0->fr=s.size+1)->out.length<=i->(∀j,fr<=j->j<i->s.data.toList[j]? ≠some c)->m<n->
  YG s (c.toNat:Int) n out fr i=some (out++if fr<=s.size then spl ⟨#[c]⟩ (s.extract fr s.size) else []):=by
 have hsz:=Lib.size_eq s;have hsep:(⟨#[c]⟩:ByteArray).data.toList=[c]:=rfl;intro m
 induction m with
 | zero=>
  intro fr i out n hi hf h0 hl hn hm;obtain ⟨n,rfl⟩:∃n',n=n'+1:=⟨n-1,by omega⟩;have:=h0 rfl;rw [YG,if_neg (by simp;omega),if_neg (by omega),List.append_nil]
 | succ m ih=>
  intro fr i out n hi hf h0 hl hn hm;obtain ⟨n,rfl⟩:∃n',n=n'+1:=⟨n-1,by omega⟩;rw [YG,if_pos (decide_eq_true (by omega)),if_pos (show fr<=s.size by omega)];have hcut:Uj s (fr:Int) (i:Int)=some (s.extract fr i):=ZaA s hs hf (by omega);have happ:Qb 16 out [s.extract fr i]=some (out++[s.extract fr i]):=X4 (by simp;omega) (by omega)
  by_cases he:i=s.size
  ·subst he;rw [decide_eq_true (show ((s.size:Nat):Int)=(s.size:Int) from rfl)];simp only [if_true,Zwe,hcut,happ];rw [wS s.size (by omega),ih (s.size+1) (s.size+1) _ n (by omega) (by omega) (fun _=>rfl) (by simp;omega) (fun j h1 h2=>by omega) (by omega),if_neg (by omega),List.append_nil,Zjs];intro j hj;rw [hsep,ZsV]
   by_cases h2:j<s.size
   ·simpa using hn j hj h2
   ·rw [List.getElem?_eq_none (by omega)];simp
  ·have hlt:i<s.data.toList.length:=by omega
   have hat:at? s.data.toList (i:Int)=some s.data.toList[i]:=Yp hlt;have hget:s.data.toList[i]? =some s.data.toList[i]:=Zwm hlt;generalize s.data.toList[i]=d at hat hget;rw [decide_eq_false (show ¬((i:Int)=(s.size:Int)) by omega)];simp only [Zwl,if_false,hat,Zwe];have hd:decide ((d.toNat:Int)=(c.toNat:Int))=decide (d=c):=u8i d c;rw [hd]
   by_cases hdc:d=c
   ·subst hdc;simp only [decide_true,if_true,hcut,happ,Zwe];rw [wS i (by omega),ih (i+1) (i+1) _ n (by omega) (by omega) (fun h=>by omega) (by simp;omega) (fun j h1 h2=>by omega) (by omega),if_pos (by omega)];rw [Zlx s ⟨#[d]⟩ (Zwk 1) hf (by show i+1<=s.size;omega) (by rw [hsep,ZsV,hget];simp) (fun j h1 h2=>by rw [hsep,ZsV];simpa using hn j h1 h2)];rw [List.append_assoc];rfl
   ·rw [decide_eq_false hdc];simp only [Zwl,if_false,Zwe]
    rw [wS i (by omega),ih fr (i+1) out n (by omega) (by omega) (fun h=>by omega) (by omega) (fun j h1 h2=>by
     by_cases hj:j=i
     ·subst hj;rw [hget];simpa using hdc
     ·exact hn j h1 (by omega)) (by omega),if_pos (by omega)]
def sp:ByteArray:=⟨#[32]⟩
theorem ZfV (s:ByteArray) (hs:s.size<=120) {k:Nat} (hk:2000<=k):WV k s 32=some (spl sp s):=by
 unfold WV;have:=Zkq s hs 32 (s.size+1) 0 0 [] k (by omega) (by omega) (by omega) (by simp) (fun j h1 h2=>by omega) (by omega);have:YG s 32 k [] 0 0=some ([]++if 0<=s.size then spl sp (s.extract 0 s.size) else []):=this;rw [this,if_pos (by omega),whole];rfl
theorem Zgn (s:ByteArray) (hs:s.size<=120):WX s 32=some (spl sp s):=by
 unfold WX Qc;have e:Zi3 [32]=sp:=by decide
 rw [e,if_pos ⟨by omega,by decide⟩];rfl
def Zkr:ByteArray:=⟨#[59,32]⟩
theorem Zkw (s:ByteArray) (hs:s.size<=120):∀(m fr i:Nat) (out:List ByteArray),i+m=s.size->fr<=i->out.length<=i->(∀j,fr<=j->j<i->Lib.occAt s.data.toList Zkr.data.toList j=false)->
  ∃ps f2,f2<=s.size/\out.length+ps.length<=s.size/\ps++[s.extract f2 s.size]=spl Zkr (s.extract fr s.size)/\∀n,m<n->ZM s n out fr i=some (out++ps,(f2:Int)):=by
 have hsz:=Lib.size_eq s;have hsep:Zkr.data.toList=[59,32]:=rfl;intro m
 induction m using Nat.strongRecOn with
 | _ m ih=>
 intro fr i out hi hf hl hn
 by_cases hlt:i+1<s.size
 ·have hl0:i<s.data.toList.length:=by omega
  have hl1:i+1<s.data.toList.length:=by omega
  have hat:at? s.data.toList (i:Int)=some s.data.toList[i]:=Yp hl0;have hat1:at? s.data.toList ((i+1:Nat):Int)=some s.data.toList[i+1]:=Yp hl1;have hget:s.data.toList[i]? =some s.data.toList[i]:=Zwm hl0;have hget1:s.data.toList[i+1]? =some s.data.toList[i+1]:=Zwm hl1;generalize s.data.toList[i]=c at hat hget;generalize s.data.toList[i+1]=d at hat1 hget1;have hc:decide ((c.toNat:Int)=59)=decide (c=59):=u8i c 59;have hd:decide ((d.toNat:Int)=32)=decide (d=32):=u8i d 32
  have step:∀n,ZM s (n+1) out fr i=(if (decide (c=59)&&decide (d=32))=true then (Uj s fr i).bind fun x11=>(Qb 16 out [x11]).bind fun x12=>ZM s n x12 ((i+2:Nat):Int) ((i+1:Nat):Int) else ZM s n out fr ((i+1:Nat):Int)):=by
   intro n;rw [ZM,wS i (by omega),if_pos (decide_eq_true (by omega)),hat,hat1];simp only [Zwe,hc,hd];rw [show IntKind.i64.wrap ((i:Int)+2)=((i+2:Nat):Int) by rw [w64 (by omega) (by omega)];rfl];cases decide (c=59)
   ·simp
   ·cases decide (d=32)
    ·simp
    ·simp only [if_true,Bool.and_self,Zwe];cases Uj s fr i with
     | none=>rfl
     | some x=>simp only [Zwe];cases Qb 16 out [x]<;>rfl
  have hcut:Uj s (fr:Int) (i:Int)=some (s.extract fr i):=ZaA s hs hf (by omega);have happ:Qb 16 out [s.extract fr i]=some (out++[s.extract fr i]):=X4 (by simp;omega) (by omega)
  by_cases hh:c=59/\d=32
  ·obtain ⟨rfl,rfl⟩:=hh;have ho:Lib.occAt s.data.toList Zkr.data.toList i=true:=by rw [hsep,ZtJ,hget,hget1];simp
   have hspl:=Zlx s Zkr (by decide) hf (by show i+2<=s.size;omega) ho hn;have hspl:spl Zkr (s.extract fr s.size)=s.extract fr i::spl Zkr (s.extract (i+2) s.size):=hspl;obtain ⟨ps,f2,a1,a2,a3,a4⟩:=ih (m-2) (by omega) (i+2) (i+2) (out++[s.extract fr i]) (by omega) (by omega) (by simp;omega) (fun j h1 h2=>by omega);refine ⟨s.extract fr i::ps,f2,a1,by simp at a2 ⊢;omega,by rw [hspl,<-a3];rfl,fun n hm=> ?_⟩;obtain ⟨n,rfl⟩:∃n',n=n'+2:=⟨n-2,by omega⟩;rw [step (n+1)];simp only [decide_true,Bool.and_self,if_true,hcut,happ,Zwe]
   by_cases h2:i+2<s.size
   ·have hl2:i+1+1<s.data.toList.length:=by omega
    rw [ZM,wS (i+1) (by omega),if_pos (decide_eq_true (by omega)),hat1];simp only [Zwe];rw [show (decide (((32:UInt8).toNat:Int)=59))=false from rfl];simp only [Zwl,if_false,Zwe];rw [a4 n (by omega)];simp
   ·have:=a4 (n+1) (by omega);rw [ZM,wS (i+2) (by omega),if_neg (by simp;omega)] at this;rw [ZM,wS (i+1) (by omega),if_neg (by simp;omega)];rw [this];simp
  ·have hno:(decide (c=59)&&decide (d=32))=false:=by
    by_cases h1:c=59
    ·have:d≠32:=fun h=>hh ⟨h1,h⟩;simp [this]
    ·simp [h1]
   obtain ⟨ps,f2,a1,a2,a3,a4⟩:=ih (m-1) (by omega) fr (i+1) out (by omega) (by omega) (by omega) (fun j h1 h2=>by
    by_cases hj:j=i
    ·subst hj;rw [hsep,ZtJ,hget,hget1];simpa using hno
    ·exact hn j h1 (by omega))
   refine ⟨ps,f2,a1,a2,a3,fun n hm=> ?_⟩;obtain ⟨n,rfl⟩:∃n',n=n'+1:=⟨n-1,by omega⟩;rw [step n,hno];simp only [Zwl,if_false];exact a4 n (by omega)
 ·refine ⟨[],fr,by omega,by simp;omega, ?_,fun n hm=> ?_⟩
  ·rw [Zjs,List.nil_append];intro j hj
   by_cases h2:j<i
   ·exact hn j hj h2
   ·rw [hsep,ZtJ,List.getElem?_eq_none (show s.data.toList.length<=j+1 by omega)];simp
  ·obtain ⟨n,rfl⟩:∃n',n=n'+1:=⟨n-1,by omega⟩;rw [ZM,wS i (by omega),if_neg (by simp;omega),List.append_nil]
theorem ZlG (s:ByteArray) (hs:s.size<=120) {k:Nat} (hk:2000<=k):Uv k s=some (spl Zkr s):=by
 obtain ⟨ps,f2,a1,a2,a3,a4⟩:=Zkw s hs s.size 0 0 [] (by omega) (by omega) (by simp) (fun j h1 h2=>by omega);unfold Uv;have:=a4 k (by omega);have:ZM s k [] 0 0=some ([]++ps,(f2:Int)):=this;rw [this];simp only [Zwe,List.nil_append];rw [ZaA s hs a1 (Zwk _)];simp only [Zwe];rw [X4 (by simp at a2 ⊢;omega) (by omega),a3,whole];rfl
theorem Zmm (s:ByteArray) (hs:s.size<=120):Qc s (⟨#[59,32]⟩:ByteArray)=some (spl Zkr s):=by
 unfold Qc;rw [if_pos ⟨by omega,by decide⟩];rfl
def Zel:List ByteArray->Option (List Int)
 | []=>some []
 | w::ws=>if (XD w (-1000000000) 1000000000).2=true then (Zel ws).map fun ns=>(XD w (-1000000000) 1000000000).1::ns else none
theorem Zhh:∀{ws:List ByteArray} {ns:List Int},Zel ws=some ns->ns.length=ws.length
 | [],ns,h=>by simp [Zel] at h;simp [<-h]
 | w::ws,ns,h=>by
  unfold Zel at h
  split at h
  ·obtain ⟨ms,h1,rfl⟩:=Option.map_eq_some_iff.1 h;simp [Zhh h1]
  ·cases h
theorem Zns (ws:List ByteArray) (hl:ws.length<=1000) (hs:∀w∈ws,w.size<=120):∀(m i:Nat) (out:List Int),i+m=ws.length->out.length<=i->
  (∀ns,Zel (ws.drop i)=some ns->∀k n,2000<=k->m<n->YP k ws n out i=some (.inl (out++ns))/\Ym ws n out i=some (.inl (out++ns)))/\
  (Zel (ws.drop i)=none->∃r,r.length<=ws.length/\∀k n,2000<=k->m<n->YP k ws n out i=some (.inr (r,false))/\Ym ws n out i=some (.inr ([],false))):=by
 intro m
 induction m with
 | zero=>
  intro i out hi hlo;rw [List.drop_eq_nil_of_le (by omega)];refine ⟨fun ns h k n hk hn=> ?_,fun h=>by cases h⟩;obtain rfl:ns=[]:=by simpa [Zel] using h.symm
  obtain ⟨n,rfl⟩:∃n',n=n'+1:=⟨n-1,by omega⟩;rw [YP,Ym,if_neg (Xs (by omega)),if_neg (Xs (by omega)),List.append_nil];exact ⟨rfl,rfl⟩
 | succ m ih=>
  intro i out hi hlo;have hlt:i<ws.length:=by omega
  have hat:at? ws (i:Int)=some ws[i]:=Yp hlt;have hw:=hs ws[i] (List.getElem_mem hlt);rw [List.drop_eq_getElem_cons hlt];generalize ws[i]=w at hat hw;have hp:Zap w (-1000000000) 1000000000=some (XD w (-1000000000) 1000000000):=by unfold Zap;rw [if_pos (by omega)]
  have hr:=Zfm w (-1000000000) 1000000000 (by omega) (by omega)
  have hb:∀k,2000<=k->((WB k w).bind fun x6=>(if (!x6.2)=true then some true else (Qn x6.1).bind fun x8=>some (!x8)).bind fun x7=>some (x6.1,x7))=some ((V2 w).1,!(XD w (-1000000000) 1000000000).2):=by
   intro k hk;rw [Zei w (by omega) (by omega),hr];simp only [Zwe];generalize V2 w=rv;cases h2:rv.2 with
   | false=>simp
   | true=>
    simp only [Bool.not_true,Zwl,if_false,true_and];unfold Qn;rw [US];simp only [Zwe]
    by_cases h3: -1000000000<=rv.1/\rv.1<=1000000000
    ·rw [if_pos h3];simp [h3.1,h3.2]
    ·rw [if_neg h3]
     have:(decide (-1000000000<=rv.1)&&decide (rv.1<=1000000000))=false:=by
      by_cases h4: -1000000000<=rv.1
      ·have:¬rv.1<=1000000000:=fun h=>h3 ⟨h4,h⟩;simp [this]
      ·simp [h4]
     rw [this]
  have sstep:∀k n,2000<=k->YP k ws (n+1) out i=(if (!(XD w (-1000000000) 1000000000).2)=true then some (.inr (out,false)) else (Qb 8 out [(V2 w).1]).bind fun x9=>YP k ws n x9 ((i+1:Nat):Int)):=by
   intro k n hk;have:=hb k hk;rw [YP,if_pos (ZK hlt),hat,wS i (by omega)];simp only [Zwe];cases hq:WB k w with
   | none=>rw [hq] at this;cases this
   | some x6=>
    rw [hq] at this;simp only [Zwe] at this ⊢;cases hq2:(if (!x6.2)=true then some true else (Qn x6.1).bind fun x8=>some (!x8)) with
    | none=>rw [hq2] at this;cases this
    | some x7=>
     rw [hq2] at this;simp only [Zwe,Zwh,Zwi] at this ⊢;rw [this.2,this.1]
  have istep:∀n,Ym ws (n+1) out i=(if (!(XD w (-1000000000) 1000000000).2)=true then some (.inr ([],false)) else (Qb 8 out [(XD w (-1000000000) 1000000000).1]).bind fun x7=>Ym ws n x7 ((i+1:Nat):Int)):=by
   intro n;rw [Ym,if_pos (ZK hlt),hat,wS i (by omega)];simp only [Zwe,hp]
  unfold Zel;cases hv:(XD w (-1000000000) 1000000000).2 with
  | false=>
   rw [hv] at sstep istep;refine ⟨fun ns h=>by simp at h,fun _=>⟨out,by omega,fun k n hk hn=> ?_⟩⟩;obtain ⟨n,rfl⟩:∃n',n=n'+1:=⟨n-1,by omega⟩;exact ⟨by rw [sstep k n hk];rfl,by rw [istep n];rfl⟩
  | true=>
   rw [hv] at sstep istep
   have e1:(XD w (-1000000000) 1000000000).1=(V2 w).1:=by
    rw [hr] at hv ⊢
    split
    ·rfl
    ·rename_i h;rw [if_neg h] at hv;cases hv
   have ha:Qb 8 out [(V2 w).1]=some (out++[(V2 w).1]):=X4 (by simp;omega) (by omega);obtain ⟨g1,g2⟩:=ih (i+1) (out++[(V2 w).1]) (by omega) (by simp;omega);simp only [if_true];refine ⟨fun ns h=> ?_,fun h=> ?_⟩
   ·obtain ⟨ms,h1,rfl⟩:=Option.map_eq_some_iff.1 h;intro k n hk hn;obtain ⟨n,rfl⟩:∃n',n=n'+1:=⟨n-1,by omega⟩;obtain ⟨q1,q2⟩:=g1 ms h1 k n hk (by omega);rw [sstep k n hk,istep n,e1,ha];simp only [Bool.not_true,Zwl,if_false,Zwe,q1,q2];simp
   ·have h1:Zel (ws.drop (i+1))=none:=by
     cases hx:Zel (ws.drop (i+1)) with
     | none=>rfl
     | some ms=>rw [hx] at h;cases h
    obtain ⟨r,r0,r1⟩:=g2 h1;refine ⟨r,r0,fun k n hk hn=> ?_⟩;obtain ⟨n,rfl⟩:∃n',n=n'+1:=⟨n-1,by omega⟩;obtain ⟨q1,q2⟩:=r1 k n hk (by omega);rw [sstep k n hk,istep n,e1,ha];simp only [Bool.not_true,Zwl,if_false,Zwe,q1,q2];exact ⟨trivial,trivial⟩
theorem Zrx (s:ByteArray) (hs:s.size<=120) (c:Int):∃(rs ri:List Int) (b:Bool),(b=true->rs=ri)/\ri.length<=121/\∀k,2000<=k->U9 k s c=some (rs,b)/\V3 k s c=some (ri,b):=by
 obtain ⟨l1,l2⟩:=ZfT sp s (by decide);obtain ⟨g1,g2⟩:=Zns (spl sp s) (by omega) (fun w hw=>by have:=Zjr hw;omega) (spl sp s).length 0 [] (by omega) (by simp);rw [List.drop_zero] at g1 g2;cases hv:Zel (spl sp s) with
 | some ns=>
  have hl:=Zhh hv;refine ⟨ns,ns,decide ((ns.length:Int)=c),fun _=>rfl,by omega,fun k hk=> ?_⟩;obtain ⟨q1,q2⟩:=g1 ns hv k k hk (by omega);have q1:YP k (spl sp s) k [] 0=some (.inl ([]++ns)):=q1;have q2:Ym (spl sp s) k [] 0=some (.inl ([]++ns)):=q2;constructor
  ·unfold U9;rw [ZfV s hs hk];simp only [Zwe];rw [q1];rfl
  ·unfold V3;rw [Zgn s hs];simp only [Zwe];rw [q2];rfl
 | none=>
  obtain ⟨r,r0,r1⟩:=g2 hv;refine ⟨r,[],false,fun h=>(by cases h),by simp,fun k hk=> ?_⟩;obtain ⟨q1,q2⟩:=r1 k k hk (by omega);have q1:YP k (spl sp s) k [] 0=some (.inr (r,false)):=q1;have q2:Ym (spl sp s) k [] 0=some (.inr ([],false)):=q2;constructor
  ·unfold U9;rw [ZfV s hs hk];simp only [Zwe];rw [q1];rfl
  ·unfold V3;rw [Zgn s hs];simp only [Zwe];rw [q2];rfl
def cix (nb:Ze) (id:Int):Int:=Zc6 (fun x:Zk=>decide (x.id=id)) nb.cells
theorem Za9 (nb:Ze) (id:Int) (hl:nb.cells.length<=4294967296) {k:Nat} (hk:nb.cells.length<k):Wl k nb id=some (cix nb id):=by
 unfold Wl cix Zc6
 rw [Zcz nb.cells (fun x=>decide (x.id=id)) (Yd nb id) (fun i=>some (.inr (i:Int))) (some (.inl ()))
  (fun n i h hp=>by rw [Yd,if_pos (ZK h),Yp h,Zwe,if_neg (by simpa using hp),wS i (by omega)])
  (fun n i h hp=>by rw [Yd,if_pos (ZK h),Yp h,Zwe,if_pos hp])
  (fun n=>by rw [Yd,if_neg (Xs (Zwk _))]) hk]
 split<;>rfl
theorem Ze7 (nb:Ze) (id:Int) (hl:nb.cells.length<=4294967296) {k:Nat} (hk:nb.cells.length<k):WY k nb id=some (cix nb id):=by
 rw [ZeD];exact Za9 nb id hl hk
theorem ZrQ (nb:Ze):nb.cells.length<=nb.bk:=by rw [Ze.QP];have:=WK (f:=Zk.bk) (xs:=nb.cells);omega
def ZsE (c:UInt8):Bool:=decide ((c.toNat:Int)<32)||decide (126<(c.toNat:Int))
def ZcS (s:ByteArray):Bool:=!(s.data.toList.any ZsE)&&decide ((s.size:Int)<=120)
theorem Zea (s:ByteArray) (hs:(s.size:Int)<=9223372036854775807) {k:Nat} (hk:s.size<k):XM k s=some (ZcS s):=by
 have hT:∀x∈s.data.toList,(fun c:UInt8=>(if (decide ((c.toNat:Int)<32))=true then some true else some (decide (126<(c.toNat:Int))):Option Bool)) x=some (ZsE x):=by
  intro x _;unfold ZsE;simp only;cases decide ((x.toNat:Int)<32)<;>simp
 unfold XM ZcS;rw [Qm s.data.toList ZsE _ false () (Yc s) hT (fun n i=>by rw [Yc,QM];simp only [Option.bind_assoc]) (by rw [QM];exact hs) (by rw [QM];exact hk)];cases s.data.toList.any ZsE<;>simp
theorem ZiN (s:ByteArray) (hs:(s.size:Int)<=9223372036854775807) {k:Nat} (hk:s.size<k):WH k s=some (ZcS s):=by
 rw [Zc3];exact Zea s hs hk
def Jk (c:Zk):Bool:= ((decide (1<=c.id)&&decide (c.id<=999))&&(decide (1<=c.version)&&decide (c.version<=999))&&ZcS c.code)&& (if c.kind=1 then decide (c.name=(⟨#[]⟩:ByteArray))&&decide (c.n=0) else if c.kind=2\/c.kind=4 then WM c.name&&decide (c.n=0) else if c.kind=3 then WM c.name&&(decide (c.code=(⟨#[]⟩:ByteArray))&&(decide (0<=c.n)&&decide (c.n<=100))) else false)
theorem Zd2 (c:Zk) (hc:c.bk<=1048576) {k:Nat} (hk:1048600<k):Qv k c=some (Jk c)/\Qy k c=some (Jk c):=by
 have e:=Zk.QP c;obtain ⟨n1,n2⟩:=Uy c.name (by omega) (show c.name.size<k by omega) (by omega);have p1:=Zea c.code (by omega) (show c.code.size<k by omega);have p2:=ZiN c.code (by omega) (show c.code.size<k by omega);unfold Qv Qy Jk;rw [n1,n2,p1,p2];simp only [US,Jy,Zwe];generalize (decide (1<=c.id)&&decide (c.id<=999))=A;generalize (decide (1<=c.version)&&decide (c.version<=999))=B;generalize ZcS c.code=C;generalize WM c.name=D;generalize decide (c.name=(⟨#[]⟩:ByteArray))=E;generalize decide (c.code=(⟨#[]⟩:ByteArray))=F;generalize (decide (0<=c.n)&&decide (c.n<=100))=G;generalize decide (c.n=0)=H
 by_cases h1:c.kind=1
 ·simp only [h1,decide_true,if_true];cases A<;>cases B<;>cases C<;>cases E<;>cases H<;>exact ⟨rfl,rfl⟩
 by_cases h2:c.kind=2
 ·simp only [h2];cases A<;>cases B<;>cases C<;>cases D<;>cases H<;>exact ⟨rfl,rfl⟩
 by_cases h4:c.kind=4
 ·simp only [h4];cases A<;>cases B<;>cases C<;>cases D<;>cases H<;>exact ⟨rfl,rfl⟩
 by_cases h3:c.kind=3
 ·simp only [h3];cases A<;>cases B<;>cases C<;>cases D<;>cases F<;>cases G<;>exact ⟨rfl,rfl⟩
 simp only [h1,h2,h3,h4,decide_false,if_false,or_self];cases A<;>cases B<;>cases C<;>exact ⟨rfl,rfl⟩
def Zby (nb:Ze) (j:Nat) (c:Zk):Bool:=!Jk c||!decide (cix nb c.id=(j:Int))
def ZnG (nb:Ze):Bool:=!anyI (Zby nb) 0 nb.cells&&decide ((nb.cells.length:Int)<=8)
theorem ZfN (nb:Ze) (hb:nb.bk<=1048576) {k:Nat} (hk:1048600<k):Xo k nb=some (ZnG nb)/\Xu k nb=some (ZnG nb):=by
 have e:=Ze.QP nb;have hl:=ZrQ nb
 have hc:∀j (h:j<nb.cells.length),Qv k nb.cells[j]=some (Jk nb.cells[j])/\Qy k nb.cells[j]=some (Jk nb.cells[j]):=fun j h=>by
  have:=Ui (f:=Zk.bk) (List.getElem_mem h);exact Zd2 _ (by omega) hk
 constructor
 ·unfold Xo ZnG
  rw [Vc nb.cells (Zby nb) (fun i x3=>(Qv k x3).bind fun x4=>if (!x4)=true then some true else (Wl k nb x3.id).bind fun x5=>some (!decide (x5=i))) false () (Z3 k nb)
   (fun j h=>by rw [(hc j h).1,Za9 nb _ (by omega) (by omega)];unfold Zby;simp only [Zwe];cases Jk nb.cells[j]<;>simp)
   (fun n i=>by rw [Z3];simp only [Option.bind_assoc]) (by omega) (by omega)]
  cases anyI (Zby nb) 0 nb.cells<;>simp
 ·unfold Xu ZnG
  rw [Vc nb.cells (Zby nb) (fun i x3=>(Qy k x3).bind fun x4=>if (!x4)=true then some true else (WY k nb x3.id).bind fun x5=>some (!decide (x5=i))) false () (Z4 k nb)
   (fun j h=>by rw [(hc j h).2,Ze7 nb _ (by omega) (by omega)];unfold Zby;simp only [Zwe];cases Jk nb.cells[j]<;>simp)
   (fun n i=>by rw [Z4]) (by omega) (by omega)]
  cases anyI (Zby nb) 0 nb.cells<;>simp
theorem Zlo (s:ByteArray) (hs:s.size<=120):∀(m a:Nat) (out:List Zh),a<=s.size->s.size-a<=m->out.length<=60->(∀t∈out,WFt t)->
  ∃r,(∀k n,2000<=k->m<n->ZN k s n out a=some r/\ZO k s n out a=some r)/\(∀o,r= .inl o->o.length<=60/\∀t∈o,WFt t)/\∀z,r= .inr z->0<=z.2:=by
 have hsz:=Znl s hs
 have stop:∀(m a:Nat) (out:List Zh),s.size<=a->out.length<=60->(∀t∈out,WFt t)->
   ∃r,(∀k n,2000<=k->m<n->ZN k s n out a=some r/\ZO k s n out a=some r)/\(∀o,r= .inl o->o.length<=60/\∀t∈o,WFt t)/\∀z,r= .inr z->0<=z.2:=by
  intro m a out ha hl hw;refine ⟨.inl out,fun k n hk hn=> ?_,(fun o e=>by cases e;exact ⟨hl,hw⟩),fun z e=>by cases e⟩;obtain ⟨n,rfl⟩:∃n',n=n'+1:=⟨n-1,by omega⟩;exact ⟨by rw [ZN,if_neg (Xs (by omega))],by rw [ZO,if_neg (Xs (by omega))]⟩
 intro m
 induction m with
 | zero=>intro a out ha hm hl hw;exact stop 0 a out (by omega) hl hw
 | succ m ih=>
  intro a out ha hm hl hw
  by_cases hlt:a<s.size
  ·have hla:a<s.data.toList.length:=by omega
   have hat:at? s.data.toList (a:Int)=some s.data.toList[a]:=Yp hla;generalize s.data.toList[a]=c at hat
   by_cases h32:(c.toNat:Int)=32
   ·obtain ⟨r,r1,r2,r3⟩:=ih (a+1) out (by omega) (by omega) hl hw;refine ⟨r,fun k n hk hn=> ?_,r2,r3⟩;obtain ⟨n,rfl⟩:∃n',n=n'+1:=⟨n-1,by omega⟩;rw [ZN,ZO,if_pos (ZK hlt),if_pos (ZK hlt),hat];simp only [Zwe];rw [if_pos (decide_eq_true h32),if_pos (decide_eq_true h32),wS a (by omega)];exact r1 k n hk (by omega)
   ·have start:∀k n,ZN k s (n+1) out a=((Xm k s a).bind fun x5=>(if (decide (x5.2=0))=true then some true else some (decide ((out.length:Int)=60))).bind fun x6=>if x6=true then some (.inr (([]:List Zh),(a:Int))) else (Qb 40 out [x5.1]).bind fun x7=>ZN k s n x7 (IntKind.i64.wrap ((a:Int)+x5.2)))/\
      ZO k s (n+1) out a=((Qs k s a).bind fun x5=>(if (!x5.2.2)=true then some true else some (decide ((out.length:Int)=60))).bind fun x6=>if x6=true then some (.inr (([]:List Zh),(a:Int))) else (Qb 40 out [x5.1]).bind fun x7=>ZO k s n x7 x5.2.1):=by
     intro k n;rw [ZN,ZO,if_pos (ZK hlt),if_pos (ZK hlt),hat];simp only [Zwe];rw [if_neg (by simpa using h32),if_neg (by simpa using h32)];exact ⟨rfl,rfl⟩
    rcases Zrf s hs a hlt with ⟨t,e,h1,h2,h3,h4⟩| ⟨t,t',e,h4⟩
    ·by_cases h60:out.length=60
     ·refine ⟨.inr ([],a),fun k n hk hn=> ?_,(fun o e=>by cases e),fun z e=>by cases e;show (0:Int)<=a;omega⟩;obtain ⟨n,rfl⟩:∃n',n=n'+1:=⟨n-1,by omega⟩;obtain ⟨q1,q2⟩:=h4 k hk;rw [(start k n).1,(start k n).2,q1,q2];have hd:decide ((out.length:Int)=60)=true:=by simp;omega
      simp [hd]
     ·obtain ⟨r,r1,r2,r3⟩:=ih e (out++[t]) h2 (by omega) (by simp;omega) (fun t' ht=>by
       rcases List.mem_append.1 ht with ht| ht
       ·exact hw t' ht
       ·simp at ht;rw [ht];exact h3)
      refine ⟨r,fun k n hk hn=> ?_,r2,r3⟩;obtain ⟨n,rfl⟩:∃n',n=n'+1:=⟨n-1,by omega⟩;obtain ⟨q1,q2⟩:=h4 k hk;have hd:decide ((out.length:Int)=60)=false:=by simp;omega
      have hd2:decide ((((e-a:Nat):Int))=0)=false:=by simp;omega
      rw [(start k n).1,(start k n).2,q1,q2];simp only [Zwe,Bool.not_true,Zwl,if_false,hd,hd2];rw [X4 (by simp;omega) (by omega)];simp only [Zwe];rw [show IntKind.i64.wrap ((a:Int)+((e-a:Nat):Int))=(e:Int) by rw [w64 (by omega) (by omega)];omega];exact r1 k n hk (by omega)
    ·refine ⟨.inr ([],a),fun k n hk hn=> ?_,(fun o e=>by cases e),fun z e=>by cases e;show (0:Int)<=a;omega⟩;obtain ⟨n,rfl⟩:∃n',n=n'+1:=⟨n-1,by omega⟩;obtain ⟨q1,q2⟩:=h4 k hk;rw [(start k n).1,(start k n).2,q1,q2];simp
  ·exact stop _ a out (by omega) hl hw
theorem Zh5 (s:ByteArray):∃(T:List Zh) (b:Int),(b<0->b= -1/\s.size<=120/\Zdy T s.size)/\∀k,2000<=k->Vz k s=some (T,b)/\VJ k s=some (T,b):=by
 by_cases hs:s.size<=120
 ·obtain ⟨r,h1,h2,h3⟩:=Zlo s hs s.size 0 [] (by omega) (by omega) (by simp) (by simp);cases r with
  | inl T=>
   obtain ⟨g1,g2⟩:=h2 T rfl;refine ⟨T, -1,fun _=>⟨rfl,hs,⟨fun t ht=>(g2 t ht).nm,fun t ht=>(g2 t ht).sy,fun t ht=>(g2 t ht).at_,fun t ht=>(g2 t ht).tx,by omega,g1⟩⟩,fun k hk=> ?_⟩;obtain ⟨q1,q2⟩:=h1 k k hk (by omega);have q1:ZN k s k [] 0=some (.inl T):=q1;have q2:ZO k s k [] 0=some (.inl T):=q2;constructor
   ·unfold Vz;rw [if_neg (by simp;omega),q1];rfl
   ·unfold VJ;rw [if_neg (by simp;omega),q2];rfl
  | inr z=>
   refine ⟨z.1,z.2,fun h=>absurd h (by have:=h3 z rfl;omega),fun k hk=> ?_⟩;obtain ⟨q1,q2⟩:=h1 k k hk (by omega);have q1:ZN k s k [] 0=some (.inr z):=q1;have q2:ZO k s k [] 0=some (.inr z):=q2;constructor
   ·unfold Vz;rw [if_neg (by simp;omega),q1];rfl
   ·unfold VJ;rw [if_neg (by simp;omega),q2];rfl
 ·refine ⟨[],120,fun h=>absurd h (by decide),fun k hk=>⟨?_, ?_⟩⟩
  ·unfold Vz;rw [if_pos (decide_eq_true (by omega))]
  ·unfold VJ;rw [if_pos (decide_eq_true (by omega))]
def zX:Za:=⟨0,0,⟨#[]⟩,[]⟩
theorem Zm9:zX.bk=0:=by rw [zX,Zhw];rfl
theorem ZnA (s:ByteArray):∃r:Za×Int,r.1.bk<=12000/\(-1<=r.2)/\Ev fun k=>Wi k s=some r/\Ws k s=some r:=by
 obtain ⟨T,b,h1,h2⟩:=Zh5 s
 by_cases hb:0<=b
 ·refine ⟨(zX,b),by rw [Zm9];omega,by show -1<=b;omega,2000,fun k hk=>⟨?_, ?_⟩⟩
  ·unfold Wi;rw [(h2 k hk).1];simp only [Zwe];rw [if_pos (decide_eq_true hb)];rfl
  ·unfold Ws;rw [(h2 k hk).2];simp only [Zwe];rw [if_pos (decide_eq_true hb)];rfl
 obtain ⟨rfl,hs,ok⟩:=h1 (by omega);obtain ⟨es,ei,x',p',o',r1,g1,B,e1⟩:=ZsH ok T.length ⟨T,0,s.size, -1⟩ ⟨T,0, -1⟩ (some 0) ⟨by omega,rfl,rfl⟩ (fun j e=>by cases e;omega);have hlen:=ok.len
 have sS:∀k,2000<=k->B<=k->Wi k s=((if (decide (x'.bad<0))=true then some (decide (x'.i<(T.length:Int))) else some false).bind fun x7=>if x7=true then (Y1 x').bind fun x8=>some (x8.2.toks,x8.2.i,x8.2.end_,x8.2.bad) else some (x'.toks,x'.i,x'.end_,x'.bad)).bind fun (x3,x4,x5,x6)=>if (decide (0<=x6))=true then some (zX,x6) else (Q3 k es).bind fun x9=>if (!x9)=true then some (zX,0) else some (es, -1):=by
  intro k hk hB;have q:=(e1 k hB).1;dsimp only at q;unfold Wi;rw [(h2 k hk).1];simp only [Zwe];rw [if_neg (by simp),q]
  rfl
 have iS:∀k,2000<=k->B<=k->Ws k s=((if (decide (p'.bad<0))=true then some (decide (p'.at_<(T.length:Int))) else some false).bind fun x4=>if x4=true then some p'.at_ else some p'.bad).bind fun x3=>if (decide ((T.length:Int)<=x3))=true then some (zX,(s.size:Int)) else if (decide (0<=x3))=true then (at? T x3).bind fun x5=>some (zX,x5.at_) else (Xa k ei).bind fun x6=>if (!x6)=true then some (zX,0) else some (ei, -1):=by
  intro k hk hB;have q:=(e1 k hB).2;dsimp only at q;unfold Ws;rw [(h2 k hk).2];simp only [Zwe];rw [if_neg (by simp),q]
  rfl
 cases o' with
 | none=>
  obtain ⟨c,c0,c1,c2,c3,c4,c5⟩:=r1;have hp:=ZjB ok c;refine ⟨(zX,Zm5 T s.size c),by rw [Zm9];omega,by show -1<=Zm5 T s.size c;omega,max 2000 B,fun k hk=>⟨?_, ?_⟩⟩
  ·rw [sS k (by omega) (by omega),c5];simp [show ¬Zm5 T s.size c<0 by omega,hp]
  ·rw [iS k (by omega) (by omega),c4];simp only [show ¬((c:Int)<0) by omega,decide_false,Zwl,if_false,Zwe]
   by_cases hc:c<T.length
   ·rw [if_neg (by simp;omega),if_pos (decide_eq_true (by omega)),Yp hc];simp only [Zwe,Zm5,Zwm hc]
   ·rw [if_pos (decide_eq_true (by omega))];simp only [Zm5,List.getElem?_eq_none (show T.length<=c by omega)]
 | some j=>
  obtain ⟨c0,rfl,rfl⟩:=r1;obtain ⟨rfl,j0,hj0,hj1,hj2⟩:=g1 j rfl;cases hj0
  by_cases hj:j<T.length
  ·have hat:at? T (j:Int)=some T[j]:=Yp hj;have hpos:=ok.at_ T[j] (List.getElem_mem hj)
   have f1:Y1 ⟨T,j,s.size, -1⟩=some (zE,⟨T,j,s.size,T[j].at_⟩):=by
    unfold Y1;simp [ZK hj,hat,zE,hj]
   refine ⟨(zX,T[j].at_),by rw [Zm9];omega,by show -1<=T[j].at_;omega,max 2000 B,fun k hk=>⟨?_, ?_⟩⟩
   ·rw [sS k (by omega) (by omega)];simp only [show ((-1:Int)<0) by decide,decide_true,if_true,ZK hj,Zwe,f1];rw [if_pos (decide_eq_true hpos)]
   ·rw [iS k (by omega) (by omega)];simp only [show ((-1:Int)<0) by decide,decide_true,if_true,ZK hj,Zwe];rw [if_neg (by simp;omega),if_pos (decide_eq_true (by omega)),hat]
    rfl
  ·obtain ⟨v,B2,hv⟩:=Zll es (by omega);have hno:decide ((j:Int)<(T.length:Int))=false:=by simp;omega
   have h9:∀k,max 2000 (max B B2)<=k->Wi k s=some (if v=true then (es, -1) else (zX,0))/\Ws k s=some (if v=true then (es, -1) else (zX,0)):=by
    intro k hk;obtain ⟨v1,v2⟩:=hv k (by omega);constructor
    ·rw [sS k (by omega) (by omega)];simp only [show ((-1:Int)<0) by decide,decide_true,if_true,hno,Zwe,Zwl,if_false];rw [if_neg (by simp),v1];cases v<;>rfl
    ·rw [iS k (by omega) (by omega)];simp only [show ((-1:Int)<0) by decide,decide_true,if_true,hno,Zwe,Zwl,if_false];rw [if_neg (by simp;omega),if_neg (by simp),v2];cases v<;>rfl
   refine ⟨_, ?_, ?_,_,h9⟩
   ·split
    ·show es.bk<=12000;omega
    ·rw [Zm9];omega
   ·split
    ·exact Int.le_refl _
    ·show (-1:Int)<=0;decide
theorem Zj5 {α:Type} {f:α->Nat} {B:Nat}:∀{xs:List α},(∀x∈xs,f x<=B)->bkS f xs<=xs.length*(B+1)
 | [],_=>by simp [bkS,QL]
 | x::xs,h=>by
  have h1:=h x (by simp);have h2:=Zj5 (xs:=xs) fun y hy=>h y (by simp [hy]);have e:bkS f (x::xs)=1+f x+bkS f xs:=by unfold bkS;rw [List.length_cons,show QL f (x::xs)=f x+QL f xs from rfl];omega
  rw [e,List.length_cons,Nat.add_mul];omega
def zV:Zb:=Zb.mk 0 0 0 ⟨#[]⟩ [] [] []
abbrev Zi9:=ByteArray->List Int×List Int×Bool
def Zlf (g:Zi9) (s:ByteArray):YT:=YT.mk (g s).2.1 []
def ZaZ (g:Zi9) (out:List YT) (l:List ByteArray):Option (List YT ⊕ (Zb×Bool)):=if l.all (fun s=>(g s).2.2)=true then some (.inl (out++l.map (Zlf g))) else some (.inr (zV,false))
theorem Zn4 {g:Zi9} {out:List YT} {s:ByteArray} {l:List ByteArray} (h:(g s).2.2=false):ZaZ g out (s::l)=some (.inr (zV,false)):=by unfold ZaZ;rw [List.all_cons,h];rfl
theorem Zmy {g:Zi9} {out:List YT} {s:ByteArray} {l:List ByteArray} (h:(g s).2.2=true):ZaZ g out (s::l)=ZaZ g (out++[Zlf g s]) l:=by unfold ZaZ;rw [List.all_cons,h,Bool.true_and,List.map_cons,List.append_assoc];rfl
structure ZqP (c:Int) (t:ByteArray) (r:List Int×List Int×Bool):Prop where
 same:r.2.2=true->r.1=r.2.1
 len:r.2.1.length<=121
 s:∀k,2000<=k->U9 k t c=some (r.1,r.2.2)
 i:∀k,2000<=k->V3 k t c=some (r.2.1,r.2.2)
theorem J1 (x:ByteArray) (ys:List ByteArray):(((x::ys).take (((x::ys).length:Int)).toNat).drop (1:Int).toNat)=ys:=by
 rw [show (((x::ys).length:Int)).toNat=(x::ys).length from Int.toNat_natCast _,List.take_length];rfl
theorem ZhA (x:ByteArray) (ys cs:List ByteArray) (hl:ys.length<=1000) (g:Zi9) (hg:∀s∈ys,ZqP cs.length s (g s)):∀(m i:Nat) (out:List YT) (k n:Nat),i+m=ys.length->out.length<=i->2000<=k->m<n->
  YH k (x::ys) cs n out ((i+1:Nat):Int)=ZaZ g out (ys.drop i)/\YK k (x::ys) cs n out (i:Int)=ZaZ g out (ys.drop i):=by
 intro m
 induction m with
 | zero=>
  intro i out k n hi ho hk hn;obtain ⟨n,rfl⟩:∃n',n=n'+1:=⟨n-1,by omega⟩;rw [List.drop_eq_nil_of_le (by omega),YH,YK,J1,if_neg (Xs (by simp;omega)),if_neg (Xs (by omega))];unfold ZaZ;simp
 | succ m ih=>
  intro i out k n hi ho hk hn;obtain ⟨n,rfl⟩:∃n',n=n'+1:=⟨n-1,by omega⟩;have hlt:i<ys.length:=by omega
  have hat:at? ys (i:Int)=some ys[i]:=Yp hlt;have hat':at? (x::ys) ((i+1:Nat):Int)=some ys[i]:=Yp (by simp;omega);have h:=hg ys[i] (List.getElem_mem hlt);rw [List.drop_eq_getElem_cons hlt,YH,YK,J1,if_pos (ZK (by simp;omega)),if_pos (ZK hlt),hat,hat',wS (i+1) (by omega),wS i (by omega)];generalize ys[i]=s at h;simp only [Zwe,h.s k hk,h.i k hk];cases hv:(g s).2.2 with
  | false=>rw [Zn4 hv];exact ⟨rfl,rfl⟩
  | true=>
   rw [Zmy hv,h.same hv];have ha:Qb 48 out [YT.mk (g s).2.1 []]=some (out++[Zlf g s]):=X4 (by simp;omega) (by omega);simp only [Bool.not_true,Zwl,if_false,ha,Zwe];exact ih (i+1) _ k n (by omega) (by simp;omega) hk (by omega)
structure Zs7 (v:Zb):Prop where
 bk:v.bk<=100000
 rows:v.rows.length<=121
 row:∀r∈v.rows,r.cells.length<=121/\r.from_=[]
theorem Zoo:Zs7 zV:=⟨by rw [Zb.QP];show 0<=100000;omega,by simp [zV],by simp [zV]⟩
theorem Zu7 (x:ByteArray) (ys:List ByteArray):Ze4 (x::ys) 1 ((x::ys).length:Int)=some ys:=by
 unfold Ze4;rw [if_pos ⟨by omega,by simp;omega,by omega⟩,J1]
theorem Zg3 (s:ByteArray) (hs:s.size<=120):∃x ys,spl Zkr s=x::ys/\x.size<=120/\ys.length<=120/\∀y∈ys,y.size<=120:=by
 obtain ⟨l1,l2⟩:=ZfT Zkr s (by decide);have h:∀y∈spl Zkr s,y.size<=120:=fun y hy=>by have:=Zjr hy;omega
 cases e:spl Zkr s with
 | nil=>rw [e] at l1;simp at l1
 | cons x ys=>
  rw [e] at l2 h;exact ⟨x,ys,rfl,h x (by simp),by simp at l2;omega,fun y hy=>h y (by simp [hy])⟩
theorem ZlL (cs ys:List ByteArray) (hy:∀y∈ys,y.size<=120):∃g:Zi9,∀s∈ys,ZqP cs.length s (g s):=by
 refine QV ys fun y h=> ?_;obtain ⟨rs,ri,b,h1,h2,h3⟩:=Zrx y (hy y h) cs.length;exact ⟨(rs,ri,b),⟨h1,h2,fun k hk=>(h3 k hk).1,fun k hk=>(h3 k hk).2⟩⟩
theorem Zqo (s:ByteArray) (hs:s.size<=120):∃r:Zb×Bool,Zs7 r.1/\Ev fun k=>VC k s=some r/\Wu k s=some r:=by
 obtain ⟨x,ys,e,hx,hl,hy⟩:=Zg3 s hs;have hcs:∀y∈spl sp x,y.size<=120:=fun y h=>by have:=Zjr h;omega
 have hcl:=(ZfT sp x (by decide)).2;obtain ⟨g,hg⟩:=ZlL (spl sp x) ys hy
 have sdef:∀k,2000<=k->VC k s=(ZaZ g [] ys).bind fun | .inl x4=>(ZF k (Zb.mk 5 0 0 ⟨#[]⟩ [] (spl sp x) x4)).bind fun x10=>if (!x10)=true then some (zV,false) else some (Zb.mk 5 0 0 ⟨#[]⟩ [] (spl sp x) x4,true)| .inr z=>some z:=by
  intro k hk;unfold VC;have h0:at? (x::ys) 0=some x:=Yp (xs:=x::ys) (i:=0) (by simp);rw [ZlG s hs hk,e,Zwe,h0,Zwe,ZfV x hx hk,Zwe];have:=(ZhA x ys (spl sp x) (by omega) g hg ys.length 0 [] k k (by omega) (by simp) hk (by omega)).1;rw [List.drop_zero] at this;have:YH k (x::ys) (spl sp x) k [] 1=ZaZ g [] ys:=this;rw [this];rfl
 have idef:∀k,2000<=k->Wu k s=(ZaZ g [] ys).bind fun | .inl x4=>(Zz k (Zb.mk 5 0 0 ⟨#[]⟩ [] (spl sp x) x4)).bind fun x10=>if (!x10)=true then some (zV,false) else some (Zb.mk 5 0 0 ⟨#[]⟩ [] (spl sp x) x4,true)| .inr z=>some z:=by
  intro k hk;unfold Wu;have h0:at? (x::ys) 0=some x:=Yp (xs:=x::ys) (i:=0) (by simp);rw [Zmm s hs,e,Zwe,h0,Zwe,Zgn x hx,Zwe,Zu7,Zwe];have:=(ZhA x ys (spl sp x) (by omega) g hg ys.length 0 [] k k (by omega) (by simp) hk (by omega)).2;rw [List.drop_zero] at this;have:YK k (x::ys) (spl sp x) k [] 0=ZaZ g [] ys:=this;rw [this];rfl
 by_cases hall:ys.all (fun s=>(g s).2.2)=true
 ·have hr:ZaZ g [] ys=some (.inl (ys.map (Zlf g))):=by unfold ZaZ;rw [if_pos hall,List.nil_append]
  have htab:Zs7 (Zb.mk 5 0 0 ⟨#[]⟩ [] (spl sp x) (ys.map (Zlf g))):=by
   have hrow:∀r∈ys.map (Zlf g),r.cells.length<=121/\r.from_=[]:=fun r hr=>by
    obtain ⟨y,hy,rfl⟩:=List.mem_map.1 hr;exact ⟨(hg y hy).len,rfl⟩
   refine ⟨?_,by show (ys.map (Zlf g)).length<=121;simp;omega,hrow⟩;rw [Zb.QP];show (0:Nat)+(bkS Zb.bk []+(bkS ByteArray.size (spl sp x)+(bkS YT.bk (ys.map (Zlf g))+0)))<=100000;have h1:=Zj5 (f:=ByteArray.size) (xs:=spl sp x) hcs
   have h2:=Zj5 (f:=YT.bk) (B:=121) (xs:=ys.map (Zlf g)) fun r hr=>by
    obtain ⟨a,b⟩:=hrow r hr;rw [YT.QP,ZmH,ZmH,b];simp;omega
   have h3:bkS Zb.bk []=0:=rfl;have h4:(spl sp x).length*(120+1)<=121*121:=Nat.mul_le_mul (by omega) (by omega);have h5:(ys.map (Zlf g)).length*(121+1)<=120*122:=Nat.mul_le_mul (by simp;omega) (by omega);omega
  obtain ⟨b,hb,hev⟩:=Zfc (Zb.mk 5 0 0 ⟨#[]⟩ [] (spl sp x) (ys.map (Zlf g))) (by have:=htab.bk;omega);refine ⟨if b then (Zb.mk 5 0 0 ⟨#[]⟩ [] (spl sp x) (ys.map (Zlf g)),true) else (zV,false), ?_,(hev.and (Ev.ge 2000)).mono fun k ⟨⟨h1,h2⟩,hk⟩=> ?_⟩
  ·cases b
   ·exact Zoo
   ·exact htab
  ·rw [sdef k hk,idef k hk,hr];simp only [Zwe,h1,h2];cases b<;>exact ⟨rfl,rfl⟩
 ·have hr:ZaZ g [] ys=some (.inr (zV,false)):=by unfold ZaZ;rw [if_neg hall]
  refine ⟨(zV,false),Zoo,(Ev.ge 2000).mono fun k hk=> ?_⟩;rw [sdef k hk,idef k hk,hr];exact ⟨rfl,rfl⟩
theorem ZnZ (x:ByteArray) (ys cs:List ByteArray) (hl:ys.length<=1000) (g:Zi9) (hg:∀s∈ys,ZqP cs.length s (g s)):∀(m i:Nat),i+m=ys.length->∃r:Unit ⊕ Int,∀k n:Nat,2000<=k->m<n->
  YI k (x::ys) cs n ((i+1:Nat):Int)=some r/\YL k (x::ys) cs n (i:Int)=some r:=by
 intro m
 induction m with
 | zero=>
  intro i hi;refine ⟨.inl (),fun k n hk hn=> ?_⟩;obtain ⟨n,rfl⟩:∃n',n=n'+1:=⟨n-1,by omega⟩;rw [YI,YL,J1,if_neg (Xs (by simp;omega)),if_neg (Xs (by omega))];exact ⟨rfl,rfl⟩
 | succ m ih=>
  intro i hi;have hlt:i<ys.length:=by omega
  have hat:at? ys (i:Int)=some ys[i]:=Yp hlt;have hat':at? (x::ys) ((i+1:Nat):Int)=some ys[i]:=Yp (by simp;omega);have h:=hg ys[i] (List.getElem_mem hlt);generalize ys[i]=s at h hat hat';obtain ⟨r,hr⟩:=ih (i+1) (by omega);refine ⟨if ((!(g s).2.2)||decide (12<=i))=true then .inr ((i+1:Nat):Int) else r,fun k n hk hn=> ?_⟩;obtain ⟨n,rfl⟩:∃n',n=n'+1:=⟨n-1,by omega⟩;obtain ⟨q1,q2⟩:=hr k n hk (by omega);rw [YI,YL,J1,if_pos (ZK (by simp;omega)),if_pos (ZK hlt),hat,hat',wS (i+1) (by omega),wS i (by omega)];simp only [Zwe,h.s k hk,h.i k hk,q1,q2];have e1:decide (12<((i+1:Nat):Int))=decide (12<=i):=decide_eq_decide.2 (by omega);have e2:decide (12<=(i:Int))=decide (12<=i):=decide_eq_decide.2 (by omega);rw [e1,e2];cases (g s).2.2<;>cases decide (12<=i)<;>exact ⟨rfl,rfl⟩
theorem ZkP (s:ByteArray) (hs:s.size<=120) {v:Zb} (hf:Ev fun k=>Wu k s=some (v,false)):∃n:Int,Ev fun k=>UM k s=some n/\UY k s=some n:=by
 obtain ⟨x,ys,e,hx,hl,hy⟩:=Zg3 s hs;have hcs:∀y∈spl sp x,y.size<=120:=fun y h=>by have:=Zjr h;omega
 have hcl:=(ZfT sp x (by decide)).2;obtain ⟨g,hg⟩:=ZlL (spl sp x) ys hy;obtain ⟨r,hr⟩:=ZnZ x ys (spl sp x) (by omega) g hg ys.length 0 (by omega);refine ⟨if Zbg (spl sp x)=true then (match r with | .inl _=> -1| .inr z=>z) else 0,(hf.and (Ev.ge 1048700)).mono fun k ⟨hp,hk⟩=> ?_⟩;have h0:at? (x::ys) 0=some x:=Yp (xs:=x::ys) (i:=0) (by simp);obtain ⟨c1,c2⟩:=ZhE (spl sp x) (by omega) (fun y h=>by have:=hcs y h;omega) (k:=k) (by omega);obtain ⟨q1,q2⟩:=hr k k (by omega) (by omega);have q1:YI k (x::ys) (spl sp x) k 1=some r:=q1;have q2:YL k (x::ys) (spl sp x) k 0=some r:=q2;constructor
 ·unfold UM;rw [ZlG s hs (by omega),e,Zwe,h0,Zwe,ZfV x hx (by omega),Zwe,c1,q1];cases Zbg (spl sp x)<;>cases r<;>rfl
 ·unfold UY;rw [hp,Zmm s hs,e,Zwe];simp only [Zwl,if_false,Zwe];rw [h0,Zwe,Zgn x hx,Zwe,c2,Zu7,Zwe,q2];cases Zbg (spl sp x)<;>cases r<;>rfl
theorem Zjn (a:Int) (v:Zb):∀(n:Nat) (xs:List YT) (i:Int),xs.length=v.rows.length->ZP a n xs i=Yu a v n xs i
 | 0,_,_,_=>rfl
 | n+1,xs,i,h=>by
  rw [ZP,Yu,h]
  split
  ·cases at? xs i with
   | none=>rfl
   | some y=>exact Zjn a v n _ _ (by simp [h])
  ·rfl
theorem Znn (a:Int) (B:Nat):∀(m i:Nat) (xs:List YT),i+m=xs.length->xs.length<=1000->(∀r∈xs,r.cells.length<=121/\r.from_.length<=1)->∃ys:List YT,ys.length=xs.length/\(∀r∈ys,r.cells.length<=121/\r.from_.length<=1)/\∀n,m<n->ZP a n xs (i:Int)=some ys:=by
 intro m
 induction m with
 | zero=>
  intro i xs hi hl hx;refine ⟨xs,rfl,hx,fun n hn=> ?_⟩;obtain ⟨n,rfl⟩:∃n',n=n'+1:=⟨n-1,by omega⟩;rw [ZP,if_neg (Xs (by omega))]
 | succ m ih=>
  intro i xs hi hl hx;have hlt:i<xs.length:=by omega
  have hat:at? xs (i:Int)=some xs[i]:=Yp hlt;have h:=hx xs[i] (List.getElem_mem hlt)
  obtain ⟨ys,h1,h2,h3⟩:=ih (i+1) (xs.set i (YT.mk xs[i].cells [ZD.mk a i])) (by simp;omega) (by simp;omega) fun r hr=>by
   rcases List.mem_or_eq_of_mem_set hr with h'| rfl
   ·exact hx r h'
   ·exact ⟨h.1,Zwk 1⟩
  refine ⟨ys,by rw [h1];simp,h2,fun n hn=> ?_⟩;obtain ⟨n,rfl⟩:∃n',n=n'+1:=⟨n-1,by omega⟩;rw [ZP,if_pos (ZK hlt),hat,Zwe,wS i (by omega),Int.toNat_natCast];exact h3 n (by omega)
theorem Zqi (n:Int):(Zb.mk 6 n 0 (⟨#[]⟩:ByteArray) [] [] []).bk<=0:=by rw [Zb.QP];exact Zwk 0
theorem Zly (a:Int) (v:Zb) (hv:Zs7 v):∃w:Zb,w.bk<=200000/\Ev fun k=>Vf k a v=some w/\Vm k a v=some w:=by
 obtain ⟨b,hb,hev⟩:=Zfc v (by have:=hv.bk;omega);have hrow:∀r∈v.rows,r.cells.length<=121/\r.from_.length<=1:=fun r hr=>⟨(hv.row r hr).1,by rw [(hv.row r hr).2];simp⟩;have hl:=hv.rows;obtain ⟨ys,h1,h2,h3⟩:=Znn a 0 v.rows.length 0 v.rows (by omega) (by omega) hrow;have hbk:=hv.bk;have hlens:=v.ZpZ;refine ⟨if (!decide (v.kind=5)||(!b||decide (a<0)))=true then Zb.mk 6 4 0 ⟨#[]⟩ [] [] [] else Zb.mk v.kind v.n v.step v.text v.list v.columns ys, ?_,(hev.and ((Zd9 v (by omega)).and ((Zex v (by omega)).and (Ev.ge 2000)))).mono fun k ⟨⟨e1,e2⟩,e3,e4,hk⟩=> ?_⟩
 ·split
  ·have:=Zqi 4;omega
  ·have e:=Zb.QP v;rw [Zb.QP];show v.text.size+(bkS Zb.bk v.list+(bkS ByteArray.size v.columns+(bkS YT.bk ys+0)))<=200000
   have:=Zj5 (f:=YT.bk) (B:=122) (xs:=ys) fun r hr=>by
    obtain ⟨a,b⟩:=h2 r hr;rw [YT.QP,ZmH,ZmH];omega
   have h5:ys.length*(122+1)<=121*123:=Nat.mul_le_mul (by omega) (by omega);omega
 ·have q1:ZP a k v.rows 0=some ys:=h3 k (by omega);have q2:Yu a v k v.rows 0=some ys:=by rw [<-Zjn a v k v.rows 0 rfl];exact q1
  unfold Vf Vm;rw [e1,e2,e3,e4];simp only [Zwe];rw [q1,q2];cases decide (v.kind=5)<;>cases b<;>cases decide (a<0)<;>exact ⟨rfl,rfl⟩
theorem ZiX {c:Zk} (h:Jk c=true):c.code.size<=120:=by
 unfold Jk at h;simp only [Zwj] at h;have:=h.1.2;unfold ZcS at this;simp only [Zwj,decide_eq_true_eq] at this;omega
theorem ZiW {c:Zk} (h:Jk c=true):c.kind=1\/c.kind=2\/c.kind=3\/c.kind=4:=by
 unfold Jk at h
 by_cases h1:c.kind=1
 ·exact .inl h1
 by_cases h2:c.kind=2
 ·exact .inr (.inl h2)
 by_cases h3:c.kind=3
 ·exact .inr (.inr (.inl h3))
 by_cases h4:c.kind=4
 ·exact .inr (.inr (.inr h4))
 simp [h1,h2,h3,h4] at h
def zEx:Za:=Za.mk 0 0 ⟨#[]⟩ []
theorem Zq4:zEx.bk<=0:=by rw [Za.QP];exact Zwk 0
def CP (c:Zk) (p:Zm):Prop:=Jk c=true->(p.kind=1↔c.kind=1)/\(¬c.kind=1->p.name=c.name)
theorem Zqv (c:Zk) (hc:c.bk<=1048576):∃p:Zm,((p.bk<=2097152/\p.expr.bk<=12000)/\CP c p)/\Ev fun k=>Yq k c=some p/\Yv k c=some p:=by
 have e:=Zk.QP c;have hz:=Zq4;have hz12:zEx.bk<=12000:=by omega
 have hzv:zV.bk<=0:=by rw [Zb.QP];exact Zwk 0
 cases hok:Jk c with
 | false=>
  refine ⟨Zm.mk 0 ⟨#[]⟩ zEx zV 0,⟨⟨by rw [Zm.QP];show 0+(zEx.bk+(zV.bk+0))<=2097152;omega,hz12⟩,fun h=>absurd h (by rw [hok];simp)⟩,(Ev.ge 1048601).mono fun k hk=> ?_⟩;obtain ⟨h1,h2⟩:=Zd2 c hc (k:=k) (by omega);unfold Yq Yv;rw [h1,h2,hok];exact ⟨rfl,rfl⟩
 | true=>
  have hcode:=ZiX hok
  have hval:Ev fun k=>Qv k c=some true/\Qy k c=some true:=(Ev.ge 1048601).mono fun k hk=>by
   have:=Zd2 c hc (k:=k) (by omega);rw [hok] at this;exact this
  rcases ZiW hok with hk| hk| hk| hk
  ·refine ⟨Zm.mk 1 ⟨#[]⟩ zEx zV 0,⟨⟨by rw [Zm.QP];show 0+(zEx.bk+(zV.bk+0))<=2097152;omega,hz12⟩,fun _=>⟨by simp [hk],fun h=>absurd hk h⟩⟩,hval.mono fun k ⟨h1,h2⟩=> ?_⟩;unfold Yq Yv;rw [h1,h2,hk];exact ⟨rfl,rfl⟩
  ·obtain ⟨r,r1,r2,r3⟩:=ZnA c.code;refine ⟨if 0<=r.2 then Zm.mk 4 c.name zEx (Zb.mk 6 8 0 ⟨#[]⟩ [] [] []) r.2 else Zm.mk 2 c.name r.1 zV 0,⟨⟨?_,by split;exact hz12;exact r1⟩,fun _=>⟨by split<;>simp [hk],fun _=>by split<;>rfl⟩⟩,(hval.and r3).mono fun k ⟨⟨h1,h2⟩,h3,h4⟩=> ?_⟩
   ·have:=Zqi 8
    split
    ·rw [Zm.QP];show c.name.size+(zEx.bk+((Zb.mk 6 8 0 ⟨#[]⟩ [] [] []).bk+0))<=2097152;omega
    ·rw [Zm.QP];show c.name.size+(r.1.bk+(zV.bk+0))<=2097152;omega
   ·unfold Yq Yv;rw [h1,h2,hk,h3,h4];simp only [Zwe]
    by_cases h0:0<=r.2
    ·rw [if_pos h0,decide_eq_true h0];exact ⟨rfl,rfl⟩
    ·rw [if_neg h0,decide_eq_false h0];exact ⟨rfl,rfl⟩
  ·refine ⟨Zm.mk 3 c.name zEx (Zb.mk 1 c.n 0 ⟨#[]⟩ [] [] []) 0,⟨⟨?_,hz12⟩,fun _=>⟨by simp [hk],fun _=>rfl⟩⟩,hval.mono fun k ⟨h1,h2⟩=> ?_⟩
   ·have:(Zb.mk 1 c.n 0 (⟨#[]⟩:ByteArray) [] [] []).bk<=0:=by rw [Zb.QP];exact Zwk 0
    rw [Zm.QP];show c.name.size+(zEx.bk+((Zb.mk 1 c.n 0 ⟨#[]⟩ [] [] []).bk+0))<=2097152;omega
   ·unfold Yq Yv;rw [h1,h2,hk];exact ⟨rfl,rfl⟩
  ·obtain ⟨⟨v,b⟩,hd,he⟩:=Zqo c.code hcode;cases b with
   | false=>
    obtain ⟨n,hn⟩:=ZkP c.code hcode (v:=v) (he.mono fun k h=>h.2);refine ⟨Zm.mk 4 c.name zEx (Zb.mk 6 8 0 ⟨#[]⟩ [] [] []) n,⟨⟨?_,hz12⟩,fun _=>⟨by simp [hk],fun _=>rfl⟩⟩,(hval.and (he.and hn)).mono fun k ⟨⟨h1,h2⟩,⟨h3,h4⟩,h5,h6⟩=> ?_⟩
    ·have:=Zqi 8;rw [Zm.QP];show c.name.size+(zEx.bk+((Zb.mk 6 8 0 ⟨#[]⟩ [] [] []).bk+0))<=2097152;omega
    ·unfold Yq Yv;rw [h1,h2,hk,h3,h4];simp only [Zwe];rw [h5,h6];exact ⟨rfl,rfl⟩
   | true=>
    obtain ⟨w,hw,hn⟩:=Zly c.id v hd;refine ⟨Zm.mk 3 c.name zEx w 0,⟨⟨?_,hz12⟩,fun _=>⟨by simp [hk],fun _=>rfl⟩⟩,(hval.and (he.and hn)).mono fun k ⟨⟨h1,h2⟩,⟨h3,h4⟩,h5,h6⟩=> ?_⟩
    ·rw [Zm.QP];show c.name.size+(zEx.bk+(w.bk+0))<=2097152;omega
    ·unfold Yq Yv;rw [h1,h2,hk,h3,h4];simp only [Zwe];rw [h5,h6];exact ⟨rfl,rfl⟩
theorem ZiT (nb:Ze) (hb:nb.bk<=1048576):∃ps:List Zm,(ps.length<=1048576/\(ps=[]/\ZnG nb=false\/ZnG nb=true/\∃f,ps=nb.cells.map f/\∀c∈nb.cells,CP c (f c)))/\(∀p∈ps,p.bk<=2097152/\p.expr.bk<=12000)/\Ev fun k=>W4 k nb=some ps/\Va k nb=some ps:=by
 have e:=Ze.QP nb;have hl:=WK (f:=Zk.bk) (xs:=nb.cells);haveI:Inhabited Zm:=⟨Zm.mk 0 ⟨#[]⟩ zEx zV 0⟩;obtain ⟨f,hf⟩:=QV nb.cells (p:=fun c (p:Zm)=>((p.bk<=2097152/\p.expr.bk<=12000)/\CP c p)/\Ev fun k=>Yq k c=some p/\Yv k c=some p) fun c hc=>Zqv c (by have:=Ui (f:=Zk.bk) hc;omega);have hall:=Ev.all nb.cells fun c hc=>(hf c hc).2;refine ⟨if ZnG nb=true then nb.cells.map f else [], ?_, ?_,(hall.and (Ev.ge 1048700)).mono fun k ⟨h1,hk⟩=> ?_⟩
 ·split
  ·rename_i hnb;exact ⟨by rw [List.length_map];omega,.inr ⟨hnb,f,rfl,fun c hc=>(hf c hc).1.2⟩⟩
  ·rename_i hnb;exact ⟨by simp,.inl ⟨rfl,by simpa using hnb⟩⟩
 ·split
  ·intro p hp;obtain ⟨c,hc,rfl⟩:=List.mem_map.1 hp;exact (hf c hc).1.1
  ·intro p hp;cases hp
 ·obtain ⟨v1,v2⟩:=ZfN nb hb (k:=k) (by omega);unfold W4 Va
  rw [v1,v2,ZdQ 200 (by omega) nb.cells f (Yq k) (Qg k nb) (fun c hc=>(h1 c hc).1) (fun n out i=>by rw [Qg]) (by omega) (by omega),
   ZdQ 200 (by omega) nb.cells f (Yv k) (Ql k nb) (fun c hc=>(h1 c hc).2) (fun n out i=>by rw [Ql]) (by omega) (by omega)]
  cases ZnG nb<;>exact ⟨rfl,rfl⟩
theorem ZiU (nb:Ze) (hb:nb.bk<=1048576):∃ps:List Zm,(ps.length<=1048576/\(ps=[]\/ps.length=nb.cells.length/\ZnG nb=true))/\(∀p∈ps,p.bk<=2097152/\p.expr.bk<=12000)/\Ev fun k=>W4 k nb=some ps/\Va k nb=some ps:=by
 obtain ⟨ps,⟨h1,h2⟩,h3,h4⟩:=ZiT nb hb;refine ⟨ps,⟨h1, ?_⟩,h3,h4⟩;rcases h2 with ⟨h,_⟩| ⟨h,f,rfl,_⟩
 ·exact .inl h
 ·exact .inr ⟨by rw [List.length_map],h⟩
def ZcD (f:Za->Bool) (w:Int) (j:Nat) (y:Za):Bool:=if (j:Int)<w then !decide (y.kind=1)&&!decide (y.kind=2) else !f y
theorem ZtF (x:Za) (hb:x.bk<=1048576):∃b,Ev fun k=>Y0 k x=some b/\Yt k x=some b:=by
 revert hb;refine Za.ind (p:=fun x=>x.bk<=1048576->∃b,Ev fun k=>Y0 k x=some b/\Yt k x=some b) (fun x ih hb=> ?_) x;obtain ⟨f,hf⟩:=QV (p:=fun y b=>Ev fun k=>Y0 k y=some b/\Yt k y=some b) x.args fun y hy=>ih y hy (by have:=Za.ZhM hy;omega);have hlen:=x.Zfp
 have loops:∀(c:Int) (k:Nat),(∀y∈x.args,Y0 k y=some (f y)/\Yt k y=some (f y))->x.args.length<k->
   XA (Y0 k) x c k 0=some (if anyI (ZcD f (IntKind.i64.wrap ((x.args.length:Int)-c))) 0 x.args=true then .inr false else .inl ())/\
   XO (Yt k) x c k 0=some (if anyI (ZcD f (IntKind.i64.wrap ((x.args.length:Int)-c))) 0 x.args=true then .inr false else .inl ()):=by
  intro c k hx hk;obtain ⟨w,hw⟩:∃w,w=IntKind.i64.wrap ((x.args.length:Int)-c):=⟨_,rfl⟩;rw [<-hw];constructor
  ·refine Vc x.args (ZcD f w) (fun i y=>if (decide (i<w))=true then (if (!decide (y.kind=1))=true then if (!decide (y.kind=2))=true then some true else some false else some false:Option Bool) else (Y0 k y).bind fun z=>some (!z)) false () _ (fun j hj=> ?_) (fun n i=> ?_) (by omega) hk
   ·unfold ZcD
    (try simp only)
    rw [(hx _ (List.getElem_mem hj)).1]
    by_cases h:(j:Int)<w
    ·rw [if_pos (by simpa using h),if_pos h];cases decide (x.args[j].kind=1)<;>cases decide (x.args[j].kind=2)<;>simp
    ·rw [if_neg (by simpa using h),if_neg h];rfl
   ·rw [XA,<-hw]
  ·refine Vc x.args (ZcD f w) (fun i y=>if (decide (w<=i))=true then (Yt k y).bind fun z=>some (!z) else (if (!decide (y.kind=1))=true then some (!decide (y.kind=2)) else some false:Option Bool)) false () _ (fun j hj=> ?_) (fun n i=> ?_) (by omega) hk
   ·unfold ZcD
    (try simp only)
    rw [(hx _ (List.getElem_mem hj)).2]
    by_cases h:(j:Int)<w
    ·rw [if_neg (by simp;omega),if_pos h];cases decide (x.args[j].kind=1)<;>cases decide (x.args[j].kind=2)<;>simp
    ·rw [if_pos (by simp;omega),if_neg h];rfl
   ·rw [XO,<-hw]
    by_cases h1:i<(x.args.length:Int)
    ·rw [if_pos (show (decide (i<(x.args.length:Int)))=true by simpa using h1),if_pos (show (decide (i<(x.args.length:Int)))=true by simpa using h1)];cases at? x.args i with
     | none=>rfl
     | some y=>
      simp only [Zwe]
      by_cases h2:w<=i
      ·rw [if_pos (show (decide (w<=i))=true by simpa using h2),if_pos (show (decide (w<=i))=true by simpa using h2)];cases Yt k y with
       | none=>rfl
       | some z=>cases z<;>rfl
      ·rw [if_neg (show ¬(decide (w<=i))=true by simpa using h2),if_neg (show ¬(decide (w<=i))=true by simpa using h2)];cases decide (y.kind=1)<;>cases decide (y.kind=2)<;>rfl
    ·rw [if_neg (show ¬(decide (i<(x.args.length:Int)))=true by simpa using h1),if_neg (show ¬(decide (i<(x.args.length:Int)))=true by simpa using h1)]
 have htab:∃c:Int,Xi x.text=some c/\((c=0/\∀k,¬x.kind=3->Yt (k+1) x=some false)\/(c≠0/\∀k,¬x.kind=3->Yt (k+1) x=if (!decide (x.kind=5))=true then some false else (XO (Yt k) x c k 0).bind fun | .inl _=>some true| .inr z=>some z)):=by
  by_cases e1:x.text=⟨#[119,104,101,114,101]⟩
  ·exact ⟨1,by unfold Xi;simp [e1],.inr ⟨by omega,fun k h3=>by rw [Yt,if_neg (by simpa using h3)];simp [e1];rfl⟩⟩
  by_cases e2:x.text=⟨#[107,101,101,112]⟩
  ·exact ⟨1,by unfold Xi;simp [e2],.inr ⟨by omega,fun k h3=>by rw [Yt,if_neg (by simpa using h3)];simp [e2];rfl⟩⟩
  by_cases e3:x.text=⟨#[97,100,100]⟩
  ·exact ⟨1,by unfold Xi;simp [e3],.inr ⟨by omega,fun k h3=>by rw [Yt,if_neg (by simpa using h3)];simp [e3];rfl⟩⟩
  by_cases e4:x.text=⟨#[103,114,111,117,112]⟩
  ·exact ⟨1,by unfold Xi;simp [e4],.inr ⟨by omega,fun k h3=>by rw [Yt,if_neg (by simpa using h3)];simp [e4];rfl⟩⟩
  by_cases e5:x.text=⟨#[106,111,105,110]⟩
  ·exact ⟨2,by unfold Xi;simp [e5],.inr ⟨by omega,fun k h3=>by rw [Yt,if_neg (by simpa using h3)];simp [e5];rfl⟩⟩
  exact ⟨0,by unfold Xi;simp [e1,e2,e3,e4,e5],.inl ⟨rfl,fun k h3=>by rw [Yt,if_neg (by simpa using h3)];simp [e1,e2,e3,e4,e5]⟩⟩
 obtain ⟨c,hc,hcase⟩:=htab
 by_cases h3:x.kind=3
 ·refine ⟨true,(Ev.ge 0).pred fun k _=>⟨by rw [Y0,if_pos (by simpa using h3)],by rw [Yt,if_pos (by simpa using h3)]⟩⟩
 by_cases h5:x.kind=5
 ·rcases hcase with ⟨hc0,hi⟩| ⟨hc0,hi⟩
  ·refine ⟨false,(Ev.ge 0).pred fun k _=>⟨?_,hi k h3⟩⟩;rw [Y0,if_neg (by simpa using h3),hc];simp [h5,hc0]
  ·refine ⟨!(anyI (ZcD f (IntKind.i64.wrap ((x.args.length:Int)-c))) 0 x.args),((Ev.all x.args hf).and (Ev.ge (x.args.length+2))).pred ?_⟩;rintro k ⟨hx,hk⟩;obtain ⟨l1,l2⟩:=loops c k hx (by omega);constructor
   ·rw [Y0,if_neg (by simpa using h3),hc];simp only [Zwe,h5,decide_true,Bool.not_true];rw [if_neg (by simp),Zwe,if_neg (by simpa using hc0),l1];cases anyI (ZcD f (IntKind.i64.wrap ((x.args.length:Int)-c))) 0 x.args<;>rfl
   ·rw [hi k h3,if_neg (by simpa using h5),l2];cases anyI (ZcD f (IntKind.i64.wrap ((x.args.length:Int)-c))) 0 x.args<;>rfl
 ·refine ⟨false,(Ev.ge 0).pred fun k _=>⟨?_, ?_⟩⟩
  ·rw [Y0,if_neg (by simpa using h3),hc];simp [h5]
  ·rcases hcase with ⟨hc0,hi⟩| ⟨hc0,hi⟩
   ·exact hi k h3
   ·rw [hi k h3,if_pos (by simpa using h5)]
theorem Ziq (x:Za) (hb:x.bk<=1048576):∃v,Ev fun k=>W3 k x=some v/\W8 k x=some v:=by
 obtain ⟨p,hp⟩:=ZtF x hb;obtain ⟨q,hq⟩:=nodes x hb;have hc:=x.ZeO;have hn:=x.Zf9;refine ⟨decide (x.cnt<=40)&&decide (x.nest<=8)&&q&&p, ?_⟩;refine (hp.and (hq.and ((ZlW x hb).and ((Zdk x hb).and (Zbc x hb))))).mono ?_;rintro k ⟨⟨p1,p2⟩,⟨q1,q2⟩,⟨n1,n2⟩,l,c⟩;constructor
 ·unfold W3 Q3;rw [l 40 (by omega) (by omega),n1,q1,p1]
  by_cases h:x.cnt<=40
  ·have e:szR x.cnt 40=40-x.cnt:=by unfold szR;rw [if_pos (by omega)]
   rw [e];simp only [Zwe];rw [if_pos (by simp;omega)]
   by_cases h8:x.nest<=8
   ·rw [if_pos (by simp;omega)];cases q<;>simp [h,h8]
   ·rw [if_neg (by simp;omega)];simp [h8]
  ·have e:szR x.cnt 40= -1:=by unfold szR;rw [if_neg (by omega)]
   rw [e];simp [h]
 ·unfold W8 Xa;rw [c,n2,q2,p2];simp only [Zwe]
  by_cases h:x.cnt<=40
  ·rw [if_pos (by simp;omega)]
   by_cases h8:x.nest<=8
   ·rw [if_pos (by simp;omega)];cases q<;>simp [h,h8]
   ·rw [if_neg (by simp;omega)];simp [h8]
  ·rw [if_neg (by simp;omega)];simp [h]
theorem ZnX {ps:List Zm} (hl:ps.length<=1048576) (hp:∀p∈ps,p.bk<=2097152) {U:Int->List Int} (h:GU ps U) (i:Nat) (hi:i<ps.length):∃v:Zb×Bool,(v.2=false->¬v.1.kind=5)/\Ev fun k=>Wk k ps (i:Int)=some v/\YC k ps (i:Int)=some v:=by
 obtain ⟨db,hd⟩:=ZoM ps hl (i:Int);obtain ⟨cb,_,hc⟩:=ZoQ hl h (i:Int)
 have hv:ps[i].value.bk<=1073741824:=by
  have:=hp _ (List.getElem_mem hi);have e:=Zm.QP ps[i];omega
 have hw:IntKind.i64.wrap ((ps.length:Int)-1)=(ps.length:Int)-1:=w64 (by omega) (by omega);have hall:=(hd.and hc).and ((Zd9 _ hv).and (Zex _ hv));have hE:∀n,Q4 n=some (Zb.mk 6 n 0 (⟨#[]⟩:ByteArray) [] [] []):=fun _=>rfl;have hF:∀n,Xb n=some (Zb.mk 6 n 0 (⟨#[]⟩:ByteArray) [] [] []):=fun _=>rfl;have d1:decide ((0:Int)<=(i:Int))=true:=decide_eq_true (by omega);have d2:decide ((i:Int)<=(ps.length:Int)-1)=true:=decide_eq_true (by omega);have d3:decide ((i:Int)<0)=false:=decide_eq_false (by omega);have d4:decide ((ps.length:Int)<=(i:Int))=false:=decide_eq_false (by omega)
 have go:∀v:Zb×Bool,(∀k,(Qw k ps (i:Int)=some db/\Qa k ps (i:Int)=some db)->(UH k ps (i:Int)=some cb/\Vo k ps (i:Int)=some cb)->X1 k ps[i].value=some ps[i].value->Yz k ps[i].value=some ps[i].value->XU k ps (i:Int) cb=some v/\YC k ps (i:Int)=some v)->(v.2=false->¬v.1.kind=5)->∃v:Zb×Bool,(v.2=false->¬v.1.kind=5)/\Ev fun k=>Wk k ps (i:Int)=some v/\YC k ps (i:Int)=some v:=fun v g1 g2=>⟨v,g2,hall.mono fun k ⟨⟨e1,e2⟩,e3,e4⟩=>by
  obtain ⟨q1,q2⟩:=g1 k e1 e2 e3 e4;refine ⟨?_,q2⟩;unfold Wk;rw [US,hw,d1,d2,e2.1];simp only [Zwe,Bool.and_true,Bool.not_true,Zwl,if_false,q1]⟩
 by_cases k1:ps[i].kind=1
 ·refine go (Zb.mk 0 0 0 (⟨#[]⟩:ByteArray) [] [] [],true) (fun k e1 e2 e3 e4=> ?_) (by simp);unfold XU YC;rw [Yp hi,d3,d4];simp only [Zwe,Zwl,if_false,decide_eq_true k1,if_true,and_self]
 ·have n1:decide (ps[i].kind=1)=false:=decide_eq_false k1;cases db with
  | true=>
   refine go (Zb.mk 6 2 0 (⟨#[]⟩:ByteArray) [] [] [],true) (fun k e1 e2 e3 e4=> ?_) (by simp);unfold XU YC;rw [Yp hi,d3,d4,e1.1];simp only [Zwe,Zwl,if_false,n1,e1.2,if_true,hE,hF,and_self]
  | false=>
   by_cases k4:ps[i].kind=4
   ·refine go (Zb.mk 6 8 0 (⟨#[]⟩:ByteArray) [] [] [],true) (fun k e1 e2 e3 e4=> ?_) (by simp);unfold XU YC;rw [Yp hi,d3,d4,e1.1];simp only [Zwe,Zwl,if_false,n1,e1.2,decide_eq_true k4,if_true,hE,hF,and_self]
   ·have n4:decide (ps[i].kind=4)=false:=decide_eq_false k4
    by_cases k3:ps[i].kind=3
    ·refine go (ps[i].value,true) (fun k e1 e2 e3 e4=> ?_) (by simp);unfold XU YC;rw [Yp hi,d3,d4,e1.1];simp only [Zwe,Zwl,if_false,n1,n4,e1.2,decide_eq_true k3,if_true,e3,e4,and_self]
    ·have n3:decide (ps[i].kind=3)=false:=decide_eq_false k3;cases cb with
     | true=>
      refine go (Zb.mk 6 3 0 (⟨#[]⟩:ByteArray) [] [] [],true) (fun k e1 e2 e3 e4=> ?_) (by simp);unfold XU YC;rw [Yp hi,d3,d4,e1.1];simp only [Zwe,Zwl,if_false,n1,n4,n3,e1.2,e2.2,if_true,hE,hF,and_self]
     | false=>
      refine go (Zb.mk 0 0 0 (⟨#[]⟩:ByteArray) [] [] [],false) (fun k e1 e2 e3 e4=> ?_) (by simp);unfold XU YC;rw [Yp hi,d3,d4,e1.1];simp only [Zwe,Zwl,if_false,n1,n4,n3,e1.2,e2.2,and_self]
def Vd (p:Nat->Bool) (n:Nat):List Int:=((List.range n).filter p).map fun (i:Nat)=>(i:Int)
theorem JM (p:Nat->Bool) (n:Nat):(Vd p n).length<=n:=by unfold Vd;rw [List.length_map];have:=List.length_filter_le p (List.range n);simpa using this
theorem ZcT (p:Nat->Bool) (n:Nat):Vd p (n+1)=if p n=true then Vd p n++[(n:Int)] else Vd p n:=by
 unfold Vd;rw [List.range_succ,List.filter_append,List.map_append];cases h:p n<;>simp [h]
theorem Zeh {p:Nat->Bool} {n:Nat} {z:Int}:z∈Vd p n↔(0<=z/\z<n)/\p z.toNat=true:=by
 unfold Vd;constructor
 ·intro h;obtain ⟨i,hi,rfl⟩:=List.mem_map.1 h;obtain ⟨h1,h2⟩:=List.mem_filter.1 hi;have:=List.mem_range.1 h1;exact ⟨⟨by omega,by omega⟩,by simpa using h2⟩
 ·rintro ⟨⟨h1,h2⟩,h3⟩;exact List.mem_map.2 ⟨z.toNat,List.mem_filter.2 ⟨List.mem_range.2 (by omega),h3⟩,by omega⟩
theorem ZlR (p:Nat->Bool) (n:Nat):(Vd p n).Pairwise (· < ·):=by
 unfold Vd;rw [List.pairwise_map];exact List.Pairwise.imp (fun {a b} hab=>by omega) (List.Pairwise.filter _ List.pairwise_lt_range)
theorem ZbD (nb:Ze) (_h:Zlc nb.c) (hb:nb.bk<=1048576):∃v,bkS (fun _=>0) v<=1073741824/\Ev fun k=>Wh k nb=some v/\Xt k nb=some v:=by
 obtain ⟨ps,⟨hl,hlen⟩,hp2,hcomp⟩:=ZiU nb hb;have hp:=fun p h=>(hp2 p h).1;obtain ⟨U,hU⟩:=ZnV ps hl hp;obtain ⟨run,hrun⟩:=Zpl hl hU;obtain ⟨r,⟨hr1,hr2⟩,hord⟩:=ZnE hl hU hrun
 have hcl:ps.length<=nb.cells.length:=by
  rcases hlen with rfl| h
  ·simp
  ·omega
 haveI:Inhabited Zb:=⟨Zb.mk 0 0 0 ⟨#[]⟩ [] [] []⟩;obtain ⟨fv,hfv⟩:=QV (p:=fun (i:Nat) (v:Zb×Bool)=>(v.2=false->¬v.1.kind=5)/\Ev fun k=>Wk k ps (i:Int)=some v/\YC k ps (i:Int)=some v) (List.range ps.length) fun i hi=>ZnX hl hp hU i (List.mem_range.1 hi);obtain ⟨pb,hpb⟩:=QV (p:=fun (p:Zm) (v:Bool)=>Ev fun k=>W3 k p.expr=some v/\W8 k p.expr=some v) ps fun p h=>Ziq p.expr (by have:=(hp2 p h).2;omega);have hallF:=Ev.all (List.range ps.length) fun i hi=>(hfv i hi).2;have hallP:=Ev.all ps hpb;have mr:∀{i},i<ps.length->i∈List.range ps.length:=fun h=>List.mem_range.2 h
 let t1:Nat->Bool:=fun i=>decide ((fv i).1.kind=5)
 let ok2:List Int->Int->Bool:=fun s x=>match ps[x.toNat]? with | some p=>decide (p.kind=2)&&pb p&&!(U x).any fun j=>!decide (j∈s)| none=>false
 let F:List Int->Int->List Int:=fun s x=>if ok2 s x=true then s++[x] else s
 have hrl:r.length<=ps.length:=Xq hr1 fun x hx=>(hr2 x hx).1
 have Flen:∀j,j<=r.length->((r.take j).foldl F (Vd t1 ps.length)).length<=ps.length+j/\∀z∈(r.take j).foldl F (Vd t1 ps.length),0<=z/\z<ps.length:=by
  intro j
  induction j with
  | zero=>intro _;exact ⟨by have:=JM t1 ps.length;simpa using this,fun z hz=>(Zeh.1 (by simpa using hz)).1⟩
  | succ j ih=>
   intro hj;obtain ⟨i1,i2⟩:=ih (by omega);have hjl:j<r.length:=by omega
   rw [List.take_succ_eq_append_getElem hjl,List.foldl_append];generalize (r.take j).foldl F (Vd t1 ps.length)=acc at i1 i2 ⊢;show (F acc r[j]).length<=_/\∀z∈F acc r[j],_;simp only [F]
   split
   ·refine ⟨by rw [List.length_append,List.length_singleton];omega,fun z hz=> ?_⟩;rcases List.mem_append.1 hz with g| g
    ·exact i2 z g
    ·rw [List.mem_singleton] at g;subst g;exact (hr2 _ (List.getElem_mem hjl)).1
   ·exact ⟨by omega,i2⟩
 obtain ⟨X,hX⟩:∃X,X=r.foldl F (Vd t1 ps.length):=⟨_,rfl⟩
 have hXl:X.length<=ps.length+r.length/\∀z∈X,0<=z/\z<ps.length:=by
  have:=Flen r.length (Zwk _)
  rwa [List.take_length,<-hX] at this
 obtain ⟨s0,hs0,hset⟩:=ZfU X (by omega)
 have hs1:s0=Vd (fun i=>decide ((i:Int)∈X)) ps.length:=by
  rw [hs0];refine (Zif (ZlR _ _) fun z=> ?_).symm;rw [Zeh,decide_eq_true_eq];constructor
  ·rintro ⟨⟨h1,h2⟩,h3⟩
   rwa [show ((z.toNat:Nat):Int)=z by omega] at h3
  ·intro hz;have:=hXl.2 z hz;exact ⟨this,by rwa [show ((z.toNat:Nat):Int)=z by omega]⟩
 let g:Int->Int:=fun x=>match nb.cells[x.toNat]? with | some c=>c.id| none=>0
 have hg:∀x:Int,0<=x/\x<ps.length->∃c,at? nb.cells x=some c/\c.id=g x:=fun x hx=>by
  obtain ⟨m,rfl⟩:=Int.eq_ofNat_of_zero_le hx.1;have hm:m<nb.cells.length:=by omega
  exact ⟨nb.cells[m],Yp hm,by simp only [g,Int.toNat_natCast,Zwm hm]⟩
 refine ⟨s0.map g, ?_,(((hcomp.and hallF).and (hallP.and hord)).and ((hset.and hU.ev).and (Ev.ge (2*ps.length+2)))).mono fun k ⟨⟨⟨⟨c1,c2⟩,hF⟩,hP,o1,o2⟩,⟨hset,hUk⟩,hk⟩=> ?_⟩
 ·rw [ZmH,List.length_map,hs1];have:=JM (fun i=>decide ((i:Int)∈X)) ps.length;omega
 have hlU:=hU.len
 have sU1:ZS k ps k [] 0=some (Vd t1 ps.length):=
  ZdG (fun m (s:List Int) i=>ZS k ps m s i) (fun i=>Vd t1 i) _ ps.length
   (fun m i hi=>by
    have hpl:=JM t1 i
    try simp only
    rw [ZS,if_pos (ZK hi),(hF i (mr hi)).1,ZcT,wS i (by omega),X4 (by simp;omega) (by omega)];simp only [Zwe,t1];cases decide ((fv i).1.kind=5)<;>rfl)
   (fun m=>by
    try simp only
    rw [ZS,if_neg (Xs (Zwk _))]) (by omega)
 have iU1:ZU k ps k [] 0=some (Vd t1 ps.length):=
  ZdG (fun m (s:List Int) i=>ZU k ps m s i) (fun i=>Vd t1 i) _ ps.length
   (fun m i hi=>by
    have hpl:=JM t1 i;have hf:=(hfv i (mr hi)).1
    try simp only
    rw [ZU,if_pos (ZK hi),(hF i (mr hi)).2,ZcT,wS i (by omega),X4 (by simp;omega) (by omega)];simp only [Zwe,t1];cases h2:(fv i).2
    ·rw [decide_eq_false (hf h2)];rfl
    ·cases decide ((fv i).1.kind=5)<;>rfl)
   (fun m=>by
    try simp only
    rw [ZU,if_neg (Xs (Zwk _))]) (by omega)
 have sU2:ZR k ps r k (Vd t1 ps.length) 0=some X:=by
  have:=ZdG (fun m (s:List Int) i=>ZR k ps r m s i) (fun j=>(r.take j).foldl F (Vd t1 ps.length)) (some X) r.length
   (fun m j hj=>by
    obtain ⟨⟨b0,b1⟩,_⟩:=hr2 _ (List.getElem_mem hj);have hfl:=(Flen j (by omega)).1;have hx:r[j].toNat<ps.length:=by omega
    have hat:at? ps r[j]=some ps[r[j].toNat]:=by unfold at?;rw [if_pos b0,Zwm hx]
    obtain ⟨p1,p2⟩:=hP _ (List.getElem_mem hx);have hok:ok2 ((r.take j).foldl F (Vd t1 ps.length)) r[j]=(decide (ps[r[j].toNat].kind=2)&&pb ps[r[j].toNat]&&!(U r[j]).any fun x=>!decide (x∈(r.take j).foldl F (Vd t1 ps.length))):=by simp only [ok2,Zwm hx]
    try simp only
    rw [ZR,if_pos (ZK hj),Yp hj,Zwe,hat,Zwe,p1,(hUk r[j]).1,Zwe,Zwe,Zt8 _ _ (by have:=hlU r[j];omega) (by omega) (by have:=hlU r[j];omega) (by omega),wS j (by omega),X4 (by simp;omega) (by omega),List.take_succ_eq_append_getElem hj,List.foldl_append];simp only [List.foldl_cons,List.foldl_nil,F,hok];cases decide (ps[r[j].toNat].kind=2)<;>cases pb ps[r[j].toNat]<;>cases (U r[j]).any fun x=>!decide (x∈(r.take j).foldl F (Vd t1 ps.length))<;>rfl)
   (fun m=>by
    try simp only
    rw [ZR,if_neg (Xs (Zwk _)),List.take_length,hX]) (k:=k) (by omega)
  simpa using this
 have iU2:ZT k ps r k (Vd t1 ps.length) 0=some X:=by
  have:=ZdG (fun m (s:List Int) i=>ZT k ps r m s i) (fun j=>(r.take j).foldl F (Vd t1 ps.length)) (some X) r.length
   (fun m j hj=>by
    obtain ⟨⟨b0,b1⟩,_⟩:=hr2 _ (List.getElem_mem hj);have hfl:=(Flen j (by omega)).1;have hx:r[j].toNat<ps.length:=by omega
    have hat:at? ps r[j]=some ps[r[j].toNat]:=by unfold at?;rw [if_pos b0,Zwm hx]
    obtain ⟨p1,p2⟩:=hP _ (List.getElem_mem hx);have hok:ok2 ((r.take j).foldl F (Vd t1 ps.length)) r[j]=(decide (ps[r[j].toNat].kind=2)&&pb ps[r[j].toNat]&&!(U r[j]).any fun x=>!decide (x∈(r.take j).foldl F (Vd t1 ps.length))):=by simp only [ok2,Zwm hx]
    try simp only
    rw [ZT,if_pos (ZK hj),Yp hj,Zwe,hat,Zwe,p2,(hUk r[j]).2,Zwe,Zwe,ZmQ _ _ (by have:=hlU r[j];omega) (by omega) (by have:=hlU r[j];omega) (by omega),wS j (by omega),X4 (by simp;omega) (by omega),List.take_succ_eq_append_getElem hj,List.foldl_append];simp only [List.foldl_cons,List.foldl_nil,F,hok];cases decide (ps[r[j].toNat].kind=2)<;>cases pb ps[r[j].toNat]<;>cases (U r[j]).any fun x=>!decide (x∈(r.take j).foldl F (Vd t1 ps.length))<;>rfl)
   (fun m=>by
    try simp only
    rw [ZT,if_neg (Xs (Zwk _)),List.take_length,hX]) (k:=k) (by omega)
  simpa using this
 have sU3:ZQ k nb ps X k [] 0=some (s0.map g):=by
  rw [hs1]
  exact ZdG (fun m (s:List Int) i=>ZQ k nb ps X m s i) (fun i=>(Vd (fun i=>decide ((i:Int)∈X)) i).map g) _ ps.length
   (fun m i hi=>by
    have hpl:=JM (fun i=>decide ((i:Int)∈X)) i;obtain ⟨c,hc1,hc2⟩:=hg (i:Int) ⟨by omega,by omega⟩
    try simp only
    rw [ZQ,if_pos (ZK hi),Ja X _ (by omega) (by omega),Zwe,hc1,Zwe,ZcT,wS i (by omega),hc2,X4 (by simp;omega) (by omega)];cases decide ((i:Int)∈X)
    ·rfl
    ·simp)
   (fun m=>by
    try simp only
    rw [ZQ,if_neg (Xs (Zwk _))]) (by omega)
 have iU3:Z7 nb s0 k [] 0=some (s0.map g):=by
  have hs0l:s0.length<=ps.length:=by rw [hs1];exact JM _ _
  refine ZdQ 8 (by omega) s0 g (fun x=>(at? nb.cells x).bind fun c=>some c.id) (Z7 nb s0) (fun x hx=> ?_) (fun n out i=>by rw [Z7];simp only [Option.bind_assoc,Zwe]) (by omega) (by omega);rw [hs1] at hx;obtain ⟨c,hc1,hc2⟩:=hg x (Zeh.1 hx).1;rw [hc1,Zwe,hc2]
 constructor
 ·unfold Wh;simp only [c1,sU1,o1,sU2,sU3,Zwe]
 ·unfold Xt;simp only [c2,iU1,o2,iU2,hset,iU3,Zwe]
end Go.Proofs.YtbkllghhcphkaaaGreatDoor
