import Derived.Test.YtmcfegjoccgpoaaGreatDoorZJ13
set_option linter.unusedSimpArgs false
set_option linter.unusedVariables false
set_option linter.unusedSectionVars false
namespace Go.Proofs.YtmcfegjoccgpoaaGreatDoor
open Go.RowKit Am
def sc (p:UInt8->Bool) (l:List UInt8) (i:Nat):Nat:=i+((l.drop i).takeWhile p).length
theorem Zhz {p:UInt8->Bool} {l:List UInt8} {i:Nat} (h:i<l.length):sc p l i=if p l[i]=true then sc p l (i+1) else i:=by
 unfold sc;rw [Ho h,List.takeWhile_cons]
 split
 ·simp;omega
 ·simp
theorem Zs6 {p:UInt8->Bool} {l:List UInt8} {i:Nat} (h:l.length<=i):sc p l i=i:=by
 unfold sc;rw [Gs h];simp
theorem ZrD {p:UInt8->Bool} {l:List UInt8}:∀(m i:Nat),i+m=l.length->i<=sc p l i/\sc p l i<=l.length
 | 0,i,h=>by rw [Zs6 WF];omega
 | m+1,i,h=>by
  rw [Zhz WF];have:=ZrD (p:=p) (l:=l) m (i+1) WF
  split<;>omega
theorem Zde (l:List UInt8) (p:UInt8->Bool) (N:Int) (r:N=(l.length:Int)) (u:Nat->Int->Option Int) (hl:l.length<=1048576)
  (o:∀n x,u (n+1) x=(if (decide (x<N))=true then (at? l x).bind λc=>some (p c) else some false).bind λb=>if b=true then u n (GZ (x+1)) else some x):
  ∀(m i n:Nat),i+m=l.length->m<n->u n (i:Int)=some ((sc p l i:Nat):Int):=by
 subst r;intro m
 induction m with
 | zero=>
  intro i n t w;obtain ⟨n,rfl⟩:∃k,n=k+1:=⟨n-1,WF⟩;rw [o,if_neg (Qg WF),Zs6 WF];rfl
 | succ m z=>
  intro i n t w;obtain ⟨n,rfl⟩:∃k,n=k+1:=⟨n-1,WF⟩;have j:i<l.length:=WF
  rw [o,if_pos (ZL j),ZQ j,Zhz j];simp only [ZEH]
  split
  ·rw [wS i WF];exact z (i+1) n WF WF
  ·rfl
def word (c:UInt8):Bool:=Zm3 c||ZoJ c
def noQ (c:UInt8):Bool:=!decide ((c.toNat:Int)=34)
theorem Zdf (c:UInt8):UL (c.toNat:Int)=some (Zm3 c):=by unfold UL Zm3;by_cases h:(97:Int)<=(c.toNat:Int)<;>simp [h]
theorem ZeY (c:UInt8):Jz (c.toNat:Int)=some (ZoJ c):=by unfold Jz ZoJ;by_cases h:(48:Int)<=(c.toNat:Int)<;>simp [h]
theorem ZgX (c:UInt8):(if (decide (97<=(c.toNat:Int)))=true then some (decide ((c.toNat:Int)<=122)) else some false)=some (Zm3 c):=by unfold Zm3;by_cases h:(97:Int)<=(c.toNat:Int)<;>simp [h]
theorem Zg0 (c:UInt8):(if (decide (48<=(c.toNat:Int)))=true then some (decide ((c.toNat:Int)<=57)) else some false)=some (ZoJ c):=by unfold ZoJ;by_cases h:(48:Int)<=(c.toNat:Int)<;>simp [h]
theorem Zz0 (c:UInt8):(if (decide (97<=(c.toNat:Int)))=true then if (decide ((c.toNat:Int)<=122))=true then some true else if (decide (48<=(c.toNat:Int)))=true then some (decide ((c.toNat:Int)<=57)) else some false
  else if (decide (48<=(c.toNat:Int)))=true then some (decide ((c.toNat:Int)<=57)) else some false)=some (word c):=by
 rw [Zg0];unfold word Zm3
 by_cases h:(97:Int)<=(c.toNat:Int)
 ·by_cases j:(c.toNat:Int)<=122<;>simp [h,j]
 ·simp [h]
section
variable (s:Ma) (hs:s.size<=120)
include hs
theorem Zu3:s.data.toList.length=s.size:=by rw [HY];rfl
theorem iw (i:Nat) (hi:i<=s.size) {k:Nat} (j:1000<k):XO s k (i:Int)=some ((sc word s.data.toList i:Nat):Int):=by
 have e:=Zu3 s hs;refine Zde s.data.toList word s.size (by rw [e]) (XO s) WF (λn x=> ?_) (s.size-i) i k WF WF;rw [XO];simp only [Zz0]
theorem id_ (i:Nat) (hi:i<=s.size) {k:Nat} (j:1000<k):XN s k (i:Int)=some ((sc ZoJ s.data.toList i:Nat):Int):=by
 have e:=Zu3 s hs;refine Zde s.data.toList ZoJ s.size (by rw [e]) (XN s) WF (λn x=> ?_) (s.size-i) i k WF WF;rw [XN];simp only [Zg0]
theorem sw (i:Nat) (hi:i<=s.size) {k:Nat} (m:1000<k):Wz s k (i:Int)=some ((sc word s.data.toList i:Nat):Int):=by
 have e:=Zu3 s hs;refine Zde s.data.toList word s.size (by rw [e]) (Wz s) WF (λn x=> ?_) (s.size-i) i k WF WF;rw [Wz]
 have:∀c:UInt8,((UL (c.toNat:Int)).bind λj=>if j=true then some true else (Jz (c.toNat:Int)).bind λl=>some l)=some (word c):=λc=>by
  rw [Zdf,ZeY];unfold word;cases Zm3 c<;>simp
 simp only [this]
theorem sd (i:Nat) (hi:i<=s.size) {k:Nat} (j:1000<k):Wy s k (i:Int)=some ((sc ZoJ s.data.toList i:Nat):Int):=by
 have e:=Zu3 s hs;refine Zde s.data.toList ZoJ s.size (by rw [e]) (Wy s) WF (λn x=> ?_) (s.size-i) i k WF WF;rw [Wy];simp only [ZeY,ZEH]
theorem sq (i:Nat) (hi:i<=s.size) {k:Nat} (j:1000<k):Wx s k (i:Int)=some ((sc noQ s.data.toList i:Nat):Int):=by
 have e:=Zu3 s hs;refine Zde s.data.toList noQ s.size (by rw [e]) (Wx s) WF (λn x=> ?_) (s.size-i) i k WF WF;rw [Wx];rfl
theorem Zd5 {a b:Nat} (j:a<=b) (k:b<=s.size):J2 s (a:Int) (b:Int)=some (s.extract a b):=by
 unfold J2;rw [if_pos ⟨WF,WF,WF⟩];simp
theorem Zjk (a b:Nat):(s.extract a b).data.toList=(s.data.toList.drop a).take (b-a):=by
 rw [ByteArray.data_extract,Array.toList_extract,List.extract_eq_take_drop]
theorem ZmK {a b:Nat} (k:a<b) (l:b<=s.size):∃c r,s.data.toList[a]? =some c/\(s.extract a b).data.toList=c::r:=by
 have e:=Zu3 s hs;have hl:a<s.data.toList.length:=WF
 refine ⟨s.data.toList[a],(s.data.toList.drop (a+1)).take (b-a-1),ZEP hl, ?_⟩;rw [Zjk s hs,Ho hl];obtain ⟨m,j⟩:∃m,b-a=m+1:=⟨b-a-1,WF⟩;rw [j];simp
theorem Zey {a b:Nat} (j:b<=s.size):(s.extract a b).size<=120:=by rw [GT];omega
end
theorem ZqR (l:List UInt8):∀(m i:Nat),i+m=l.length->Lib.indexByte (l.drop i) 34=if sc noQ l i<l.length then ((sc noQ l i-i:Nat):Int) else-1
 | 0,i,h=>by rw [Gs WF,Zs6 WF,if_neg WF];try rfl
 | m+1,i,h=>by
  have j:i<l.length:=WF
  have w:=ZqR l m (i+1) WF;have t:=ZrD (p:=noQ) (l:=l) m (i+1) WF;rw [Ho j,Lib.indexByte,Zhz j,w];generalize l[i]=c
  by_cases k:c=34
  ·subst k;have:noQ 34=false:=by decide
   simp [this,j]
  ·have hq:noQ c=true:=by
    unfold noQ;simp only [Ga,decide_eq_false_iff_not];intro h;exact k (UInt8.toNat_inj.1 (by show c.toNat=34;omega))
   have r:(c==34)=false:=by simpa using k
   simp only [r,ZEO,if_false,hq,if_true]
   by_cases p:sc noQ l (i+1)<l.length
   ·simp only [p,if_true];have o:¬(((sc noQ l (i+1)-(i+1):Nat):Int)== -1)=true:=by simp
    rw [if_neg o];omega
   ·simp [p]
structure WFt (t:Zj):Prop where
 nm:t.kind=1->∃c r,t.text.data.toList=c::r/\Zm3 c=true
 sy:t.kind=4->∃c r,t.text.data.toList=c::r/\Zm3 c=false
 at_:0<=t.at_
 tx:t.text.size<=120
def Zzb:List UInt8:=[40,41,91,93,44,43,45,42,60,61]
theorem Zws (c:UInt8) (l:List UInt8):(0<=Lib.indexByte l c)↔c∈l:=by
 induction l with
 | nil=>simp [Lib.indexByte]
 | cons b l p=>
  unfold Lib.indexByte
  by_cases h:b=c
  ·simp [h]
  ·have o:(b==c)=false:=by simpa using h
   have k:¬c=b:=λe=>h e.symm;simp only [o,ZEO,if_false,Hc,k,false_or];have r:=Lib.indexByte_ge l c;rw [<-p]
   split
   ·rename_i j;have m:Lib.indexByte l c= -1:=by simpa using j
    constructor<;>intro h<;>omega
   ·rename_i j;have m:Lib.indexByte l c≠ -1:=by simpa using j
    constructor<;>intro h<;>omega
theorem ZBH (b z:Bool):(if b=true then some true else some z)=some (b||z):=by cases b<;>rfl
theorem u8i (c d:UInt8):decide ((c.toNat:Int)=(d.toNat:Int))=decide (c=d):=by
 have:((c.toNat:Int)=(d.toNat:Int))↔c=d:=⟨λh=>UInt8.toNat_inj.1 WF,λh=>by rw [h]⟩;simp [this]
theorem Zrz (s:Ma) (hs:s.size<=120) (a:Nat) (R:a<s.size) (c:UInt8) (M:at? s.data.toList (a:Int)=some c):
  ∃n:Int,Kf s a=some n/\((n=2/\c=61/\a+1<s.size/\s.data.toList[a+1]? =some 61)\/(n=1/\c∈Zzb/\(c=61->s.data.toList[a+1]? ≠some 61))\/(n=0/\c∉Zzb)):=by
 have O:=Zu3 s hs;have P:GZ ((a:Int)+1)=((a+1:Nat):Int):=wS a WF;have t:decide ((c.toNat:Int)=40)=decide (c=40):=u8i c 40;have w:decide ((c.toNat:Int)=41)=decide (c=41):=u8i c 41;have I:decide ((c.toNat:Int)=91)=decide (c=91):=u8i c 91;have J:decide ((c.toNat:Int)=93)=decide (c=93):=u8i c 93;have B:decide ((c.toNat:Int)=44)=decide (c=44):=u8i c 44;have A:decide ((c.toNat:Int)=43)=decide (c=43):=u8i c 43;have C:decide ((c.toNat:Int)=45)=decide (c=45):=u8i c 45;have z:decide ((c.toNat:Int)=42)=decide (c=42):=u8i c 42;have E:decide ((c.toNat:Int)=60)=decide (c=60):=u8i c 60;have G:decide ((c.toNat:Int)=61)=decide (c=61):=u8i c 61
 have k:Kf s a=if (decide (c=40)||(decide (c=41)||(decide (c=91)||(decide (c=93)||(decide (c=44)||(decide (c=43)||(decide (c=45)||(decide (c=42)||decide (c=60)))))))))=true then some 1
   else if decide (c=61)=true then (if decide (((a+1:Nat):Int)<(s.size:Int))=true then (at? s.data.toList ((a+1:Nat):Int)).bind λx=>some (decide ((x.toNat:Int)=61)) else some false).bind λQ=>if Q=true then some 2 else some 1
   else some 0:=by
  unfold Kf;rw [M];simp only [ZEH,ZBH,t,w,I,J,B,A,C,z,E,G,P]
 by_cases o:c∈[40,41,91,93,44,43,45,42,60]
 ·have e:(decide (c=40)||(decide (c=41)||(decide (c=91)||(decide (c=93)||(decide (c=44)||(decide (c=43)||(decide (c=45)||(decide (c=42)||decide (c=60)))))))))=true:=by simpa using o
  refine ⟨1,by rw [k,if_pos e],.inr (.inl ⟨rfl,HW [61] o, ?_⟩)⟩;rintro rfl;simp at o
 ·have e:¬(decide (c=40)||(decide (c=41)||(decide (c=91)||(decide (c=93)||(decide (c=44)||(decide (c=43)||(decide (c=45)||(decide (c=42)||decide (c=60)))))))))=true:=by simpa using o
  by_cases m:c=61
  ·rw [if_neg e,if_pos (decide_eq_true m)] at k
   by_cases hl:a+1<s.size
   ·have p:a+1<s.data.toList.length:=by omega
    have j:at? s.data.toList ((a+1:Nat):Int)=some s.data.toList[a+1]:=ZQ p;have l:=ZEP p;generalize s.data.toList[a+1]=d at j l;rw [if_pos (ZL hl),j,ZEH,show decide ((d.toNat:Int)=61)=decide (d=61) from u8i d 61,ZEH] at k
    by_cases r:d=61
    ·exact ⟨2,by rw [k,if_pos (decide_eq_true r)],.inl ⟨rfl,m,hl,by rw [l,r]⟩⟩
    ·exact ⟨1,by rw [k,if_neg (by simpa using r)],.inr (.inl ⟨rfl,by rw [m];decide,λ_ e=>r (ZEI (l.symm.trans e))⟩)⟩
   ·rw [if_neg (Qg WF),ZEH] at k;refine ⟨1,by rw [k];rfl,.inr (.inl ⟨rfl,by rw [m];decide,λ_ e=> ?_⟩)⟩;have:=(Hh.1 e).1;omega
  ·refine ⟨0,by rw [k,if_neg e,if_neg (by simpa using m)],.inr (.inr ⟨rfl,λh=> ?_⟩)⟩;rcases He.1 (show c∈[40,41,91,93,44,43,45,42,60]++[61] from h) with h| h
   ·exact o h
   ·exact m (by simpa using h)
theorem Zy7 (s:Ma) (hs:s.size<=120) (a:Nat) (ha:a<s.size):
  (∃(t:Zj) (e:Nat),a<e/\e<=s.size/\WFt t/\∀k,2000<=k->Xq k s a=some (t,((e-a:Nat):Int))/\Qh k s a=some (t,(e:Int),true))\/
  (∃(t t':Zj) (e:Int),∀k,2000<=k->Xq k s a=some (t,0)/\Qh k s a=some (t',e,false)):=by
 have c1:=Zu3 s hs;have C:a<s.data.toList.length:=WF
 have l:at? s.data.toList (a:Int)=some s.data.toList[a]:=ZQ C;have z:s.data.toList[a]? =some s.data.toList[a]:=ZEP C;generalize s.data.toList[a]=c at l z;have B:∀b:Nat,a<=b->b<=s.size->GZ ((b:Int)-(a:Int))=((b-a:Nat):Int):=λb U W=>by rw [w64 WF WF];omega
 have T:GZ ((a:Int)+1)=((a+1:Nat):Int):=wS a WF;cases j:Zm3 c with
 | true=>
  have hw:=ZrD (p:=word) (l:=s.data.toList) (s.size-a) a WF;have J:=Zhz (p:=word) C;have b8:word c=true:=by unfold word;rw [j];rfl
  have w:s.data.toList[a]=c:=by have:=z;rw [ZEP C] at this;exact ZEI this
  rw [w,if_pos b8] at J;have S:=ZrD (p:=word) (l:=s.data.toList) (s.size-(a+1)) (a+1) WF;generalize sc word s.data.toList a=e at hw J;subst J;generalize he:sc word s.data.toList (a+1)=e at hw S;have m:=Zd5 s hs (a:=a) (b:=e) WF WF
  have O:∀k,2000<=k->Wz s k a=some (e:Int)/\XO s k a=some (e:Int):=λk p=>by
   have U:=sw s hs a WF (show 1000<k from WF);have W:=iw s hs a WF (show 1000<k from WF);rw [Zhz C,w,if_pos b8,he] at U W;exact ⟨U,W⟩
  obtain ⟨c',r,Z,g2⟩:=ZmK s hs (a:=a) (b:=e) WF WF;rw [z] at Z;cases Z
  by_cases h8:8<e-a
  ·right
   refine ⟨⟨1,0,a,s.extract a e⟩,⟨1,0,a,s.extract a e⟩,e,λk p=>⟨?_, ?_⟩⟩
   ·unfold Xq;rw [l];simp only [ZEH,Zdf,j,if_true,(O k p).1,m,B e WF WF];rw [if_pos (by simp;omega)];rfl
   ·unfold Qh;rw [l];simp only [ZEH,ZgX,j,if_true,(O k p).2,m,B e WF WF];rw [show (decide (((e-a:Nat):Int)<=8))=false by simp;omega]
  ·left
   refine ⟨⟨1,0,a,s.extract a e⟩,e,WF,WF,⟨λ_=>⟨c,r,g2,j⟩,(λh=>by simp at h),by show (0:Int)<=a;omega,Zey s hs WF⟩,λk p=>⟨?_, ?_⟩⟩
   ·unfold Xq;rw [l];simp only [ZEH,Zdf,j,if_true,(O k p).1,m,B e WF WF];rw [if_neg (by simp;omega)];simp only [ZEH,B e WF WF]
   ·unfold Qh;rw [l];simp only [ZEH,ZgX,j,if_true,(O k p).2,m,B e WF WF];rw [show (decide (((e-a:Nat):Int)<=8))=true by simp;omega]
 | false=>
 cases o:ZoJ c with
 | true=>
  have w:s.data.toList[a]=c:=by have:=z;rw [ZEP C] at this;exact ZEI this
  have S:=ZrD (p:=ZoJ) (l:=s.data.toList) (s.size-(a+1)) (a+1) WF;generalize he:sc ZoJ s.data.toList (a+1)=e at S;have m:=Zd5 s hs (a:=a) (b:=e) WF WF
  have O:∀k,2000<=k->Wy s k a=some (e:Int)/\XN s k a=some (e:Int):=λk p=>by
   have U:=sd s hs a WF (show 1000<k from WF);have W:=id_ s hs a WF (show 1000<k from WF);rw [Zhz C,w,if_pos o,he] at U W;exact ⟨U,W⟩
  have hx:(s.extract a e).size<=120:=Zey s hs WF;have p1:∀k,2000<=k->W8 k (s.extract a e)=some (JF (s.extract a e)):=λk p=>ZjP _ WF WF
  have p2:ZdG (s.extract a e) 0 1000000000=some (if (JF (s.extract a e)).2=true/\0<=(JF (s.extract a e)).1/\(JF (s.extract a e)).1<=1000000000 then ((JF (s.extract a e)).1,true) else (0,false)):=by
   unfold ZdG;rw [if_pos WF,Zlj _ _ _ WF WF]
  have b1:(JF (s.extract a e)).2=true->0<=(JF (s.extract a e)).1:=by
   intro h;unfold JF at h ⊢;cases hn:ZqI (s.extract a e) with
   | none=>rw [hn] at h;cases h
   | some n=>
    rw [hn] at h;simp only at h ⊢
    by_cases hb:n.natAbs<1000000000000
    ·rw [if_pos hb];have hi:=ZjT hn;obtain ⟨c',r,Z,g2⟩:=ZmK s hs (a:=a) (b:=e) WF WF;rw [z] at Z;cases Z;rw [Zlo] at hi
     by_cases b7:n<0
     ·rw [if_pos b7,g2] at hi;injection hi with hi _
      subst hi;simp [ZoJ] at o
     ·show 0<=n;omega
    ·rw [if_neg hb] at h;cases h
  generalize JF (s.extract a e)=rv at p1 p2 b1
  by_cases Q:rv.2=true/\rv.1<=1000000000
  ·left
   refine ⟨⟨2,rv.1,a,⟨#[]⟩⟩,e,WF,WF,⟨(λh=>by simp at h),(λh=>by simp at h),by show (0:Int)<=a;omega,by show (0:Nat)<=120;omega⟩,λk p=>⟨?_, ?_⟩⟩
   ·unfold Xq;rw [l];simp only [ZEH,Zdf,j,ZeY,o,ZEO,if_false,if_true,(O k p).1,m,p1 k p,Q.1,Hr];rw [show (decide (1000000000<rv.1))=false by simp;omega];simp only [ZEH,ZEO,if_false,B e WF WF]
   ·unfold Qh;rw [l];simp only [ZEH,ZgX,j,Zg0,o,ZEO,if_false,if_true,(O k p).2,m,p2];rw [if_pos ⟨Q.1,b1 Q.1,Q.2⟩]
  ·right
   refine ⟨⟨2,rv.1,a,⟨#[]⟩⟩,⟨2,0,a,⟨#[]⟩⟩,e,λk p=>⟨?_, ?_⟩⟩
   ·unfold Xq;rw [l]
    have hb:(if (!rv.2)=true then some true else some (decide (1000000000<rv.1)))=some true:=by
     cases W:rv.2 with
     | false=>rfl
     | true=>simp [W] at Q ⊢;omega
    simp only [ZEH,Zdf,j,ZeY,o,ZEO,if_false,if_true,(O k p).1,m,p1 k p,hb]
   ·unfold Qh;rw [l];simp only [ZEH,ZgX,j,Zg0,o,ZEO,if_false,if_true,(O k p).2,m,p2];rw [if_neg (λh=>Q ⟨h.1,h.2.2⟩)]
 | false=>
 by_cases P:(c.toNat:Int)=34
 ·have S:=ZrD (p:=noQ) (l:=s.data.toList) (s.size-(a+1)) (a+1) WF;have R:=ZqR s.data.toList (s.size-(a+1)) (a+1) WF;generalize he:sc noQ s.data.toList (a+1)=e at S R
  have O:∀k,2000<=k->Wx s k ((a+1:Nat):Int)=some (e:Int):=λk p=>by
   have U:=sq s hs (a+1) WF (show 1000<k from WF);rw [he] at U;exact U
  have m:=Zd5 s hs (a:=a+1) (b:=e) WF WF;have X:=Zd5 s hs (a:=a+1) (b:=s.size) WF WF
  have Y:YB (s.extract (a+1) s.size) 34=some (if e<s.size then ((e-(a+1):Nat):Int) else-1):=by
   unfold YB;rw [Zjk s hs,Gl (by simp<;>omega)];rw [show (34:Int).toNat.toUInt8=34 from rfl,R,c1]
  have vt:=λk (p:2000<=k)=>Zf7 (s.extract (a+1) e) (by have:=Zey s hs (a:=a+1) (b:=e) WF;omega) (show (s.extract (a+1) e).size<k by have:=Zey s hs (a:=a+1) (b:=e) WF;omega);generalize (!((s.extract (a+1) e).data.toList.any Jj)&&decide (((s.extract (a+1) e).size:Int)<=20))=tv at vt;have l0:Zm3 c=false:=j
  by_cases b6:e<s.size
  ·rw [if_pos b6] at Y;have c2:GZ (GZ ((a:Int)+1)+((e-(a+1):Nat):Int))=(e:Int):=by rw [T,w64 WF WF];omega
   have c3:GZ (GZ ((a:Int)+((e-(a+1):Nat):Int))+2)=((e+1:Nat):Int):=by rw [w64 (n:=(a:Int)+((e-(a+1):Nat):Int)) WF WF,w64 WF WF];omega
   have hi:∀k,2000<=k->Qh k s a=some (⟨3,0,a,s.extract (a+1) e⟩,((e+1:Nat):Int),tv):=by
    intro k p;unfold Qh;rw [l];simp only [ZEH,ZgX,j,Zg0,o,ZEO,if_false,P,decide_true,if_true,T,X,Y];rw [if_neg Ha];rw [<-T,c2,T,m];simp only [ZEH,(vt k p).2,c3]
   cases tv with
   | true=>
    left
    refine ⟨⟨3,0,a,s.extract (a+1) e⟩,e+1,WF,WF,⟨(λh=>by simp at h),(λh=>by simp at h),by show (0:Int)<=a;omega,Zey s hs WF⟩,λk p=>⟨?_,hi k p⟩⟩;unfold Xq;rw [l];simp only [ZEH,Zdf,j,ZeY,o,ZEO,if_false,P,decide_true,if_true,T,O k p,m,(vt k p).1];rw [show (decide ((e:Int)=(s.size:Int)))=false by simp;omega];simp only [ZEO,if_false,ZEH,Hr,wS e WF,B (e+1) WF WF]
   | false=>
    right
    refine ⟨⟨3,0,a,s.extract (a+1) e⟩,_,_,λk p=>⟨?_,hi k p⟩⟩;unfold Xq;rw [l];simp only [ZEH,Zdf,j,ZeY,o,ZEO,if_false,P,decide_true,if_true,T,O k p,m,(vt k p).1];rw [show (decide ((e:Int)=(s.size:Int)))=false by simp;omega];simp only [ZEO,if_false,ZEH,HK,if_true]
  ·rw [if_neg b6] at Y
   right
   refine ⟨⟨3,0,a,s.extract (a+1) e⟩,⟨0,0,0,⟨#[]⟩⟩,0,λk p=>⟨?_, ?_⟩⟩
   ·unfold Xq;rw [l];simp only [ZEH,Zdf,j,ZeY,o,ZEO,if_false,P,decide_true,if_true,T,O k p,m];rw [show (decide ((e:Int)=(s.size:Int)))=true by simp;omega];simp only [if_true,ZEH]
   ·unfold Qh;rw [l];simp only [ZEH,ZgX,j,Zg0,o,ZEO,if_false,P,decide_true,if_true,T,X,Y]
    rfl
 ·have E:¬((c.toNat:Int)=34):=P;have w:s.data.toList[a]=c:=by have:=z;rw [ZEP C] at this;exact ZEI this
  have I:(s.extract a s.size).data.toList=c::s.data.toList.drop (a+1):=by
   rw [Zjk s hs,Gl (by simp<;>omega),Ho C,w]
  have b2:=Zd5 s hs (a:=a) (b:=s.size) WF WF;have m:=Zd5 s hs (a:=a) (b:=a+1) WF WF
  have R:YB (⟨#[40,41,91,93,44,43,45,42,60,61]⟩:Ma) (c.toNat:Int)=some (Lib.indexByte Zzb c):=by
   unfold YB
   congr 2
   simp
  obtain ⟨n,hn,b3⟩:=Zrz s hs a ha c l;rcases b3 with ⟨rfl,rfl,W,h3⟩| ⟨rfl,M,c0⟩| ⟨rfl,M⟩
  ·
   have X:=Zd5 s hs (a:=a) (b:=a+2) WF WF
   have b9:s.extract a (a+2)=⟨#[61,61]⟩:=by
    apply ByteArray.ext;apply HJ.1;have G:a+1<s.data.toList.length:=WF
    have b4:s.data.toList[a+1]=61:=by rw [ZEP G] at h3;exact ZEI h3
    rw [Zjk s hs,Ho C,w,Ho G,b4,show a+2-a=2 from WF]
    rfl
   have A:YC (s.extract a s.size) (⟨#[61,61]⟩:Ma)=some true:=by
    unfold YC Lib.hasPrefix;have G:a+1<s.data.toList.length:=WF
    have b4:s.data.toList[a+1]=61:=by rw [ZEP G] at h3;exact ZEI h3
    rw [I,Ho G,b4];simp
   left
   refine ⟨⟨4,0,a,⟨#[61,61]⟩⟩,a+2,WF,WF,⟨(λh=>by simp at h),λ_=>⟨61,[61],rfl,by decide⟩,by show (0:Int)<=a;omega,by show (2:Nat)<=120;omega⟩,λk p=>⟨?_, ?_⟩⟩
   ·unfold Xq;rw [l];simp only [ZEH,Zdf,j,ZeY,o,ZEO,if_false,E,decide_false,hn];rw [show GZ ((a:Int)+2)=((a+2:Nat):Int) by rw [w64 WF WF];rfl,X,b9];simp only [ZEH,B (a+2) WF WF]
   ·unfold Qh;rw [l];simp only [ZEH,ZgX,j,Zg0,o,ZEO,if_false,E,decide_false,b2,A,if_true];rw [show GZ ((a:Int)+2)=((a+2:Nat):Int) by rw [w64 WF WF];rfl]
  ·
   have A:YC (s.extract a s.size) (⟨#[61,61]⟩:Ma)=some false:=by
    unfold YC Lib.hasPrefix;rw [I]
    congr 1
    by_cases b0:c=61
    ·subst b0
     by_cases G:a+1<s.data.toList.length
     ·rw [Ho G];have:s.data.toList[a+1]≠61:=λe=>c0 rfl (by rw [ZEP G,e]);simp [List.isPrefixOf];intro e;exact this (by simpa using e.symm)
     ·rw [Gs WF];simp
    ·simp [List.isPrefixOf,Ne.symm b0]
   left
   obtain ⟨c',r,Z,g2⟩:=ZmK s hs (a:=a) (b:=a+1) WF WF;rw [z] at Z;cases Z;refine ⟨⟨4,0,a,s.extract a (a+1)⟩,a+1,WF,WF,⟨(λh=>by simp at h),λ_=>⟨c,r,g2,j⟩,by show (0:Int)<=a;omega,Zey s hs WF⟩,λk p=>⟨?_, ?_⟩⟩
   ·unfold Xq;rw [l];simp only [ZEH,Zdf,j,ZeY,o,ZEO,if_false,E,decide_false,hn];rw [T,m];simp only [ZEH,B (a+1) WF WF]
   ·unfold Qh;rw [l];simp only [ZEH,ZgX,j,Zg0,o,ZEO,if_false,E,decide_false,b2,A,T,m,R];rw [decide_eq_true ((Zws c Zzb).2 M)]
  ·right
   have A:∃b,YC (s.extract a s.size) (⟨#[61,61]⟩:Ma)=some b/\b=false:=by
    refine ⟨_,rfl, ?_⟩;unfold Lib.hasPrefix;rw [I];have:c≠61:=λe=>M (by rw [e];decide);simp [List.isPrefixOf,Ne.symm this]
   obtain ⟨b,A,rfl⟩:=A;have b5:=Zd5 s hs (a:=a) (b:=a) WF WF;refine ⟨⟨4,0,a,s.extract a a⟩,⟨4,0,a,s.extract a (a+1)⟩,((a+1:Nat):Int),λk p=>⟨?_, ?_⟩⟩
   ·unfold Xq;rw [l];simp only [ZEH,Zdf,j,ZeY,o,ZEO,if_false,E,decide_false,hn];rw [show GZ ((a:Int)+0)=(a:Int) by rw [w64 WF WF];omega,b5];simp only [ZEH,B a WF WF,Gz]
    rfl
   ·unfold Qh;rw [l];simp only [ZEH,ZgX,j,Zg0,o,ZEO,if_false,E,decide_false,b2,A,T,m,R];rw [decide_eq_false (λh=>M ((Zws c Zzb).1 h))]
theorem ZP.ZzX (r:ZP):r.cells.length<=r.bk/\r.from_.length<=r.bk:=by
 have j:=r.Zz;have k:=ZE (f:=λ_:Int=>0) (xs:=r.cells);have l:=ZE (f:=λ_:Zk=>0) (xs:=r.from_);constructor<;>omega
theorem Zs8 (r:ZP) (h:r.bk<=1073741824):ZhA r=some r:=by
 obtain ⟨j,k⟩:=r.ZzX;unfold ZhA;rw [KX (by simp;omega) WF,ZEH,KX (by simp;omega) WF];rfl
theorem ZtU (r:ZP) (h:r.bk<=1073741824):Zbq r=some r:=by
 obtain ⟨j,k⟩:=r.ZzX;unfold Zbq;rw [KX (by simp;omega) WF,ZEH,KX (by simp;omega) WF];rfl
structure ZCU (v:Zb):Prop where
 list:v.list.length<=v.bk
 cols:v.columns.length<=v.bk
 rows:v.rows.length<=v.bk
 text:v.text.size<=v.bk
 row:∀r∈v.rows,r.bk<=v.bk
 el:∀x∈v.list,x.bk<=v.bk
 col:∀s∈v.columns,s.size<=v.bk
theorem Zb.ZxX (v:Zb):ZCU v:=by
 have e:=v.Zz;have l1:=ZE (f:=Zb.bk) (xs:=v.list);have l2:=ZE (f:=ByteArray.size) (xs:=v.columns);have l3:=ZE (f:=ZP.bk) (xs:=v.rows);exact ⟨WF,WF,WF,WF,λr j=>by have:=Z1 (f:=ZP.bk) j;omega,λr j=>by have:=Z1 (f:=Zb.bk) j;omega,λr j=>by have:=Z1 (f:=ByteArray.size) j;omega⟩
theorem ZbT:∀v:Zb,v.bk<=1073741824->Ev λk=>Wv k v=some v:=by
 refine Zb.ind λv p t=> ?_;have l:=v.ZxX;have:=l.list;have:=l.cols;have:=l.rows;refine ((Ev.all v.list λy j=>p y j (by have:=l.el y j;omega)).and (Ev.ge (v.list.length+v.rows.length+2))).pred ?_;rintro k ⟨o,w⟩
 rw [Wv,KX (by simp;omega) WF,ZEH,
  Vt 112 WF v.list (Wv k) (UP (Wv k) v) o (λn out i=>by rw [UP]) WF WF,ZEH,
  Vt 48 WF v.rows ZhA (UO v) (λr m=>Zs8 r (by have:=l.row r m;omega)) (λn out i=>by rw [UO]) WF WF]
 simp only [ZEH,Hs];cases v;rfl
theorem Zb4:∀v:Zb,v.bk<=1073741824->Ev λk=>Yk k v=some v:=by
 refine Zb.ind λv p t=> ?_;have l:=v.ZxX;have:=l.list;have:=l.cols;have:=l.rows;refine Ev.pred (p:=λk=>Yk (k+1) v=some v) (((Ev.all v.list λy j=>p y j (by have:=l.el y j;omega)).and (Ev.ge (v.list.length+v.rows.length+2))).pred ?_) λk h=>h;rintro k ⟨o,w⟩
 rw [Yk,JK,
  Vt 112 WF v.list (Yk k) (XB (Yk k) v.list) o (λn out i=>by rw [XB]) WF WF,ZEH,ZEH,
  KX (by simp;omega) WF,ZEH,
  Vt 48 WF v.rows Zbq (Wn v) (λr m=>ZtU r (by have:=l.row r m;omega)) (λn out i=>by rw [Wn]) WF WF]
 simp only [ZEH,Hs];cases v;rfl
def spl (j t:Ma):List Ma:=Lib.splitB j 0 (Lib.countB t j) t
theorem Zus {a b:Ma} (h:a.data.toList=b.data.toList):a=b:=ByteArray.ext (HJ.1 h)
theorem ZsZ (j:Ma):∀(k:Nat) (s:Ma) (x:Ma),x∈Lib.splitB j 0 k s->x.size<=s.size
 | 0,s,x,h=>by simp [Lib.splitB] at h;simp [h]
 | k+1,s,x,h=>by
  unfold Lib.splitB at h
  split at h
  ·simp at h;simp [h]
  ·rcases Hc.1 h with rfl| h
   ·rw [GT];omega
   ·have:=ZsZ j k _ x h;rw [GT] at this;omega
theorem Zqr {j t x:Ma} (h:x∈spl j t):x.size<=t.size:=ZsZ j _ t x h
theorem Zmb (j t:Ma) (k:1<=j.size):1<=(spl j t).length/\(spl j t).length<=t.size+1:=by
 have l:=Lib.splitB_all j k 0 _ t rfl;have m:=Lib.countB_le j k _ t (ZEN _);unfold spl;omega
theorem Zs0 (s k:Ma) (t:1<=k.size) {fr i:Nat} (hf:fr<=i) (hi:i+k.size<=s.size) (ho:Lib.occAt s.data.toList k.data.toList i=true) (w:∀j,fr<=j->j<i->Lib.occAt s.data.toList k.data.toList j=false):
  spl k (s.extract fr s.size)=s.extract fr i::spl k (s.extract (i+k.size) s.size):=by
 have o:=Lib.extract_to_end s fr;have z:=Lib.size_eq s;have m:∀j,Lib.occAt (s.data.toList.drop fr) k.data.toList j=Lib.occAt s.data.toList k.data.toList (fr+j):=λj=>by unfold Lib.occAt;rw [GB]
 have l:Lib.indexB (s.extract fr s.size) k=((i-fr:Nat):Int):=by
  show Lib.index _ _=_;rw [o];refine Lib.index_first (by rw [HR];omega) ?_ λj hj=> ?_
  ·rw [m,show fr+(i-fr)=i from WF];exact ho
  ·rw [m];exact w _ WF WF
 have cnt:=Lib.countB_hit _ k (i-fr) t l
 have r:(s.extract fr s.size).extract (i-fr+k.size) (s.extract fr s.size).size=s.extract (i+k.size) s.size:=by
  apply Zus;rw [Lib.extract_to_end,o,Lib.extract_to_end,GB]
  congr 1;omega
 have p:(s.extract fr s.size).extract 0 (i-fr+0)=s.extract fr i:=by
  apply Zus;rw [Lib.extract_data,o,Lib.extract_data,Gd]
  congr 1
 unfold spl;rw [cnt,Nat.add_comm,Lib.splitB_hit k 0 _ _ (i-fr) l,p,r]
theorem Zqs (s k:Ma) {fr:Nat} (m:∀j,fr<=j->Lib.occAt s.data.toList k.data.toList j=false):spl k (s.extract fr s.size)=[s.extract fr s.size]:=by
 have l:Lib.indexB (s.extract fr s.size) k= -1:=by
  show Lib.index _ _=_;rw [Lib.extract_to_end];refine Lib.index_none λj _=> ?_;unfold Lib.occAt;rw [GB];exact m _ WF
 unfold spl;rw [Lib.splitB_miss _ _ _ _ l]
theorem ZAS (l:List UInt8) (c:UInt8) (j:Nat):Lib.occAt l [c] j=decide (l[j]? =some c):=by
 unfold Lib.occAt
 by_cases h:j<l.length
 ·rw [Ho h,ZEP h];simp [List.isPrefixOf,eq_comm]
  rfl
 ·rw [Gs WF,Gj WF];simp
theorem ZBI (l:List UInt8) (c d:UInt8) (j:Nat):Lib.occAt l [c,d] j=(decide (l[j]? =some c)&&decide (l[j+1]? =some d)):=by
 have:=ZAS l d (j+1);unfold Lib.occAt at this ⊢
 by_cases h:j<l.length
 ·rw [Ho h,ZEP h,<-this];simp only [List.isPrefixOf]
  congr 1
  simp [eq_comm]
  rfl
 ·rw [Gs WF,Gj WF];simp
theorem whole (s:Ma):s.extract 0 s.size=s:=by apply Zus;rw [Lib.extract_to_end];simp
theorem ZrA (s:Ma) (hs:s.size<=120) (c:UInt8):∀(m fr i:Nat) (out:List Ma) (n:Nat),i+m=s.size+1->fr<=i->(m=0->fr=s.size+1)->out.length<=i->(∀j,fr<=j->j<i->s.data.toList[j]? ≠some c)->m<n->
  Qw s (c.toNat:Int) n out fr i=some (out++if fr<=s.size then spl ⟨#[c]⟩ (s.extract fr s.size) else []):=by
 have J:=Lib.size_eq s;have l:(⟨#[c]⟩:Ma).data.toList=[c]:=rfl;intro m
 induction m with
 | zero=>
  intro fr i out n hi hf G hl B hm;obtain ⟨n,rfl⟩:∃E,n=E+1:=⟨n-1,WF⟩;have:=G rfl;rw [Qw,if_neg (by simp;omega),if_neg WF,HG]
 | succ m C=>
  intro fr i out n hi hf G hl B hm;obtain ⟨n,rfl⟩:∃E,n=E+1:=⟨n-1,WF⟩;rw [Qw,if_pos (decide_eq_true WF),if_pos (show fr<=s.size from WF)];have p:J2 s (fr:Int) (i:Int)=some (s.extract fr i):=Zd5 s hs hf WF;have o:YJ 16 out [s.extract fr i]=some (out++[s.extract fr i]):=Wa (by simp;omega) WF
  by_cases I:i=s.size
  ·subst I;rw [decide_eq_true (show ((s.size:Nat):Int)=(s.size:Int) from rfl)];simp only [if_true,ZEH,p,o];rw [wS s.size WF,C (s.size+1) (s.size+1) _ n WF WF (λ_=>rfl) (by simp;omega) (λj w t=>WF) WF,if_neg WF,HG,Zqs];intro j hj;rw [l,ZAS]
   by_cases t:j<s.size
   ·simpa using B j hj t
   ·rw [Gj WF];simp
  ·have A:i<s.data.toList.length:=by omega
   have z:at? s.data.toList (i:Int)=some s.data.toList[i]:=ZQ A;have k:s.data.toList[i]? =some s.data.toList[i]:=ZEP A;generalize s.data.toList[i]=d at z k;rw [decide_eq_false (show ¬((i:Int)=(s.size:Int)) from WF)];simp only [ZEO,if_false,z,ZEH];have hd:decide ((d.toNat:Int)=(c.toNat:Int))=decide (d=c):=u8i d c;rw [hd]
   by_cases r:d=c
   ·subst r;simp only [decide_true,if_true,p,o,ZEH];rw [wS i WF,C (i+1) (i+1) _ n WF WF (λh=>WF) (by simp;omega) (λj w t=>WF) WF,if_pos WF];rw [Zs0 s ⟨#[d]⟩ (ZEN 1) hf (by show i+1<=s.size;omega) (by rw [l,ZAS,k];simp) (λj w t=>by rw [l,ZAS];simpa using B j w t)];rw [Hx];rfl
   ·rw [decide_eq_false r];simp only [ZEO,if_false,ZEH]
    rw [wS i WF,C fr (i+1) out n WF WF (λh=>WF) WF (λj w t=>by
     by_cases hj:j=i
     ·subst hj;rw [k];simpa using r
     ·exact B j w WF) WF,if_pos WF]
def sp:Ma:=⟨#[32]⟩
theorem Zme (s:Ma) (hs:s.size<=120) {k:Nat} (o:2000<=k):VJ k s 32=some (spl sp s):=by
 unfold VJ;have:=ZrA s hs 32 (s.size+1) 0 0 [] k WF WF WF Ha (λj l m=>WF) WF;have:Qw s 32 k [] 0 0=some ([]++if 0<=s.size then spl sp (s.extract 0 s.size) else []):=this;rw [this,if_pos WF,whole];rfl
theorem Zmz (s:Ma) (hs:s.size<=120):VL s 32=some (spl sp s):=by
 unfold VL Y6;have e:Zp1 [32]=sp:=by decide
 rw [e,if_pos ⟨WF,by decide⟩];rfl
def ZrC:Ma:=⟨#[59,32]⟩
theorem ZrK (s:Ma) (hs:s.size<=120):∀(m fr i:Nat) (out:List Ma),i+m=s.size->fr<=i->out.length<=i->(∀j,fr<=j->j<i->Lib.occAt s.data.toList ZrC.data.toList j=false)->
  ∃t f2,f2<=s.size/\out.length+t.length<=s.size/\t++[s.extract f2 s.size]=spl ZrC (s.extract fr s.size)/\∀n,m<n->Ye s n out fr i=some (out++t,(f2:Int)):=by
 have X:=Lib.size_eq s;have p:ZrC.data.toList=[59,32]:=rfl;intro m
 induction m using Nat.strongRecOn with
 | _ m S=>
 intro fr i out Y hf hl M
 by_cases W:i+1<s.size
 ·have C:i<s.data.toList.length:=by omega
  have E:i+1<s.data.toList.length:=WF
  have A:at? s.data.toList (i:Int)=some s.data.toList[i]:=ZQ C;have l:at? s.data.toList ((i+1:Nat):Int)=some s.data.toList[i+1]:=ZQ E;have o:s.data.toList[i]? =some s.data.toList[i]:=ZEP C;have k:s.data.toList[i+1]? =some s.data.toList[i+1]:=ZEP E;generalize s.data.toList[i]=c at A o;generalize s.data.toList[i+1]=d at l k;have T:decide ((c.toNat:Int)=59)=decide (c=59):=u8i c 59;have hd:decide ((d.toNat:Int)=32)=decide (d=32):=u8i d 32
  have step:∀n,Ye s (n+1) out fr i=(if (decide (c=59)&&decide (d=32))=true then (J2 s fr i).bind λO=>(YJ 16 out [O]).bind λP=>Ye s n P ((i+2:Nat):Int) ((i+1:Nat):Int) else Ye s n out fr ((i+1:Nat):Int)):=by
   intro n;rw [Ye,wS i WF,if_pos (decide_eq_true WF),A,l];simp only [ZEH,T,hd];rw [show GZ ((i:Int)+2)=((i+2:Nat):Int) by rw [w64 WF WF];rfl];cases decide (c=59)
   ·simp
   ·cases decide (d=32)
    ·simp
    ·simp only [if_true,Bool.and_self,ZEH];cases J2 s fr i with
     | none=>rfl
     | some x=>simp only [ZEH];cases YJ 16 out [x]<;>rfl
  have B:J2 s (fr:Int) (i:Int)=some (s.extract fr i):=Zd5 s hs hf WF;have z:YJ 16 out [s.extract fr i]=some (out++[s.extract fr i]):=Wa (by simp;omega) WF
  by_cases Q:c=59/\d=32
  ·obtain ⟨rfl,rfl⟩:=Q;have ho:Lib.occAt s.data.toList ZrC.data.toList i=true:=by rw [p,ZBI,o,k];simp
   have r:=Zs0 s ZrC (by decide) hf (by show i+2<=s.size;omega) ho M;have r:spl ZrC (s.extract fr s.size)=s.extract fr i::spl ZrC (s.extract (i+2) s.size):=r;obtain ⟨t,f2,a1,a2,a3,a4⟩:=S (m-2) WF (i+2) (i+2) (out++[s.extract fr i]) WF WF (by simp;omega) (λj w J=>WF);refine ⟨s.extract fr i::t,f2,a1,by simp at a2 ⊢;omega,by rw [r,<-a3];rfl,λn R=> ?_⟩;obtain ⟨n,rfl⟩:∃I,n=I+2:=⟨n-2,WF⟩;rw [step (n+1)];simp only [decide_true,Bool.and_self,if_true,B,z,ZEH]
   by_cases J:i+2<s.size
   ·have U:i+1+1<s.data.toList.length:=by omega
    rw [Ye,wS (i+1) WF,if_pos (decide_eq_true WF),l];simp only [ZEH];rw [show (decide (((32:UInt8).toNat:Int)=59))=false from rfl];simp only [ZEO,if_false,ZEH];rw [a4 n WF];simp
   ·have:=a4 (n+1) WF;rw [Ye,wS (i+2) WF,if_neg (by simp;omega)] at this;rw [Ye,wS (i+1) WF,if_neg (by simp;omega)];rw [this];simp
  ·have G:(decide (c=59)&&decide (d=32))=false:=by
    by_cases w:c=59
    ·have:d≠32:=λh=>Q ⟨w,h⟩;simp [this]
    ·simp [w]
   obtain ⟨t,f2,a1,a2,a3,a4⟩:=S (m-1) WF fr (i+1) out WF WF WF (λj w J=>by
    by_cases hj:j=i
    ·subst hj;rw [p,ZBI,o,k];simpa using G
    ·exact M j w WF)
   refine ⟨t,f2,a1,a2,a3,λn R=> ?_⟩;obtain ⟨n,rfl⟩:∃I,n=I+1:=⟨n-1,WF⟩;rw [step n,G];simp only [ZEO,if_false];exact a4 n WF
 ·refine ⟨[],fr,WF,by simp;omega, ?_,λn R=> ?_⟩
  ·rw [Zqs,Hs];intro j hj
   by_cases J:j<i
   ·exact M j hj J
   ·rw [p,ZBI,Gj (show s.data.toList.length<=j+1 from WF)];simp
  ·obtain ⟨n,rfl⟩:∃I,n=I+1:=⟨n-1,WF⟩;rw [Ye,wS i WF,if_neg (by simp;omega),HG]
theorem Zs9 (s:Ma) (hs:s.size<=120) {k:Nat} (p:2000<=k):Ki k s=some (spl ZrC s):=by
 obtain ⟨l,f2,a1,a2,a3,a4⟩:=ZrK s hs s.size 0 0 [] WF WF Ha (λj m o=>WF);unfold Ki;have:=a4 k WF;have:Ye s k [] 0 0=some ([]++l,(f2:Int)):=this;rw [this];simp only [ZEH,Hs];rw [Zd5 s hs a1 (ZEN _)];simp only [ZEH];rw [Wa (by simp at a2 ⊢;omega) WF,a3,whole];rfl
theorem ZtV (s:Ma) (hs:s.size<=120):Y6 s (⟨#[59,32]⟩:Ma)=some (spl ZrC s):=by
 unfold Y6;rw [if_pos ⟨WF,by decide⟩];rfl
def ZjS:List Ma->Option (List Int)
 | []=>some []
 | w::k=>if (XM w (-1000000000) 1000000000).2=true then (ZjS k).map λj=>(XM w (-1000000000) 1000000000).1::j else none
theorem Zn0:∀{k:List Ma} {j:List Int},ZjS k=some j->j.length=k.length
 | [],j,h=>by simp [ZjS] at h;simp [<-h]
 | w::k,j,h=>by
  unfold ZjS at h
  split at h
  ·obtain ⟨m,l,rfl⟩:=Hf.1 h;simp [Zn0 l]
  ·cases h
theorem Zu9 (o:List Ma) (hl:o.length<=1000) (hs:∀w∈o,w.size<=120):∀(m i:Nat) (out:List Int),i+m=o.length->out.length<=i->
  (∀B,ZjS (o.drop i)=some B->∀k n,2000<=k->m<n->Qc k o n out i=some (.inl (out++B))/\YX o n out i=some (.inl (out++B)))/\
  (ZjS (o.drop i)=none->∃r,r.length<=o.length/\∀k n,2000<=k->m<n->Qc k o n out i=some (.inr (r,false))/\YX o n out i=some (.inr ([],false))):=by
 intro m
 induction m with
 | zero=>
  intro i out hi P;rw [Gs WF];refine ⟨λB h k n p Q=> ?_,λh=>by cases h⟩;obtain rfl:B=[]:=by simpa [ZjS] using h.symm
  obtain ⟨n,rfl⟩:∃A,n=A+1:=⟨n-1,WF⟩;rw [Qc,YX,if_neg (Qg WF),if_neg (Qg WF),HG];exact ⟨rfl,rfl⟩
 | succ m ih=>
  intro i out hi P;have t:i<o.length:=WF
  have z:at? o (i:Int)=some o[i]:=ZQ t;have hw:=hs o[i] (Hl t);rw [Ho t];generalize o[i]=w at z hw;have hp:ZdG w (-1000000000) 1000000000=some (XM w (-1000000000) 1000000000):=by unfold ZdG;rw [if_pos WF]
  have Y:=Zlj w (-1000000000) 1000000000 WF WF
  have hb:∀k,2000<=k->((W8 k w).bind λE=>(if (!E.2)=true then some true else (Qa E.1).bind λT=>some (!T)).bind λM=>some (E.1,M))=some ((JF w).1,!(XM w (-1000000000) 1000000000).2):=by
   intro k p;rw [ZjP w WF WF,Y];simp only [ZEH];generalize JF w=C;cases h2:C.2 with
   | false=>simp
   | true=>
    simp only [Hr,ZEO,if_false,true_and];unfold Qa;rw [U5];simp only [ZEH]
    by_cases G: -1000000000<=C.1/\C.1<=1000000000
    ·rw [if_pos G];simp [G.1,G.2]
    ·rw [if_neg G]
     have:(decide (-1000000000<=C.1)&&decide (C.1<=1000000000))=false:=by
      by_cases W: -1000000000<=C.1
      ·have:¬C.1<=1000000000:=λh=>G ⟨W,h⟩;simp [this]
      ·simp [W]
     rw [this]
  have l:∀k n,2000<=k->Qc k o (n+1) out i=(if (!(XM w (-1000000000) 1000000000).2)=true then some (.inr (out,false)) else (YJ 8 out [(JF w).1]).bind λx9=>Qc k o n x9 ((i+1:Nat):Int)):=by
   intro k n p;have:=hb k p;rw [Qc,if_pos (ZL t),z,wS i WF];simp only [ZEH];cases hq:W8 k w with
   | none=>rw [hq] at this;cases this
   | some E=>
    rw [hq] at this;simp only [ZEH] at this ⊢;cases I:(if (!E.2)=true then some true else (Qa E.1).bind λT=>some (!T)) with
    | none=>rw [I] at this;cases this
    | some M=>
     rw [I] at this;simp only [ZEH,ZEK,ZEL] at this ⊢;rw [this.2,this.1]
  have j:∀n,YX o (n+1) out i=(if (!(XM w (-1000000000) 1000000000).2)=true then some (.inr ([],false)) else (YJ 8 out [(XM w (-1000000000) 1000000000).1]).bind λM=>YX o n M ((i+1:Nat):Int)):=by
   intro n;rw [YX,if_pos (ZL t),z,wS i WF];simp only [ZEH,hp]
  unfold ZjS;cases J:(XM w (-1000000000) 1000000000).2 with
  | false=>
   rw [J] at l j;refine ⟨λB h=>by simp at h,λ_=>⟨out,WF,λk n p Q=> ?_⟩⟩;obtain ⟨n,rfl⟩:∃A,n=A+1:=⟨n-1,WF⟩;exact ⟨by rw [l k n p];rfl,by rw [j n];rfl⟩
  | true=>
   rw [J] at l j
   have U:(XM w (-1000000000) 1000000000).1=(JF w).1:=by
    rw [Y] at J ⊢
    split
    ·rfl
    ·rename_i h;rw [if_neg h] at J;cases J
   have X:YJ 8 out [(JF w).1]=some (out++[(JF w).1]):=Wa (by simp;omega) WF;obtain ⟨g1,g2⟩:=ih (i+1) (out++[(JF w).1]) WF (by simp;omega);simp only [if_true];refine ⟨λB h=> ?_,λh=> ?_⟩
   ·obtain ⟨Z,O,rfl⟩:=Hf.1 h;intro k n p Q;obtain ⟨n,rfl⟩:∃A,n=A+1:=⟨n-1,WF⟩;obtain ⟨R,S⟩:=g1 Z O k n p WF;rw [l k n p,j n,U,X];simp only [Hr,ZEO,if_false,ZEH,R,S];simp
   ·have O:ZjS (o.drop (i+1))=none:=by
     cases hx:ZjS (o.drop (i+1)) with
     | none=>rfl
     | some Z=>rw [hx] at h;cases h
    obtain ⟨r,r0,r1⟩:=g2 O;refine ⟨r,r0,λk n p Q=> ?_⟩;obtain ⟨n,rfl⟩:∃A,n=A+1:=⟨n-1,WF⟩;obtain ⟨R,S⟩:=r1 k n p WF;rw [l k n p,j n,U,X];simp only [Hr,ZEO,if_false,ZEH,R,S];exact ⟨trivial,trivial⟩
theorem Zzr (s:Ma) (hs:s.size<=120) (c:Int):∃(B t:List Int) (b:Bool),(b=true->B=t)/\t.length<=121/\∀k,2000<=k->Zaj k s c=some (B,b)/\JJ k s c=some (t,b):=by
 obtain ⟨l1,l2⟩:=Zmb sp s (by decide);obtain ⟨z,A⟩:=Zu9 (spl sp s) WF (λw C=>by have:=Zqr C;omega) (spl sp s).length 0 [] WF Ha;rw [Gd] at z A;cases p:ZjS (spl sp s) with
 | some m=>
  have hl:=Zn0 p;refine ⟨m,m,decide ((m.length:Int)=c),λ_=>rfl,WF,λk o=> ?_⟩;obtain ⟨j,l⟩:=z m p k k o WF;have j:Qc k (spl sp s) k [] 0=some (.inl ([]++m)):=j;have l:YX (spl sp s) k [] 0=some (.inl ([]++m)):=l;constructor
  ·unfold Zaj;rw [Zme s hs o];simp only [ZEH];rw [j];rfl
  ·unfold JJ;rw [Zmz s hs];simp only [ZEH];rw [l];rfl
 | none=>
  obtain ⟨r,G,E⟩:=A p;refine ⟨r,[],false,λh=>(by cases h),Ha,λk o=> ?_⟩;obtain ⟨j,l⟩:=E k k o WF;have j:Qc k (spl sp s) k [] 0=some (.inr (r,false)):=j;have l:YX (spl sp s) k [] 0=some (.inr ([],false)):=l;constructor
  ·unfold Zaj;rw [Zme s hs o];simp only [ZEH];rw [j];rfl
  ·unfold JJ;rw [Zmz s hs];simp only [ZEH];rw [l];rfl
def cix (j:Zg) (id:Int):Int:=ZbE (λx:Zo=>decide (x.id=id)) j.cells
theorem ZaF (j:Zg) (id:Int) (hl:j.cells.length<=4294967296) {k:Nat} (l:j.cells.length<k):YD k j id=some (cix j id):=by
 unfold YD cix ZbE
 rw [Zd3 j.cells (λx=>decide (x.id=id)) (YM j id) (λi=>some (.inr (i:Int))) (some (.inl ()))
  (λn i h hp=>by rw [YM,if_pos (ZL h),ZQ h,ZEH,if_neg (by simpa using hp),wS i WF])
  (λn i h hp=>by rw [YM,if_pos (ZL h),ZQ h,ZEH,if_pos hp])
  (λn=>by rw [YM,if_neg (Qg (ZEN _))]) l]
 split<;>rfl
theorem Zfe (j:Zg) (id:Int) (hl:j.cells.length<=4294967296) {k:Nat} (l:j.cells.length<k):YR k j id=some (cix j id):=by
 rw [Zj9];exact ZaF j id hl l
theorem Ztt (j:Zg):j.cells.length<=j.bk:=by rw [Zg.Zz];have:=ZE (f:=Zo.bk) (xs:=j.cells);omega
def ZAD (c:UInt8):Bool:=decide ((c.toNat:Int)<32)||decide (126<(c.toNat:Int))
def ZhK (s:Ma):Bool:=!(s.data.toList.any ZAD)&&decide ((s.size:Int)<=120)
theorem ZjF (s:Ma) (hs:(s.size:Int)<=9223372036854775807) {k:Nat} (l:s.size<k):XY k s=some (ZhK s):=by
 have j:∀x∈s.data.toList,(λc:UInt8=>(if (decide ((c.toNat:Int)<32))=true then some true else some (decide (126<(c.toNat:Int))):Option Bool)) x=some (ZAD x):=by
  intro x _;unfold ZAD;simp only;cases decide ((x.toNat:Int)<32)<;>simp
 unfold XY ZhK;rw [Qi s.data.toList ZAD _ false () (YU s) j (λn i=>by rw [YU,QH];simp only [HB]) (by rw [QH];exact hs) (by rw [QH];exact l)];cases s.data.toList.any ZAD<;>simp
theorem ZpF (s:Ma) (hs:(s.size:Int)<=9223372036854775807) {k:Nat} (j:s.size<k):Vh k s=some (ZhK s):=by
 rw [ZhZ];exact ZjF s hs j
def J0 (c:Zo):Bool:= ((decide (1<=c.id)&&decide (c.id<=999))&&(decide (1<=c.version)&&decide (c.version<=999))&&ZhK c.code)&& (if c.kind=1 then decide (c.name=(⟨#[]⟩:Ma))&&decide (c.n=0) else if c.kind=2\/c.kind=4 then Vr c.name&&decide (c.n=0) else if c.kind=3 then Vr c.name&&(decide (c.code=(⟨#[]⟩:Ma))&&(decide (0<=c.n)&&decide (c.n<=100))) else false)
theorem Zjx (c:Zo) (hc:c.bk<=1048576) {k:Nat} (z:1048600<k):Ql k c=some (J0 c)/\Qp k c=some (J0 c):=by
 have e:=Zo.Zz c;obtain ⟨p,r⟩:=Kw c.name WF (show c.name.size<k from WF) WF;have t:=ZjF c.code WF (show c.code.size<k from WF);have w:=ZpF c.code WF (show c.code.size<k from WF);unfold Ql Qp J0;rw [p,r,t,w];simp only [U5,ZaM,ZEH];generalize (decide (1<=c.id)&&decide (c.id<=999))=A;generalize (decide (1<=c.version)&&decide (c.version<=999))=B;generalize ZhK c.code=C;generalize Vr c.name=D;generalize decide (c.name=(⟨#[]⟩:Ma))=E;generalize decide (c.code=(⟨#[]⟩:Ma))=F;generalize (decide (0<=c.n)&&decide (c.n<=100))=G;generalize decide (c.n=0)=H
 by_cases j:c.kind=1
 ·simp only [j,decide_true,if_true];cases A<;>cases B<;>cases C<;>cases E<;>cases H<;>exact ⟨rfl,rfl⟩
 by_cases l:c.kind=2
 ·simp only [l];cases A<;>cases B<;>cases C<;>cases D<;>cases H<;>exact ⟨rfl,rfl⟩
 by_cases o:c.kind=4
 ·simp only [o];cases A<;>cases B<;>cases C<;>cases D<;>cases H<;>exact ⟨rfl,rfl⟩
 by_cases m:c.kind=3
 ·simp only [m];cases A<;>cases B<;>cases C<;>cases D<;>cases F<;>cases G<;>exact ⟨rfl,rfl⟩
 simp only [j,l,m,o,decide_false,if_false,or_self];cases A<;>cases B<;>cases C<;>exact ⟨rfl,rfl⟩
def Zd8 (k:Zg) (j:Nat) (c:Zo):Bool:=!J0 c||!decide (cix k c.id=(j:Int))
def Zsw (j:Zg):Bool:=!anyI (Zd8 j) 0 j.cells&&decide ((j.cells.length:Int)<=8)
theorem Zl3 (l:Zg) (w:l.bk<=1048576) {k:Nat} (t:1048600<k):Xy k l=some (Zsw l)/\XE k l=some (Zsw l):=by
 have e:=Zg.Zz l;have hl:=Ztt l
 have r:∀j (h:j<l.cells.length),Ql k l.cells[j]=some (J0 l.cells[j])/\Qp k l.cells[j]=some (J0 l.cells[j]):=λj h=>by
  have:=Z1 (f:=Zo.bk) (Hl h);exact Zjx _ WF t
 constructor
 ·unfold Xy Zsw
  rw [Ko l.cells (Zd8 l) (λi m=>(Ql k m).bind λo=>if (!o)=true then some true else (YD k l m.id).bind λp=>some (!decide (p=i))) false () (YS k l)
   (λj h=>by rw [(r j h).1,ZaF l _ WF WF];unfold Zd8;simp only [ZEH];cases J0 l.cells[j]<;>simp)
   (λn i=>by rw [YS];simp only [HB]) WF WF]
  cases anyI (Zd8 l) 0 l.cells<;>simp
 ·unfold XE Zsw
  rw [Ko l.cells (Zd8 l) (λi m=>(Qp k m).bind λo=>if (!o)=true then some true else (YR k l m.id).bind λp=>some (!decide (p=i))) false () (YT k l)
   (λj h=>by rw [(r j h).2,Zfe l _ WF WF];unfold Zd8;simp only [ZEH];cases J0 l.cells[j]<;>simp)
   (λn i=>by rw [YT]) WF WF]
  cases anyI (Zd8 l) 0 l.cells<;>simp
theorem ZlG {α:Type} {t:Nat->α->Bool}:∀{xs:List α} {i:Nat},anyI t i xs=false->∀x∈xs,∃j,t j x=false
 | [],_,_,x,k=>by simp at k
 | y::l,i,h,x,k=>by
  simp only [anyI,GF] at h;rcases Hc.1 k with rfl| k
  ·exact ⟨i,h.1⟩
  ·exact ZlG h.2 x k
theorem ZrM {k:Zg} (h:Zsw k=true):k.cells.length<=8/\∀c∈k.cells,J0 c=true:=by
 unfold Zsw at h;simp only [ZEM,Ga,decide_eq_true_eq] at h;refine ⟨WF,λc l=> ?_⟩;obtain ⟨j,hj⟩:=ZlG h.1 c l;unfold Zd8 at hj;simp only [GF,Bool.not_eq_false'] at hj;exact hj.1
theorem ZsO (s:Ma) (hs:s.size<=120):∀(m a:Nat) (out:List Zj),a<=s.size->s.size-a<=m->out.length<=60->(∀t∈out,WFt t)->
  ∃r,(∀k n,2000<=k->m<n->Yf k s n out a=some r/\Yg k s n out a=some r)/\(∀o,r= .inl o->o.length<=60/\∀t∈o,WFt t)/\∀z,r= .inr z->0<=z.2:=by
 have b1:=Zu3 s hs
 have A:∀(m a:Nat) (out:List Zj),s.size<=a->out.length<=60->(∀t∈out,WFt t)->
   ∃r,(∀k n,2000<=k->m<n->Yf k s n out a=some r/\Yg k s n out a=some r)/\(∀o,r= .inl o->o.length<=60/\∀t∈o,WFt t)/\∀z,r= .inr z->0<=z.2:=by
  intro m a out X hl C;refine ⟨.inl out,λk n p O=> ?_,(λo e=>by cases e;exact ⟨hl,C⟩),λz e=>by cases e⟩;obtain ⟨n,rfl⟩:∃w,n=w+1:=⟨n-1,WF⟩;exact ⟨by rw [Yf,if_neg (Qg WF)],by rw [Yg,if_neg (Qg WF)]⟩
 intro m
 induction m with
 | zero=>intro a out X hm hl C;exact A 0 a out WF hl C
 | succ m Y=>
  intro a out X hm hl C
  by_cases j:a<s.size
  ·have Q:a<s.data.toList.length:=by omega
   have B:at? s.data.toList (a:Int)=some s.data.toList[a]:=ZQ Q;generalize s.data.toList[a]=c at B
   by_cases l:(c.toNat:Int)=32
   ·obtain ⟨r,R,S,T⟩:=Y (a+1) out WF WF hl C;refine ⟨r,λk n p O=> ?_,S,T⟩;obtain ⟨n,rfl⟩:∃w,n=w+1:=⟨n-1,WF⟩;rw [Yf,Yg,if_pos (ZL j),if_pos (ZL j),B];simp only [ZEH];rw [if_pos (decide_eq_true l),if_pos (decide_eq_true l),wS a WF];exact R k n p WF
   ·have start:∀k n,Yf k s (n+1) out a=((Xq k s a).bind λE=>(if (decide (E.2=0))=true then some true else some (decide ((out.length:Int)=60))).bind λU=>if U=true then some (.inr (([]:List Zj),(a:Int))) else (YJ 40 out [E.1]).bind λW=>Yf k s n W (GZ ((a:Int)+E.2)))/\
      Yg k s (n+1) out a=((Qh k s a).bind λE=>(if (!E.2.2)=true then some true else some (decide ((out.length:Int)=60))).bind λU=>if U=true then some (.inr (([]:List Zj),(a:Int))) else (YJ 40 out [E.1]).bind λW=>Yg k s n W E.2.1):=by
     intro k n;rw [Yf,Yg,if_pos (ZL j),if_pos (ZL j),B];simp only [ZEH];rw [if_neg (by simpa using l),if_neg (by simpa using l)];exact ⟨rfl,rfl⟩
    rcases Zy7 s hs a j with ⟨t,e,h1,h2,h3,M⟩| ⟨t,Z,e,M⟩
    ·by_cases b0:out.length=60
     ·refine ⟨.inr ([],a),λk n p O=> ?_,(λo e=>by cases e),λz e=>by cases e;show (0:Int)<=a;omega⟩;obtain ⟨n,rfl⟩:∃w,n=w+1:=⟨n-1,WF⟩;obtain ⟨I,J⟩:=M k p;rw [(start k n).1,(start k n).2,I,J];have hd:decide ((out.length:Int)=60)=true:=by simp;omega
      simp [hd]
     ·obtain ⟨r,R,S,T⟩:=Y e (out++[t]) h2 WF (by simp;omega) (λZ G=>by
       rcases He.1 G with G| G
       ·exact C Z G
       ·simp at G;rw [G];exact h3)
      refine ⟨r,λk n p O=> ?_,S,T⟩;obtain ⟨n,rfl⟩:∃w,n=w+1:=⟨n-1,WF⟩;obtain ⟨I,J⟩:=M k p;have hd:decide ((out.length:Int)=60)=false:=by simp;omega
      have P:decide ((((e-a:Nat):Int))=0)=false:=by simp;omega
      rw [(start k n).1,(start k n).2,I,J];simp only [ZEH,Hr,ZEO,if_false,hd,P];rw [Wa (by simp;omega) WF];simp only [ZEH];rw [show GZ ((a:Int)+((e-a:Nat):Int))=(e:Int) by rw [w64 WF WF];omega];exact R k n p WF
    ·refine ⟨.inr ([],a),λk n p O=> ?_,(λo e=>by cases e),λz e=>by cases e;show (0:Int)<=a;omega⟩;obtain ⟨n,rfl⟩:∃w,n=w+1:=⟨n-1,WF⟩;obtain ⟨I,J⟩:=M k p;rw [(start k n).1,(start k n).2,I,J];simp
  ·exact A _ a out WF hl C
theorem ZoV (s:Ma):∃(T:List Zj) (b:Int),(b<0->b= -1/\s.size<=120/\ZiW T s.size)/\∀k,2000<=k->UU k s=some (T,b)/\Jd k s=some (T,b):=by
 by_cases hs:s.size<=120
 ·obtain ⟨r,w,B,C⟩:=ZsO s hs s.size 0 [] WF WF Ha Ha;cases r with
  | inl T=>
   obtain ⟨A,o⟩:=B T rfl;refine ⟨T, -1,λ_=>⟨rfl,hs,⟨λt j=>(o t j).nm,λt j=>(o t j).sy,λt j=>(o t j).at_,λt j=>(o t j).tx,WF,A⟩⟩,λk p=> ?_⟩;obtain ⟨l,m⟩:=w k k p WF;have l:Yf k s k [] 0=some (.inl T):=l;have m:Yg k s k [] 0=some (.inl T):=m;constructor
   ·unfold UU;rw [if_neg (by simp;omega),l];rfl
   ·unfold Jd;rw [if_neg (by simp;omega),m];rfl
  | inr z=>
   refine ⟨z.1,z.2,λh=>absurd h (by have:=C z rfl;omega),λk p=> ?_⟩;obtain ⟨l,m⟩:=w k k p WF;have l:Yf k s k [] 0=some (.inr z):=l;have m:Yg k s k [] 0=some (.inr z):=m;constructor
   ·unfold UU;rw [if_neg (by simp;omega),l];rfl
   ·unfold Jd;rw [if_neg (by simp;omega),m];rfl
 ·refine ⟨[],120,λh=>absurd h (by decide),λk p=>⟨?_, ?_⟩⟩
  ·unfold UU;rw [if_pos (decide_eq_true WF)]
  ·unfold Jd;rw [if_pos (decide_eq_true WF)]
def zX:Zc:=⟨0,0,⟨#[]⟩,[]⟩
theorem ZuR:zX.bk=0:=by rw [zX,Zoh];rfl
theorem Zvh (s:Ma):∃r:Zc×Int,r.1.bk<=12000/\(-1<=r.2)/\Ev λk=>WI k s=some r/\WS k s=some r:=by
 obtain ⟨T,b,h1,w⟩:=ZoV s
 by_cases Q:0<=b
 ·refine ⟨(zX,b),by rw [ZuR];omega,by show -1<=b;omega,2000,λk l=>⟨?_, ?_⟩⟩
  ·unfold WI;rw [(w k l).1];simp only [ZEH];rw [if_pos (decide_eq_true Q)];rfl
  ·unfold WS;rw [(w k l).2];simp only [ZEH];rw [if_pos (decide_eq_true Q)];rfl
 obtain ⟨rfl,hs,ok⟩:=h1 WF;obtain ⟨es,P,m,z,o',U,g1,B,O⟩:=ZAG ok T.length ⟨T,0,s.size, -1⟩ ⟨T,0, -1⟩ (some 0) ⟨WF,rfl,rfl⟩ (λj e=>by cases e;omega);have S:=ok.len
 have M:∀k,2000<=k->B<=k->WI k s=((if (decide (m.bad<0))=true then some (decide (m.i<(T.length:Int))) else some false).bind λx7=>if x7=true then (Y1 m).bind λE=>some (E.2.toks,E.2.i,E.2.end_,E.2.bad) else some (m.toks,m.i,m.end_,m.bad)).bind λ(A,W,X,C)=>if (decide (0<=C))=true then some (zX,C) else (W9 k es).bind λx9=>if (!x9)=true then some (zX,0) else some (es, -1):=by
  intro k l G;have q:=(O k G).1;dsimp only at q;unfold WI;rw [(w k l).1];simp only [ZEH];rw [if_neg Ha,q]
  rfl
 have J:∀k,2000<=k->B<=k->WS k s=((if (decide (z.bad<0))=true then some (decide (z.at_<(T.length:Int))) else some false).bind λW=>if W=true then some z.at_ else some z.bad).bind λA=>if (decide ((T.length:Int)<=A))=true then some (zX,(s.size:Int)) else if (decide (0<=A))=true then (at? T A).bind λX=>some (zX,X.at_) else (Vg k P).bind λC=>if (!C)=true then some (zX,0) else some (P, -1):=by
  intro k l G;have q:=(O k G).2;dsimp only at q;unfold WS;rw [(w k l).2];simp only [ZEH];rw [if_neg Ha,q]
  rfl
 cases o' with
 | none=>
  obtain ⟨c,Z,c1,c2,c3,c4,c5⟩:=U;have hp:=ZqH ok c;refine ⟨(zX,ZuN T s.size c),by rw [ZuR];omega,by show -1<=ZuN T s.size c;omega,max 2000 B,λk l=>⟨?_, ?_⟩⟩
  ·rw [M k WF WF,c5];simp [show ¬ZuN T s.size c<0 from WF,hp]
  ·rw [J k WF WF,c4];simp only [show ¬((c:Int)<0) from WF,decide_false,ZEO,if_false,ZEH]
   by_cases R:c<T.length
   ·rw [if_neg (by simp;omega),if_pos (decide_eq_true WF),ZQ R];simp only [ZEH,ZuN,ZEP R]
   ·rw [if_pos (decide_eq_true WF)];simp only [ZuN,Gj (show T.length<=c from WF)]
 | some j=>
  obtain ⟨Z,rfl,rfl⟩:=U;obtain ⟨rfl,j0,I,b0,b1⟩:=g1 j rfl;cases I
  by_cases hj:j<T.length
  ·have o:at? T (j:Int)=some T[j]:=ZQ hj;have t:=ok.at_ T[j] (Hl hj)
   have f1:Y1 ⟨T,j,s.size, -1⟩=some (zE,⟨T,j,s.size,T[j].at_⟩):=by
    unfold Y1;simp [ZL hj,o,zE,hj]
   refine ⟨(zX,T[j].at_),by rw [ZuR];omega,by show -1<=T[j].at_;omega,max 2000 B,λk l=>⟨?_, ?_⟩⟩
   ·rw [M k WF WF];simp only [show ((-1:Int)<0) by decide,decide_true,if_true,ZL hj,ZEH,f1];rw [if_pos (decide_eq_true t)]
   ·rw [J k WF WF];simp only [show ((-1:Int)<0) by decide,decide_true,if_true,ZL hj,ZEH];rw [if_neg (by simp;omega),if_pos (decide_eq_true WF),o]
    rfl
  ·obtain ⟨v,Y,hv⟩:=ZsK es WF;have p:decide ((j:Int)<(T.length:Int))=false:=by simp;omega
   have h9:∀k,max 2000 (max B Y)<=k->WI k s=some (if v=true then (es, -1) else (zX,0))/\WS k s=some (if v=true then (es, -1) else (zX,0)):=by
    intro k l;obtain ⟨v1,v2⟩:=hv k WF;constructor
    ·rw [M k WF WF];simp only [show ((-1:Int)<0) by decide,decide_true,if_true,p,ZEH,ZEO,if_false];rw [if_neg Ha,v1];cases v<;>rfl
    ·rw [J k WF WF];simp only [show ((-1:Int)<0) by decide,decide_true,if_true,p,ZEH,ZEO,if_false];rw [if_neg (by simp;omega),if_neg Ha,v2];cases v<;>rfl
   refine ⟨_, ?_, ?_,_,h9⟩
   ·split
    ·show es.bk<=12000;omega
    ·rw [ZuR];omega
   ·split
    ·exact Int.le_refl _
    ·show (-1:Int)<=0;decide
theorem Zrd {α:Type} {f:α->Nat} {B:Nat}:∀{xs:List α},(∀x∈xs,f x<=B)->bkS f xs<=xs.length*(B+1)
 | [],_=>by simp [bkS,ZU]
 | x::xs,h=>by
  have k:=h x Ha;have l:=Zrd (xs:=xs) λy j=>h y (by simp [j]);have e:bkS f (x::xs)=1+f x+bkS f xs:=by unfold bkS;rw [HL,show ZU f (x::xs)=f x+ZU f xs from rfl];omega
  rw [e,HL,HE];omega
def zV:Zb:=Zb.mk 0 0 0 ⟨#[]⟩ [] [] []
abbrev Zp8:=Ma->List Int×List Int×Bool
def Zsy (g:Zp8) (s:Ma):ZP:=ZP.mk (g s).2.1 []
def ZeH (g:Zp8) (out:List ZP) (l:List Ma):Option (List ZP ⊕ (Zb×Bool)):=if l.all (λs=>(g s).2.2)=true then some (.inl (out++l.map (Zsy g))) else some (.inr (zV,false))
theorem ZvT {g:Zp8} {out:List ZP} {s:Ma} {l:List Ma} (h:(g s).2.2=false):ZeH g out (s::l)=some (.inr (zV,false)):=by unfold ZeH;rw [List.all_cons,h];rfl
theorem Zuf {g:Zp8} {out:List ZP} {s:Ma} {l:List Ma} (h:(g s).2.2=true):ZeH g out (s::l)=ZeH g (out++[Zsy g s]) l:=by unfold ZeH;rw [List.all_cons,h,Gt,Hi,Hx];rfl
structure ZyB (c:Int) (t:Ma) (r:List Int×List Int×Bool):Prop where
 same:r.2.2=true->r.1=r.2.1
 len:r.2.1.length<=121
 s:∀k,2000<=k->Zaj k t c=some (r.1,r.2.2)
 i:∀k,2000<=k->JJ k t c=some (r.2.1,r.2.2)
theorem ZbF (x:Ma) (ys:List Ma):(((x::ys).take (((x::ys).length:Int)).toNat).drop (1:Int).toNat)=ys:=by
 rw [show (((x::ys).length:Int)).toNat=(x::ys).length from Gb _,Gh];rfl
theorem Zom (x:Ma) (ys cs:List Ma) (hl:ys.length<=1000) (g:Zp8) (z:∀s∈ys,ZyB cs.length s (g s)):∀(m i:Nat) (out:List ZP) (k n:Nat),i+m=ys.length->out.length<=i->2000<=k->m<n->
  Qx k (x::ys) cs n out ((i+1:Nat):Int)=ZeH g out (ys.drop i)/\QA k (x::ys) cs n out (i:Int)=ZeH g out (ys.drop i):=by
 intro m
 induction m with
 | zero=>
  intro i out k n A ho o B;obtain ⟨n,rfl⟩:∃t,n=t+1:=⟨n-1,WF⟩;rw [Gs WF,Qx,QA,ZbF,if_neg (Qg (by simp;omega)),if_neg (Qg WF)];unfold ZeH;simp
 | succ m C=>
  intro i out k n A ho o B;obtain ⟨n,rfl⟩:∃t,n=t+1:=⟨n-1,WF⟩;have j:i<ys.length:=WF
  have p:at? ys (i:Int)=some ys[i]:=ZQ j;have l:at? (x::ys) ((i+1:Nat):Int)=some ys[i]:=ZQ (by simp;omega);have h:=z ys[i] (Hl j);rw [Ho j,Qx,QA,ZbF,if_pos (ZL (by simp;omega)),if_pos (ZL j),p,l,wS (i+1) WF,wS i WF];generalize ys[i]=s at h;simp only [ZEH,h.s k o,h.i k o];cases r:(g s).2.2 with
  | false=>rw [ZvT r];exact ⟨rfl,rfl⟩
  | true=>
   rw [Zuf r,h.same r];have w:YJ 48 out [ZP.mk (g s).2.1 []]=some (out++[Zsy g s]):=Wa (by simp;omega) WF;simp only [Hr,ZEO,if_false,w,ZEH];exact C (i+1) _ k n WF (by simp;omega) o WF
structure ZA4 (v:Zb):Prop where
 bk:v.bk<=100000
 rows:v.rows.length<=121
 row:∀r∈v.rows,r.cells.length<=121/\r.from_=[]
theorem Zwg:ZA4 zV:=⟨by rw [Zb.Zz];show 0<=100000;omega,by simp [zV],by simp [zV]⟩
theorem ZC4 (x:Ma) (ys:List Ma):ZkD (x::ys) 1 ((x::ys).length:Int)=some ys:=by
 unfold ZkD;rw [if_pos ⟨WF,by simp;omega,WF⟩,ZbF]
theorem ZnC (s:Ma) (hs:s.size<=120):∃x ys,spl ZrC s=x::ys/\x.size<=120/\ys.length<=120/\∀y∈ys,y.size<=120:=by
 obtain ⟨l1,l2⟩:=Zmb ZrC s (by decide);have h:∀y∈spl ZrC s,y.size<=120:=λy j=>by have:=Zqr j;omega
 cases e:spl ZrC s with
 | nil=>rw [e] at l1;simp at l1
 | cons x ys=>
  rw [e] at l2 h;exact ⟨x,ys,rfl,h x Ha,by simp at l2;omega,λy j=>h y (by simp [j])⟩
theorem Zte (cs ys:List Ma) (p:∀y∈ys,y.size<=120):∃g:Zp8,∀s∈ys,ZyB cs.length s (g s):=by
 refine YI ys λy h=> ?_;obtain ⟨t,r,b,m,o,l⟩:=Zzr y (p y h) cs.length;exact ⟨(t,r,b),⟨m,o,λk j=>(l k j).1,λk j=>(l k j).2⟩⟩
theorem Zyh (s:Ma) (hs:s.size<=120):∃r:Zb×Bool,ZA4 r.1/\Ev λk=>UX k s=some r/\WT k s=some r:=by
 obtain ⟨x,j,e,Q,hl,M⟩:=ZnC s hs;have G:∀y∈spl sp x,y.size<=120:=λy h=>by have:=Zqr h;omega
 have R:=(Zmb sp x (by decide)).2;obtain ⟨g,J⟩:=Zte (spl sp x) j M
 have w:∀k,2000<=k->UX k s=(ZeH g [] j).bind fun | .inl C=>(ZZ k (Zb.mk 5 0 0 ⟨#[]⟩ [] (spl sp x) C)).bind λB=>if (!B)=true then some (zV,false) else some (Zb.mk 5 0 0 ⟨#[]⟩ [] (spl sp x) C,true)| .inr z=>some z:=by
  intro k l;unfold UX;have E:at? (x::j) 0=some x:=ZQ (xs:=x::j) (i:=0) Ha;rw [Zs9 s hs l,e,ZEH,E,ZEH,Zme x Q l,ZEH];have:=(Zom x j (spl sp x) WF g J j.length 0 [] k k WF Ha l WF).1;rw [Gd] at this;have:Qx k (x::j) (spl sp x) k [] 1=ZeH g [] j:=this;rw [this];rfl
 have t:∀k,2000<=k->WT k s=(ZeH g [] j).bind fun | .inl C=>(ZM k (Zb.mk 5 0 0 ⟨#[]⟩ [] (spl sp x) C)).bind λB=>if (!B)=true then some (zV,false) else some (Zb.mk 5 0 0 ⟨#[]⟩ [] (spl sp x) C,true)| .inr z=>some z:=by
  intro k l;unfold WT;have E:at? (x::j) 0=some x:=ZQ (xs:=x::j) (i:=0) Ha;rw [ZtV s hs,e,ZEH,E,ZEH,Zmz x Q,ZEH,ZC4,ZEH];have:=(Zom x j (spl sp x) WF g J j.length 0 [] k k WF Ha l WF).2;rw [Gd] at this;have:QA k (x::j) (spl sp x) k [] 0=ZeH g [] j:=this;rw [this];rfl
 by_cases m:j.all (λs=>(g s).2.2)=true
 ·have A:ZeH g [] j=some (.inl (j.map (Zsy g))):=by unfold ZeH;rw [if_pos m,Hs]
  have p:ZA4 (Zb.mk 5 0 0 ⟨#[]⟩ [] (spl sp x) (j.map (Zsy g))):=by
   have o:∀r∈j.map (Zsy g),r.cells.length<=121/\r.from_=[]:=λr A=>by
    obtain ⟨y,M,rfl⟩:=Hd.1 A;exact ⟨(J y M).len,rfl⟩
   refine ⟨?_,by show (j.map (Zsy g)).length<=121;simp;omega,o⟩;rw [Zb.Zz];show (0:Nat)+(bkS Zb.bk []+(bkS ByteArray.size (spl sp x)+(bkS ZP.bk (j.map (Zsy g))+0)))<=100000;have O:=Zrd (f:=ByteArray.size) (xs:=spl sp x) G
   have P:=Zrd (f:=ZP.bk) (B:=121) (xs:=j.map (Zsy g)) λr A=>by
    obtain ⟨a,b⟩:=o r A;rw [ZP.Zz,ZkZ,ZkZ,b];simp;omega
   have S:bkS Zb.bk []=0:=rfl;have T:(spl sp x).length*(120+1)<=121*121:=Nat.mul_le_mul WF WF;have U:(j.map (Zsy g)).length*(121+1)<=120*122:=Nat.mul_le_mul (by simp;omega) WF;omega
  obtain ⟨b,W,I⟩:=Zk5 (Zb.mk 5 0 0 ⟨#[]⟩ [] (spl sp x) (j.map (Zsy g))) (by have:=p.bk;omega);refine ⟨if b then (Zb.mk 5 0 0 ⟨#[]⟩ [] (spl sp x) (j.map (Zsy g)),true) else (zV,false), ?_,(I.and (Ev.ge 2000)).mono λk ⟨⟨O,P⟩,l⟩=> ?_⟩
  ·cases b
   ·exact Zwg
   ·exact p
  ·rw [w k l,t k l,A];simp only [ZEH,O,P];cases b<;>exact ⟨rfl,rfl⟩
 ·have A:ZeH g [] j=some (.inr (zV,false)):=by unfold ZeH;rw [if_neg m]
  refine ⟨(zV,false),Zwg,(Ev.ge 2000).mono λk l=> ?_⟩;rw [w k l,t k l,A];exact ⟨rfl,rfl⟩
theorem ZvO (x:Ma) (ys cs:List Ma) (hl:ys.length<=1000) (g:Zp8) (A:∀s∈ys,ZyB cs.length s (g s)):∀(m i:Nat),i+m=ys.length->∃r:Unit ⊕ Int,∀k n:Nat,2000<=k->m<n->
  Qz k (x::ys) cs n ((i+1:Nat):Int)=some r/\QB k (x::ys) cs n (i:Int)=some r:=by
 intro m
 induction m with
 | zero=>
  intro i B;refine ⟨.inl (),λk n p C=> ?_⟩;obtain ⟨n,rfl⟩:∃t,n=t+1:=⟨n-1,WF⟩;rw [Qz,QB,ZbF,if_neg (Qg (by simp;omega)),if_neg (Qg WF)];exact ⟨rfl,rfl⟩
 | succ m G=>
  intro i B;have l:i<ys.length:=WF
  have o:at? ys (i:Int)=some ys[i]:=ZQ l;have j:at? (x::ys) ((i+1:Nat):Int)=some ys[i]:=ZQ (by simp;omega);have h:=A ys[i] (Hl l);generalize ys[i]=s at h o j;obtain ⟨r,E⟩:=G (i+1) WF;refine ⟨if ((!(g s).2.2)||decide (12<=i))=true then .inr ((i+1:Nat):Int) else r,λk n p C=> ?_⟩;obtain ⟨n,rfl⟩:∃t,n=t+1:=⟨n-1,WF⟩;obtain ⟨I,J⟩:=E k n p WF;rw [Qz,QB,ZbF,if_pos (ZL (by simp;omega)),if_pos (ZL l),o,j,wS (i+1) WF,wS i WF];simp only [ZEH,h.s k p,h.i k p,I,J];have w:decide (12<((i+1:Nat):Int))=decide (12<=i):=decide_eq_decide.2 WF;have z:decide (12<=(i:Int))=decide (12<=i):=decide_eq_decide.2 WF;rw [w,z];cases (g s).2.2<;>cases decide (12<=i)<;>exact ⟨rfl,rfl⟩
theorem Zr5 (s:Ma) (hs:s.size<=120) {v:Zb} (hf:Ev λk=>WT k s=some (v,false)):∃n:Int,Ev λk=>KH k s=some n/\KR k s=some n:=by
 obtain ⟨x,j,e,t,hl,G⟩:=ZnC s hs;have l:∀y∈spl sp x,y.size<=120:=λy h=>by have:=Zqr h;omega
 have B:=(Zmb sp x (by decide)).2;obtain ⟨g,C⟩:=Zte (spl sp x) j G;obtain ⟨r,E⟩:=ZvO x j (spl sp x) WF g C j.length 0 WF;refine ⟨if Zff (spl sp x)=true then (match r with | .inl _=> -1| .inr z=>z) else 0,(hf.and (Ev.ge 1048700)).mono λk ⟨hp,I⟩=> ?_⟩;have p:at? (x::j) 0=some x:=ZQ (xs:=x::j) (i:=0) Ha;obtain ⟨w,A⟩:=Zoq (spl sp x) WF (λy h=>by have:=l y h;omega) (k:=k) WF;obtain ⟨m,o⟩:=E k k WF WF;have m:Qz k (x::j) (spl sp x) k 1=some r:=m;have o:QB k (x::j) (spl sp x) k 0=some r:=o;constructor
 ·unfold KH;rw [Zs9 s hs WF,e,ZEH,p,ZEH,Zme x t WF,ZEH,w,m];cases Zff (spl sp x)<;>cases r<;>rfl
 ·unfold KR;rw [hp,ZtV s hs,e,ZEH];simp only [ZEO,if_false,ZEH];rw [p,ZEH,Zmz x t,ZEH,A,ZC4,ZEH,o];cases Zff (spl sp x)<;>cases r<;>rfl
theorem Zqn (a:Int) (v:Zb):∀(n:Nat) (xs:List ZP) (i:Int),xs.length=v.rows.length->Yl a n xs i=Qd a v n xs i
 | 0,_,_,_=>rfl
 | n+1,xs,i,h=>by
  rw [Yl,Qd,h]
  split
  ·cases at? xs i with
   | none=>rfl
   | some y=>exact Zqn a v n _ _ (by simp [h])
  ·rfl
theorem Zu5 (a:Int) (B:Nat):∀(m i:Nat) (xs:List ZP),i+m=xs.length->xs.length<=1000->(∀r∈xs,r.cells.length<=121/\r.from_.length<=1)->∃ys:List ZP,ys.length=xs.length/\(∀r∈ys,r.cells.length<=121/\r.from_.length<=1)/\∀n,m<n->Yl a n xs (i:Int)=some ys:=by
 intro m
 induction m with
 | zero=>
  intro i xs A hl k;refine ⟨xs,rfl,k,λn C=> ?_⟩;obtain ⟨n,rfl⟩:∃o,n=o+1:=⟨n-1,WF⟩;rw [Yl,if_neg (Qg WF)]
 | succ m G=>
  intro i xs A hl k;have j:i<xs.length:=WF
  have l:at? xs (i:Int)=some xs[i]:=ZQ j;have h:=k xs[i] (Hl j)
  obtain ⟨ys,t,w,z⟩:=G (i+1) (xs.set i (ZP.mk xs[i].cells [Zk.mk a i])) (by simp;omega) (by simp;omega) λr E=>by
   rcases List.mem_or_eq_of_mem_set E with p| rfl
   ·exact k r p
   ·exact ⟨h.1,ZEN 1⟩
  refine ⟨ys,by rw [t];simp,w,λn C=> ?_⟩;obtain ⟨n,rfl⟩:∃o,n=o+1:=⟨n-1,WF⟩;rw [Yl,if_pos (ZL j),l,ZEH,wS i WF,Gb];exact z n WF
theorem ZvQ (n:Int):(Zb.mk 6 n 0 (⟨#[]⟩:Ma) [] [] []).bk<=0:=by rw [Zb.Zz];exact ZEN 0
theorem Zs1 (a:Int) (v:Zb) (m:ZA4 v):∃w:Zb,w.bk<=200000/\Ev λk=>Ul k a v=some w/\Uu k a v=some w:=by
 obtain ⟨b,Q,p⟩:=Zk5 v (by have:=m.bk;omega);have l:∀r∈v.rows,r.cells.length<=121/\r.from_.length<=1:=λr o=>⟨(m.row r o).1,by rw [(m.row r o).2];simp⟩;have hl:=m.rows;obtain ⟨j,O,G,I⟩:=Zu5 a 0 v.rows.length 0 v.rows WF WF l;have J:=m.bk;have t:=v.ZxX;refine ⟨if (!decide (v.kind=5)||(!b||decide (a<0)))=true then Zb.mk 6 4 0 ⟨#[]⟩ [] [] [] else Zb.mk v.kind v.n v.step v.text v.list v.columns j, ?_,(p.and ((ZbT v WF).and ((Zb4 v WF).and (Ev.ge 2000)))).mono λk ⟨⟨A,B⟩,C,E,R⟩=> ?_⟩
 ·split
  ·have:=ZvQ 4;omega
  ·have e:=Zb.Zz v;rw [Zb.Zz];show v.text.size+(bkS Zb.bk v.list+(bkS ByteArray.size v.columns+(bkS ZP.bk j+0)))<=200000
   have:=Zrd (f:=ZP.bk) (B:=122) (xs:=j) λr o=>by
    obtain ⟨a,b⟩:=G r o;rw [ZP.Zz,ZkZ,ZkZ];omega
   have P:j.length*(122+1)<=121*123:=Nat.mul_le_mul WF WF;omega
 ·have z:Yl a k v.rows 0=some j:=I k WF;have M:Qd a v k v.rows 0=some j:=by rw [<-Zqn a v k v.rows 0 rfl];exact z
  unfold Ul Uu;rw [A,B,C,E];simp only [ZEH];rw [z,M];cases decide (v.kind=5)<;>cases b<;>cases decide (a<0)<;>exact ⟨rfl,rfl⟩
theorem ZpS {c:Zo} (h:J0 c=true):c.code.size<=120:=by
 unfold J0 at h;simp only [ZEM] at h;have:=h.1.2;unfold ZhK at this;simp only [ZEM,decide_eq_true_eq] at this;omega
theorem ZpR {c:Zo} (h:J0 c=true):c.kind=1\/c.kind=2\/c.kind=3\/c.kind=4:=by
 unfold J0 at h
 by_cases j:c.kind=1
 ·exact .inl j
 by_cases k:c.kind=2
 ·exact .inr (.inl k)
 by_cases l:c.kind=3
 ·exact .inr (.inr (.inl l))
 by_cases m:c.kind=4
 ·exact .inr (.inr (.inr m))
 simp [j,k,l,m] at h
def zEx:Zc:=Zc.mk 0 0 ⟨#[]⟩ []
theorem ZyV:zEx.bk<=0:=by rw [Zc.Zz];exact ZEN 0
def CP (c:Zo) (p:Zl):Prop:=J0 c=true->(p.kind=1↔c.kind=1)/\(¬c.kind=1->p.name=c.name)
def KP (c:Zo) (p:Zl):Prop:=J0 c=true->p.kind=1\/p.kind=2\/p.kind=3\/p.kind=4
theorem Zyo (c:Zo) (hc:c.bk<=1048576):∃p:Zl,((p.bk<=2097152/\p.expr.bk<=12000)/\CP c p/\KP c p)/\Ev λk=>Yx k c=some p/\YA k c=some p:=by
 have e:=Zo.Zz c;have S:=ZyV;have j:zEx.bk<=12000:=WF
 have O:zV.bk<=0:=by rw [Zb.Zz];exact ZEN 0
 cases o:J0 c with
 | false=>
  refine ⟨Zl.mk 0 ⟨#[]⟩ zEx zV 0,⟨⟨by rw [Zl.Zz];show 0+(zEx.bk+(zV.bk+0))<=2097152;omega,j⟩,λh=>absurd h (by rw [o];simp),λh=>absurd h (by rw [o];simp)⟩,(Ev.ge 1048601).mono λk m=> ?_⟩;obtain ⟨t,z⟩:=Zjx c hc (k:=k) WF;unfold Yx YA;rw [t,z,o];exact ⟨rfl,rfl⟩
 | true=>
  have A:=ZpS o
  have l:Ev λk=>Ql k c=some true/\Qp k c=some true:=(Ev.ge 1048601).mono λk m=>by
   have:=Zjx c hc (k:=k) WF;rw [o] at this;exact this
  rcases ZpR o with m| m| m| m
  ·refine ⟨Zl.mk 1 ⟨#[]⟩ zEx zV 0,⟨⟨by rw [Zl.Zz];show 0+(zEx.bk+(zV.bk+0))<=2097152;omega,j⟩,λ_=>⟨by simp [m],λh=>absurd m h⟩,λ_=>.inl rfl⟩,l.mono λk ⟨t,z⟩=> ?_⟩;unfold Yx YA;rw [t,z,m];exact ⟨rfl,rfl⟩
  ·obtain ⟨r,P,T,Q⟩:=Zvh c.code;refine ⟨if 0<=r.2 then Zl.mk 4 c.name zEx (Zb.mk 6 8 0 ⟨#[]⟩ [] [] []) r.2 else Zl.mk 2 c.name r.1 zV 0,⟨⟨?_,by split;exact j;exact P⟩,λ_=>⟨by split<;>simp [m],λ_=>by split<;>rfl⟩,λ_=>by split<;>simp⟩,(l.and Q).mono λk ⟨⟨t,z⟩,B,C⟩=> ?_⟩
   ·have:=ZvQ 8
    split
    ·rw [Zl.Zz];show c.name.size+(zEx.bk+((Zb.mk 6 8 0 ⟨#[]⟩ [] [] []).bk+0))<=2097152;omega
    ·rw [Zl.Zz];show c.name.size+(r.1.bk+(zV.bk+0))<=2097152;omega
   ·unfold Yx YA;rw [t,z,m,B,C];simp only [ZEH]
    by_cases E:0<=r.2
    ·rw [if_pos E,decide_eq_true E];exact ⟨rfl,rfl⟩
    ·rw [if_neg E,decide_eq_false E];exact ⟨rfl,rfl⟩
  ·refine ⟨Zl.mk 3 c.name zEx (Zb.mk 1 c.n 0 ⟨#[]⟩ [] [] []) 0,⟨⟨?_,j⟩,λ_=>⟨by simp [m],λ_=>rfl⟩,λ_=>Ha⟩,l.mono λk ⟨t,z⟩=> ?_⟩
   ·have:(Zb.mk 1 c.n 0 (⟨#[]⟩:Ma) [] [] []).bk<=0:=by rw [Zb.Zz];exact ZEN 0
    rw [Zl.Zz];show c.name.size+(zEx.bk+((Zb.mk 1 c.n 0 ⟨#[]⟩ [] [] []).bk+0))<=2097152;omega
   ·unfold Yx YA;rw [t,z,m];exact ⟨rfl,rfl⟩
  ·obtain ⟨⟨v,b⟩,hd,J⟩:=Zyh c.code A;cases b with
   | false=>
    obtain ⟨n,M⟩:=Zr5 c.code A (v:=v) (J.mono λk h=>h.2);refine ⟨Zl.mk 4 c.name zEx (Zb.mk 6 8 0 ⟨#[]⟩ [] [] []) n,⟨⟨?_,j⟩,λ_=>⟨by simp [m],λ_=>rfl⟩,λ_=>Ha⟩,(l.and (J.and M)).mono λk ⟨⟨t,z⟩,⟨B,C⟩,G,I⟩=> ?_⟩
    ·have:=ZvQ 8;rw [Zl.Zz];show c.name.size+(zEx.bk+((Zb.mk 6 8 0 ⟨#[]⟩ [] [] []).bk+0))<=2097152;omega
    ·unfold Yx YA;rw [t,z,m,B,C];simp only [ZEH];rw [G,I];exact ⟨rfl,rfl⟩
   | true=>
    obtain ⟨w,R,M⟩:=Zs1 c.id v hd;refine ⟨Zl.mk 3 c.name zEx w 0,⟨⟨?_,j⟩,λ_=>⟨by simp [m],λ_=>rfl⟩,λ_=>Ha⟩,(l.and (J.and M)).mono λk ⟨⟨t,z⟩,⟨B,C⟩,G,I⟩=> ?_⟩
    ·rw [Zl.Zz];show c.name.size+(zEx.bk+(w.bk+0))<=2097152;omega
    ·unfold Yx YA;rw [t,z,m,B,C];simp only [ZEH];rw [G,I];exact ⟨rfl,rfl⟩
theorem ZpP (j:Zg) (w:j.bk<=1048576):∃o:List Zl,(o.length<=1048576/\(o=[]/\Zsw j=false\/Zsw j=true/\∃f,o=j.cells.map f/\∀c∈j.cells,CP c (f c)/\KP c (f c)))/\(∀p∈o,p.bk<=2097152/\p.expr.bk<=12000)/\Ev λk=>WJ k j=some o/\Ub k j=some o:=by
 have e:=Zg.Zz j;have hl:=ZE (f:=Zo.bk) (xs:=j.cells);haveI:Inhabited Zl:=⟨Zl.mk 0 ⟨#[]⟩ zEx zV 0⟩;obtain ⟨f,hf⟩:=YI j.cells (p:=λc (p:Zl)=>((p.bk<=2097152/\p.expr.bk<=12000)/\CP c p/\KP c p)/\Ev λk=>Yx k c=some p/\YA k c=some p) λc l=>Zyo c (by have:=Z1 (f:=Zo.bk) l;omega);have r:=Ev.all j.cells λc l=>(hf c l).2;refine ⟨if Zsw j=true then j.cells.map f else [], ?_, ?_,(r.and (Ev.ge 1048700)).mono λk ⟨t,B⟩=> ?_⟩
 ·split
  ·rename_i m;exact ⟨by rw [HO];omega,.inr ⟨m,f,rfl,λc l=>(hf c l).1.2⟩⟩
  ·rename_i m;exact ⟨Ha,.inl ⟨rfl,by simpa using m⟩⟩
 ·split
  ·intro p hp;obtain ⟨c,l,rfl⟩:=Hd.1 hp;exact (hf c l).1.1
  ·intro p hp;cases hp
 ·obtain ⟨z,A⟩:=Zl3 j w (k:=k) WF;unfold WJ Ub
  rw [z,A,Zms 200 WF j.cells f (Yx k) (Xz k j) (λc l=>(t c l).1) (λn out i=>by rw [Xz]) WF WF,
   Zms 200 WF j.cells f (YA k) (XH k j) (λc l=>(t c l).2) (λn out i=>by rw [XH]) WF WF]
  cases Zsw j<;>exact ⟨rfl,rfl⟩
theorem ZpQ (l:Zg) (z:l.bk<=1048576):∃j:List Zl,(j.length<=1048576/\(j=[]/\Zsw l=false\/Zsw l=true/\j.length=l.cells.length))/\(∀p∈j,(p.bk<=2097152/\p.expr.bk<=12000)/\(p.kind=1\/p.kind=2\/p.kind=3\/p.kind=4))/\Ev λk=>WJ k l=some j/\Ub k l=some j:=by
 obtain ⟨j,⟨m,t⟩,w,o⟩:=ZpP l z;rcases t with ⟨h,g⟩| ⟨h,f,rfl,hf⟩
 ·exact ⟨j,⟨m,.inl ⟨h,g⟩⟩,λp hp=>(by rw [h] at hp;cases hp),o⟩
 ·refine ⟨_,⟨m,.inr ⟨h,by rw [HO]⟩⟩,λp hp=>⟨w p hp, ?_⟩,o⟩;obtain ⟨c,r,rfl⟩:=Hd.1 hp;exact (hf c r).2 ((ZrM ‹_›).2 c r)
theorem ZuW (xs ys:List Ma) (hl:xs.length<=1073741824) {k:Nat} (j:xs.length<k):Kz k xs ys=some (VF (λx y=>decide (x=y)) xs ys):=by
 unfold Kz;exact Zmd xs ys (λx y=>decide (x=y)) (λx y=>some (!decide (x=y))) (XK xs ys) (λ_ _ _ _=>rfl) (λn i=>by rw [XK];rfl) WF j
theorem ZoT (xs ys:List Int) (hl:xs.length<=1073741824) {k:Nat} (j:xs.length<k):Vx k xs ys=some (VF (λx y=>decide (x=y)) xs ys):=by
 unfold Vx;exact Zmd xs ys (λx y=>decide (x=y)) (λx y=>some (!decide (x=y))) (WE xs ys) (λ_ _ _ _=>rfl) (λn i=>by rw [WE];rfl) WF j
theorem Zrx (xs ys:List Zk) (hl:xs.length<=1073741824) {k:Nat} (j:xs.length<k):Xe k xs ys=some (VF (λx y=>decide (x.cell=y.cell)&&decide (x.row=y.row)) xs ys):=by
 unfold Xe;exact Zmd xs ys (λx y=>decide (x.cell=y.cell)&&decide (x.row=y.row)) (λx y=>some (!(decide (x.cell=y.cell)&&decide (x.row=y.row)))) (Qs xs ys) (λ_ _ _ _=>rfl) (λn i=>by rw [Qs];rfl) WF j
theorem ZsI {α:Type} (xs ys:List α) (p:α->α->Bool) (R:α->α->Option Bool) (u:Nat->Int->Option (Unit ⊕ Bool)) (hR:∀x∈xs,∀y∈ys,R x y=some (p x y))
  (m:∀n i,u (n+1) i=if (decide (i<(xs.length:Int)))=true then (at? xs i).bind λx=>(at? ys i).bind λy=>(R x y).bind λb=>if (!b)=true then some (.inr false) else u n (GZ (i+1)) else some (.inl ()))
  (hl:xs.length<=1073741824) (j:xs.length=ys.length) {k:Nat} (l:xs.length<k):u k 0=some (if VF p xs ys=true then .inl () else .inr false):=by
 have:=Zgc xs ys p (λx y=>(R x y).bind λb=>some (!b)) u (λx o y r=>by rw [hR x o y r];rfl) (λn i=>by rw [m];simp only [HB,ZEH]) WF j xs.length k 0 WF l
 simpa using this
def Zfm (t:Bool) (x y:ZP):Bool:=VF (λx y=>decide (x=y)) x.cells y.cells&&(!t||VF (λx y=>decide (x.cell=y.cell)&&decide (x.row=y.row)) x.from_ y.from_)
theorem ZvP:∀v:Zb,v.bk<=1073741824->∃f:Zb->Bool->Bool,Ev λk=>∀(w:Zb) (t:Bool),Uj k v w t=some (f w t)/\KN k v w t=some (f w t):=by
 refine Zb.ind λv S W=> ?_;have O:=v.Zz;have l1:=ZE (f:=Zb.bk) (xs:=v.list);have l2:=ZE (f:=ZP.bk) (xs:=v.rows);have l3:=ZE (f:=ByteArray.size) (xs:=v.columns);obtain ⟨g,P⟩:=YI (p:=λ(x:Zb) (f:Zb->Bool->Bool)=>Ev λk=>∀(w:Zb) (t:Bool),Uj k x w t=some (f w t)/\KN k x w t=some (f w t)) v.list λx o=>S x o (by have:=Z1 (f:=Zb.bk) o;omega);refine ⟨λw t=>decide (v.kind=w.kind)&&(decide (v.n=w.n)&&(decide (v.step=w.step)&&(decide (v.text=w.text)&&(VF (λx y=>decide (x=y)) v.columns w.columns&&(decide ((v.list.length:Int)=w.list.length)&&(decide ((v.rows.length:Int)=w.rows.length)&&(VF (λx y=>g x y t) v.list w.list&&VF (Zfm t) v.rows w.rows))))))), ?_⟩;refine ((Ev.all v.list P).and (Ev.ge (v.bk+1))).pred λk ⟨I,X⟩ w t=> ?_;have G:=ZuW v.columns w.columns WF (k:=k) WF;rw [Uj,KN,G,ZhV,G]
 by_cases j:v.kind=w.kind
 case neg=>exact ⟨by simp [j],by simp [j]⟩
 by_cases l:v.n=w.n
 case neg=>exact ⟨by simp [j,l],by simp [j,l]⟩
 by_cases m:v.step=w.step
 case neg=>exact ⟨by simp [j,l,m],by simp [j,l,m]⟩
 by_cases z:v.text=w.text
 case neg=>exact ⟨by simp [j,l,m,z],by simp [j,l,m,z]⟩
 cases C:VF (λx y=>decide (x=y)) v.columns w.columns
 ·refine ⟨?_, ?_⟩
  ·by_cases A:(v.list.length:Int)=w.list.length<;>simp [j,l,m,z,C,A]
  ·simp [j,l,m,z,C]
 by_cases A:(v.list.length:Int)=w.list.length
 case neg=>exact ⟨by simp [j,l,m,z,A],by simp [j,l,m,z,A]⟩
 by_cases E:(v.rows.length:Int)=w.rows.length
 case neg=>exact ⟨by simp [j,l,m,z,A,E],by simp [j,l,m,z,A,E]⟩
 have T:=ZsI v.list w.list (λx y=>g x y t) (λx y=>Uj k x y t) (UM (Uj k) v w t) (λx o y _=>(I x o y t).1) (λn i=>by rw [UM]) WF WF (k:=k) WF;have U:=ZsI v.list w.list (λx y=>g x y t) (λx y=>KN k x y t) (Kk (KN k) v w t) (λx o y _=>(I x o y t).2) (λn i=>by rw [Kk]) WF WF (k:=k) WF
 have B:∀x∈v.rows,∀y:ZP,(Vx k x.cells y.cells).bind (λp=>if (!p)=true then some true else if t=true then (Xe k x.from_ y.from_).bind λr=>some (!r) else some false)=some (!Zfm t x y):=λx o y=>by
  have Q:=Z1 (f:=ZP.bk) o;have R:=x.Zz;have l4:=ZE (f:=λ_:Int=>0) (xs:=x.cells);have l5:=ZE (f:=λ_:Zk=>0) (xs:=x.from_);rw [ZoT _ _ WF (k:=k) WF,Zrx _ _ WF (k:=k) WF];unfold Zfm;cases VF (λx y=>decide (x=y)) x.cells y.cells<;>cases t<;>simp
 have J:=Zgc v.rows w.rows (Zfm t) (λx y=>(Vx k x.cells y.cells).bind (λp=>if (!p)=true then some true else if t=true then (Xe k x.from_ y.from_).bind λr=>some (!r) else some false)) (VG k v w t) (λx o y _=>B x o y) (λn i=>by rw [VG];simp only [HB]) WF WF v.rows.length k 0 WF WF;have M:=Zgc v.rows w.rows (Zfm t) (λx y=>(Vx k x.cells y.cells).bind (λp=>if (!p)=true then some true else if t=true then (Xe k x.from_ y.from_).bind λr=>some (!r) else some false)) (Ja k v w t) (λx o y _=>B x o y) (λn i=>by rw [Ja,Ze5,ZhX];simp only [HB]) WF WF v.rows.length k 0 WF WF;simp only [Gd,Int.natCast_zero] at J M;refine ⟨?_, ?_⟩
 ·simp only [j,l,m,z,A,E,decide_true,Hr,ZEO,if_false,ZEH,C,T,Gt];cases VF (λx y=>g x y t) v.list w.list
  ·rfl
  ·simp only [if_true,ZEH,Gt];rw [show VG k v w t k 0=_ from J];cases VF (Zfm t) v.rows w.rows<;>rfl
 ·simp only [j,l,m,z,A,E,decide_true,Hr,ZEO,if_false,ZEH,C,U,Gt];cases VF (λx y=>g x y t) v.list w.list
  ·rfl
  ·simp only [if_true,ZEH,Gt];rw [show Ja k v w t k 0=_ from M];cases VF (Zfm t) v.rows w.rows<;>rfl
theorem Zt6 (v w:Zb) (j:v.bk<=1073741824):∃b,Ev λk=>XL k v w=some b/\XQ k v w=some b:=by
 obtain ⟨f,h⟩:=ZvP v j;refine ⟨f w true,h.mono λk h=> ?_⟩;unfold XL XQ;rw [(h w true).1,(h w true).2];exact ⟨rfl,rfl⟩
theorem Zt4 {j:List Zl} (hl:j.length<=1048576) (hp:∀p∈j,p.bk<=2097152) (hk:∀p∈j,p.kind=1\/p.kind=2\/p.kind=3\/p.kind=4) {U:Int->List Int} (h:GU j U) {w:Nat->Bool} (C:Zv9 j U w) (i:Nat) (hi:i<j.length) (cb:Bool) (B:cb=true↔Reach U i i):∃v:Zb×Bool,((v.2=false->w i=true/\j[i].kind=2)/\v.1.bk<=2097152)/\Ev λk=>Y2 k j (i:Int) cb=some v/\ZN k j (i:Int)=some v:=by
 obtain ⟨G,hd⟩:=ZwL j hl (i:Int);obtain ⟨m,z,S⟩:=Zui hl h (i:Int)
 obtain rfl:m=cb:=by
  cases cb<;>cases m
  ·rfl
  ·exact (B.2 (z.1 rfl)).symm
  ·exact z.2 (B.1 rfl)
  ·rfl
 have b0:=hp _ (Hl hi)
 have hv:j[i].value.bk<=2097152:=by
  have e:=Zl.Zz j[i];omega
 have A:=(hd.and S).and ((ZbT j[i].value WF).and (Zb4 j[i].value WF));have I:∀n,Q5 n=some (Zb.mk 6 n 0 (⟨#[]⟩:Ma) [] [] []):=λ_=>rfl;have J:∀n,Xa n=some (Zb.mk 6 n 0 (⟨#[]⟩:Ma) [] [] []):=λ_=>rfl;have d3:decide ((i:Int)<0)=false:=decide_eq_false WF;have d4:decide ((j.length:Int)<=(i:Int))=false:=decide_eq_false WF;have X:(Zb.mk 0 0 0 (⟨#[]⟩:Ma) [] [] []).bk<=2097152:=by rw [Zb.Zz];show 0<=2097152;omega
 have R:∀n,(Zb.mk 6 n 0 (⟨#[]⟩:Ma) [] [] []).bk<=2097152:=λn=>by have:=ZvQ n;omega
 have go:∀v:Zb×Bool,(∀k,(Qm k j (i:Int)=some G/\Y4 k j (i:Int)=some G)->(Zgy k j (i:Int)=some m/\Uw k j (i:Int)=some m)->Wv k j[i].value=some j[i].value->Yk k j[i].value=some j[i].value->Y2 k j (i:Int) m=some v/\ZN k j (i:Int)=some v)->((v.2=false->w i=true/\j[i].kind=2)/\v.1.bk<=2097152)->∃v:Zb×Bool,((v.2=false->w i=true/\j[i].kind=2)/\v.1.bk<=2097152)/\Ev λk=>Y2 k j (i:Int) m=some v/\ZN k j (i:Int)=some v:=
  λv Y Z=>⟨v,Z,A.mono λk ⟨⟨l,r⟩,t,o⟩=>Y k l r t o⟩
 by_cases M:j[i].kind=1
 ·refine go (Zb.mk 0 0 0 (⟨#[]⟩:Ma) [] [] [],true) (λk l r t o=> ?_) ⟨Ha,X⟩;unfold Y2 ZN;rw [ZQ hi,d3,d4];simp only [ZEH,ZEO,if_false,decide_eq_true M,if_true,and_self]
 ·have E:decide (j[i].kind=1)=false:=decide_eq_false M;cases G with
  | true=>
   refine go (Zb.mk 6 2 0 (⟨#[]⟩:Ma) [] [] [],true) (λk l r t o=> ?_) ⟨Ha,R _⟩;unfold Y2 ZN;rw [ZQ hi,d3,d4,l.1];simp only [ZEH,ZEO,if_false,E,l.2,if_true,I,J,and_self]
  | false=>
   by_cases P:j[i].kind=4
   ·refine go (Zb.mk 6 8 0 (⟨#[]⟩:Ma) [] [] [],true) (λk l r t o=> ?_) ⟨Ha,R _⟩;unfold Y2 ZN;rw [ZQ hi,d3,d4,l.1];simp only [ZEH,ZEO,if_false,E,l.2,decide_eq_true P,if_true,I,J,and_self]
   ·have Q:decide (j[i].kind=4)=false:=decide_eq_false P
    by_cases O:j[i].kind=3
    ·refine go (j[i].value,true) (λk l r t o=> ?_) ⟨Ha,hv⟩;unfold Y2 ZN;rw [ZQ hi,d3,d4,l.1];simp only [ZEH,ZEO,if_false,E,Q,l.2,decide_eq_true O,if_true,t,o,and_self]
    ·have W:decide (j[i].kind=3)=false:=decide_eq_false O;cases m with
     | true=>
      refine go (Zb.mk 6 3 0 (⟨#[]⟩:Ma) [] [] [],true) (λk l r t o=> ?_) ⟨Ha,R _⟩;unfold Y2 ZN;rw [ZQ hi,d3,d4,l.1];simp only [ZEH,ZEO,if_false,E,Q,W,l.2,r.2,if_true,I,J,and_self]
     | false=>
      refine go (Zb.mk 0 0 0 (⟨#[]⟩:Ma) [] [] [],false) (λk l r t o=> ?_) ⟨λ_=> ?_,X⟩
      ·unfold Y2 ZN;rw [ZQ hi,d3,d4,l.1];simp only [ZEH,ZEO,if_false,E,Q,W,l.2,r.2,and_self]
      ·have T:j[i].kind=2:=by
        rcases hk _ (Hl hi) with g| g| g| g
        ·exact absurd g M
        ·exact g
        ·exact absurd g O
        ·exact absurd g P
       refine ⟨?_,T⟩;obtain ⟨k,⟨l,r⟩,t⟩:=((hd.and S).and C.evI).get;have o:=t i hi;unfold Q9 at o;rw [decide_eq_true (show (0:Int)<=(i:Int) from WF),decide_eq_true (show (i:Int)<(j.length:Int) from WF),ZQ hi,l.2,r.2] at o;simp only [if_true,ZEH,decide_eq_true T,ZEO,if_false,HK,ZEK] at o;exact o.symm
theorem Zjl (k:List Zl) (s:Ma):∀(n:Nat) (out:List Int) (j:Int) (m:List Int),(∀x∈out,∀p,k[x.toNat]? =some p->¬p.kind=1)->Yw k s n out j=some m->∀x∈m,∀p,k[x.toNat]? =some p->¬p.kind=1
 | 0,_,_,_,_,h=>by rw [Yw] at h;cases h
 | n+1,out,j,m,r,h=>by
  rw [Yw] at h
  split at h
  ·cases l:at? k j with
   | none=>rw [l] at h;simp at h
   | some q=>
    rw [l] at h;have hq:k[j.toNat]? =some q:=(Zh8 l).2.1;simp only [ZEH] at h
    by_cases w:q.kind=1
    ·simp only [w,decide_true,Hr,ZEO,if_false,ZEH] at h;exact Zjl k s n out _ m r h
    ·simp only [w,decide_false,HK,if_true,ZEH] at h;cases z:decide (q.name=s)
     ·rw [z] at h;simp only [ZEO,if_false,ZEH] at h;exact Zjl k s n out _ m r h
     ·rw [z] at h;simp only [if_true] at h;cases t:YJ 8 out [j] with
      | none=>rw [t] at h;simp at h
      | some o=>
       rw [t] at h;simp only [ZEH] at h;obtain ⟨e,_⟩:=Vm t;refine Zjl k s n o _ m (λx A p hp=> ?_) h;rw [e] at A;rcases He.1 A with g| g
       ·exact r x g p hp
       ·rw [Hu] at g;subst g;rw [hq] at hp;cases hp;exact w
  ·cases h;exact r
end Go.Proofs.YtmcfegjoccgpoaaGreatDoor
