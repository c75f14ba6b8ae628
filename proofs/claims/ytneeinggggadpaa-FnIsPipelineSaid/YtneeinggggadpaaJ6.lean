import Derived.Test.YtneeinggggadpaaJ5
import Derived.Test.YtneeinggggadpaaJ4
import Derived.Test.YtneeinggggadpaaPkC
import Derived.Lib.ItoaLen
set_option linter.unusedSimpArgs false
set_option linter.unusedVariables false
set_option linter.unusedSectionVars false
namespace Go.Proofs.Ytneeinggggadpaa
open Go.RowKit Am
def Zfd:ByteArray:=⟨#[40]⟩
def Zhv:ByteArray:=⟨#[41]⟩
def Zhy:ByteArray:=⟨#[91]⟩
def Zkm:ByteArray:=⟨#[93]⟩
def eqS:ByteArray:=⟨#[61]⟩
def Zej:ByteArray:=⟨#[60]⟩
def ZdZ:ByteArray:=⟨#[61,61]⟩
def ZjU:ByteArray:=⟨#[108,101,116]⟩
def kIn:ByteArray:=⟨#[105,110]⟩
def kIf:ByteArray:=⟨#[105,102]⟩
def Zek:ByteArray:=⟨#[116,104,101,110]⟩
def Zel:ByteArray:=⟨#[101,108,115,101]⟩
def ZjV:ByteArray:=⟨#[102,111,114]⟩
def kDo:ByteArray:=⟨#[100,111]⟩
theorem Zlb (t:ByteArray):∃z,ZB t=some z∧Zm t=some z:=by
 obtain ⟨z,h⟩:=Ur t
 exact ⟨z,by rw [show ZB t=Zm t by unfold ZB Zm;rfl,h],h⟩
section
variable {T:List Ze} {E:Int}
theorem Zhm (ok:Ja T E) (m:Nat) (IH:∀m',m'<m→AgN T E m' Zl Zg):AgN T E m ZF Zu:=by
 intro x p o h hd
 obtain ⟨xf,pf,f1,f2,f3⟩:=Zfv ok h
 have hlen:=ok.len
 have bad:(∀k,200≤k→ZF (k+1) x=some (zE,xf)∧Zu (k+1) p=some (zE,pf))→Ag T E o (fun k=>ZF k x) (fun k=>Zu k p):=by
  intro hk
  refine ⟨zE,zE,xf,pf,none,f3,(by intro j e;cases e),201,fun k hk2=> ?_⟩
  obtain ⟨k,rfl⟩:∃n',k=n'+1:=⟨k-1,by omega⟩
  exact hk k (by omega)
 have symz:∀s,Zt p=some (zT,p)→Zd p s=some (false,p):=fun s hn=>by rw [XD hn,KX];rfl
 have badI:∀k,Zt p=some (zT,p)→Zu (k+1) p=some (zE,pf):=by
  intro k hn
  rw [Zu,hn]
  simp only [Option.bind_some]
  simp [zT,symz _ hn,f2]
 cases o with
 | none=>
  have hb:=h.bad ok
  refine bad fun k hk=>⟨?_,badI k (V9 hb.2)⟩
  rw [ZF]
  simp [show 0≤x.bad from hb.1,f1]
 | some j=>
  obtain ⟨hj,hx,hp⟩:=id h
  cases e:T[j]? with
  | none=>
   have hl:T.length≤j:=List.getElem?_eq_none_iff.1 e
   refine bad fun k hk=>⟨?_,badI k (by rw [hp,W9 hj,e];rfl)⟩
   rw [ZF,hx]
   rw [hx] at f1
   simp [show ((T.length:Int)≤(j:Int)) by omega,f1]
  | some t=>
   obtain ⟨hl,rfl⟩:=List.getElem?_eq_some_iff.1 e
   have hm:=List.getElem_mem hl
   have htx:=ok.tx _ hm
   have ad:=ZiG ok hl
   rw [←hx,←hp] at ad
   have hnx:Zt p=some (T[j],p):=by rw [hp,W9 hj,e];rfl
   have sgood:∀k,ZF (k+1) x=(at? T (j:Int)).bind fun x3=>
     if (decide (x3.kind=2))=true then (Yr x3.n).bind fun x4=>some (x4,adS x)
     else if (decide (x3.kind=3))=true then some ((Za.mk 2 0 x3.text []),adS x)
     else (if (decide (x3.kind=1))=true then (Ye k x3.text).bind fun x6=>some x6 else some false).bind fun x5=>
      if x5=true then (XH x3.text).bind fun x7=>some (x7,adS x)
      else (if (decide (x3.kind=1))=true then (ZB x3.text).bind fun x9=>some (decide (0≤x9)) else some false).bind fun x8=>
       if x8=true then (Zo (adS x) Zfd).bind fun x10=>(Qg k x10 Zhv).bind fun x11=>some ((Za.mk 5 0 x3.text x11.1),x11.2)
       else (Qx x3 Zhy).bind fun x12=>if x12=true then (Qg k (adS x) Zkm).bind fun x13=>some ((Za.mk 4 0 (⟨#[]⟩:ByteArray) x13.1),x13.2)
        else (Qx x3 Zfd).bind fun x14=>if x14=true then (Zl k (adS x)).bind fun x15=>(Zo x15.2 Zhv).bind fun x16=>some (x15.1,x16)
         else (Z6 x).bind fun x17=>some (x17.1,x17.2):=by
    intro k
    rw [ZF,hx]
    simp only [show ¬((0:Int)≤ -1) by omega,decide_false,Bool.false_eq_true,if_false,show ¬((T.length:Int)≤(j:Int)) by omega,Option.bind_some]
    rfl
   have igood:∀k,Zu (k+1) p=
     if (decide (T[j].kind=2))=true then some ((Za.mk 1 T[j].n (⟨#[]⟩:ByteArray) []),adI p)
     else if (decide (T[j].kind=3))=true then some ((Za.mk 2 0 T[j].text []),adI p)
     else (if (decide (T[j].kind=1))=true then (ZY k T[j].text).bind fun x3=>some x3 else some false).bind fun x2=>
      if x2=true then some ((Za.mk 3 0 T[j].text []),adI p)
      else (if (decide (T[j].kind=1))=true then (Zm T[j].text).bind fun x5=>some (decide (0≤x5)) else some false).bind fun x4=>
       if x4=true then (Zj (adI p) Zfd).bind fun x6=>(YV k x6 Zhv).bind fun x7=>some ((Za.mk 5 0 T[j].text x7.1),x7.2)
       else if Vj T[j] Zhy=true then (YV k (adI p) Zkm).bind fun x9=>some ((Za.mk 4 0 (⟨#[]⟩:ByteArray) x9.1),x9.2)
        else if Vj T[j] Zfd=true then (Zg k (adI p)).bind fun x11=>(Zj x11.2 Zhv).bind fun x12=>some (x11.1,x12)
         else (Yh p).bind fun x13=>some (x13.1,x13.2):=by
    intro k
    rw [Zu,hnx]
    simp only [Option.bind_some]
    have s1:Zd p (⟨#[91]⟩:ByteArray)=some (Vj T[j] Zhy,if Vj T[j] Zhy=true then adI p else p):=XD hnx _
    have s2:Zd p (⟨#[40]⟩:ByteArray)=some (Vj T[j] Zfd,if Vj T[j] Zfd=true then adI p else p):=XD hnx _
    rw [s1]
    simp only [Option.bind_some]
    cases hb1:Vj T[j] Zhy
    ·simp only [Bool.false_eq_true,if_false]
     rw [s2]
     cases hb2:Vj T[j] Zfd<;>rfl
    ·rfl
   have done:∀(ex:Za),ex.bk+1≤200→(∀k,200≤k→ZF (k+1) x=some (ex,adS x)∧Zu (k+1) p=some (ex,adI p))→Ag T E (some j) (fun k=>ZF k x) (fun k=>Zu k p):=by
    intro ex hbk hk
    refine ⟨ex,ex,adS x,adI p,some (j+1),ad,fun j' e=>⟨rfl,j,rfl,by cases e;omega,by cases e;omega⟩,201,fun k hk2=> ?_⟩
    obtain ⟨k,rfl⟩:∃n',k=n'+1:=⟨k-1,by omega⟩
    exact hk k (by omega)
   have hat:at? T (j:Int)=some T[j]:=XU hl
   have hn0:T.length-(j+1)<m:=by have:=hd j rfl;omega
   obtain ⟨z,z1,z2⟩:=Zlb T[j].text
   have vn:∀k,200≤k→Ye k T[j].text=some (Va T[j].text)∧ZY k T[j].text=some (Va T[j].text):=fun k hk=>WS _ (by omega) (by omega) (by omega)
   by_cases k2:T[j].kind=2
   ·refine done ⟨1,T[j].n,⟨#[]⟩,[]⟩ (by rw [Zbb];simp [lw];try decide) fun k hk=>⟨?_, ?_⟩
    ·rw [sgood,hat];simp only [Option.bind_some,k2,decide_true,if_true,Yr]
    ·rw [igood];simp only [k2,decide_true,if_true]
   by_cases k3:T[j].kind=3
   ·refine done ⟨2,0,T[j].text,[]⟩ (by rw [Zbb];simp [lw];omega) fun k hk=>⟨?_, ?_⟩
    ·rw [sgood,hat];simp [k3]
    ·rw [igood];simp [k3]
   by_cases k1:T[j].kind=1
   ·have nosym:∀s,Vj T[j] s=false:=fun s=>by simp [Vj,k1]
    cases hv:Va T[j].text with
    | true=>
     refine done ⟨3,0,T[j].text,[]⟩ (by rw [Zbb];simp [lw];omega) fun k hk=>⟨?_, ?_⟩
     ·rw [sgood,hat];simp [k1,(vn k hk).1,hv,XH]
     ·rw [igood];simp [k1,(vn k hk).2,hv]
    | false=>
     by_cases hz:0≤z
     ·obtain ⟨x1,p1,o1,t1,t2,r1,g1⟩:=KW ok ad Zfd
      obtain ⟨ls,li,x2,p2,o2,r2,g2,B,e2⟩:=lists ok (m-1) (fun m' hm'=>IH m' (by omega)) Zhv ⟨41,[],rfl,by decide⟩ (by decide) x1 p1 o1 r1 (fun j' e=>by obtain ⟨j2,e2,h2⟩:=g1 j' e;cases e2;omega)
      refine ⟨⟨5,0,T[j].text,ls⟩,⟨5,0,T[j].text,li⟩,x2,p2,o2,r2,fun j' e=> ?_,max B 200+1,fun k hk=> ?_⟩
      ·obtain ⟨rfl,j2,e3,h3,h4⟩:=g2 j' e
       obtain ⟨j3,e4,h5⟩:=g1 j2 e3
       cases e4
       refine ⟨rfl,j,rfl,by omega, ?_⟩
       rw [Zbb];omega
      ·obtain ⟨k,rfl⟩:∃n',k=n'+1:=⟨k-1,by omega⟩
       have q:=e2 k (by omega);dsimp only at q
       have v:=vn k (by omega)
       dsimp only
       constructor
       ·rw [sgood,hat];simp [k1,v.1,hv,z1,hz,t1,q.1]
       ·rw [igood];simp [k1,v.2,hv,z2,hz,t2,q.2]
     ·refine bad fun k hk=>⟨?_, ?_⟩
      ·rw [sgood,hat];simp [k1,(vn k hk).1,hv,z1,hz,VT,nosym,f1]
      ·rw [igood];simp [k1,(vn k hk).2,hv,z2,hz,nosym,f2]
   ·cases hs1:Vj T[j] Zhy with
    | true=>
     obtain ⟨ls,li,x2,p2,o2,r2,g2,B,e2⟩:=lists ok (m-1) (fun m' hm'=>IH m' (by omega)) Zkm ⟨93,[],rfl,by decide⟩ (by decide) (adS x) (adI p) _ ad (fun j' e=>by cases e;omega)
     refine ⟨⟨4,0,⟨#[]⟩,ls⟩,⟨4,0,⟨#[]⟩,li⟩,x2,p2,o2,r2,fun j' e=> ?_,max B 200+1,fun k hk=> ?_⟩
     ·obtain ⟨rfl,j2,e3,h3,h4⟩:=g2 j' e
      cases e3
      refine ⟨rfl,j,rfl,by omega, ?_⟩
      rw [Zbb];have h0:(⟨#[]⟩:ByteArray).size=0:=rfl;omega
     ·obtain ⟨k,rfl⟩:∃n',k=n'+1:=⟨k-1,by omega⟩
      have q:=e2 k (by omega);dsimp only at q
      dsimp only
      constructor
      ·rw [sgood,hat];simp [k1,k2,k3,VT,hs1,q.1]
      ·rw [igood];simp [k1,k2,k3,hs1,q.2]
    | false=>
     cases hs2:Vj T[j] Zfd with
     | true=>
      obtain ⟨ea,eb,x1,p1,o1,r1,g1,B,e1⟩:=IH _ hn0 (adS x) (adI p) _ ad (fun j' e=>by cases e;exact Nat.le_refl _)
      obtain ⟨x2,p2,o2,t1,t2,r2,g2⟩:=KW ok r1 Zhv
      refine ⟨ea,eb,x2,p2,o2,r2,fun j' e=> ?_,max B 200+1,fun k hk=> ?_⟩
      ·obtain ⟨j2,e3,h3⟩:=g2 j' e
       obtain ⟨h4,j3,e4,h5,h6⟩:=g1 j2 e3
       cases e4
       exact ⟨h4,j,rfl,by omega,by omega⟩
      ·obtain ⟨k,rfl⟩:∃n',k=n'+1:=⟨k-1,by omega⟩
       have q:=e1 k (by omega);dsimp only at q
       dsimp only
       constructor
       ·rw [sgood,hat];simp [k1,k2,k3,VT,hs1,hs2,q.1,t1]
       ·rw [igood];simp [k1,k2,k3,hs1,hs2,q.2,t2]
     | false=>
      refine bad fun k hk=>⟨?_, ?_⟩
      ·rw [sgood,hat];simp [k1,k2,k3,VT,hs1,hs2,f1]
      ·rw [igood];simp [k1,k2,k3,hs1,hs2,f2]
theorem ZgH (ok:Ja T E) (m:Nat) (hA:∀m',m'≤m→AgN T E m' ZF Zu):AgN T E m Zr Zp:=by
 intro x p o h hd
 obtain ⟨ea,eb,x1,p1,o1,r1,g1,B1,e1⟩:=hA m (Nat.le_refl _) x p o h hd
 obtain ⟨j0,hj0⟩:∃j0,∀j,o=some j→j=j0:=by
  cases o with
  | none=>exact ⟨0,by simp⟩
  | some j=>exact ⟨j,by simp⟩
 obtain ⟨es,ei,x2,p2,o2,r2,g2,B2,e2⟩:=Zd5 ok m (fun m' hm'=>hA m' (by omega)) j0 m x1 p1 o1 ea eb r1
  (fun j e=>by obtain ⟨_,j2,e3,h3,_⟩:=g1 j e;have:=hd j2 e3;omega)
  (fun j e=>by obtain ⟨h2,j2,e3,h3,h4⟩:=g1 j e;have:=hj0 j2 e3;subst this;exact ⟨h2,h3,h4⟩)
 refine ⟨es,ei,x2,p2,o2,r2,fun j' e=> ?_,max B1 B2+1,fun k hk=> ?_⟩
 ·obtain ⟨h1,h2,h3⟩:=g2 j' e
  cases o with
  | some j=>have:=hj0 j rfl;subst this;exact ⟨h1,j,rfl,h2,h3⟩
  | none=>
   exfalso
   have ho1:o1=none:=by cases o1 with | none=>rfl| some j1=>obtain ⟨_,j2,e3,_⟩:=g1 j1 rfl;cases e3
   subst ho1
   have q:=(e2 (B2+1) (B2+1) (by omega) (by omega)).2
   have hb:=r1.bad ok
   rw [Jl,XD (V9 hb.2),KX] at q
   simp only [Option.bind_some,Bool.false_eq_true,if_false,Option.some.injEq,Prod.mk.injEq] at q
   rw [e,←q.2] at r2
   have:=r2.2.2
   rw [this] at hb;exact absurd hb.2 (by show ¬(0:Int)≤ -1;decide)
 ·obtain ⟨k,rfl⟩:∃n',k=n'+1:=⟨k-1,by omega⟩
  have q1:=e1 k (by omega);dsimp only at q1
  have q2:=e2 k k (by omega) (by omega);dsimp only at q2
  dsimp only
  exact ⟨by rw [Zh0,q1.1];exact q2.1,by rw [Zig,q1.2];exact q2.2⟩
theorem ZhS (ok:Ja T E) (m:Nat) (hA:∀m',m'≤m→AgN T E m' Zr Zp):AgN T E m YX Z2:=by
 intro x p o h hd
 obtain ⟨ea,eb,x1,p1,o1,r1,g1,B1,e1⟩:=hA m (Nat.le_refl _) x p o h hd
 obtain ⟨j0,hj0⟩:∃j0,∀j,o=some j→j=j0:=by
  cases o with
  | none=>exact ⟨0,by simp⟩
  | some j=>exact ⟨j,by simp⟩
 obtain ⟨es,ei,x2,p2,o2,r2,g2,B2,e2⟩:=Ze3 ok m (fun m' hm'=>hA m' (by omega)) j0 m x1 p1 o1 ea eb r1
  (fun j e=>by obtain ⟨_,j2,e3,h3,_⟩:=g1 j e;have:=hd j2 e3;omega)
  (fun j e=>by obtain ⟨h2,j2,e3,h3,h4⟩:=g1 j e;have:=hj0 j2 e3;subst this;exact ⟨h2,h3,h4⟩)
 refine ⟨es,ei,x2,p2,o2,r2,fun j' e=> ?_,max B1 B2+1,fun k hk=> ?_⟩
 ·obtain ⟨h1,h2,h3⟩:=g2 j' e
  cases o with
  | some j=>have:=hj0 j rfl;subst this;exact ⟨h1,j,rfl,h2,h3⟩
  | none=>
   exfalso
   have ho1:o1=none:=by cases o1 with | none=>rfl| some j1=>obtain ⟨_,j2,e3,_⟩:=g1 j1 rfl;cases e3
   subst ho1
   have q:=(e2 (B2+1) (B2+1) (by omega) (by omega)).2
   have hb:=r1.bad ok
   rw [Zao,if_neg (by omega)] at q
   simp only [Option.some.injEq,Prod.mk.injEq] at q
   rw [e,←q.2] at r2
   have:=r2.2.2
   rw [this] at hb;exact absurd hb.2 (by show ¬(0:Int)≤ -1;decide)
 ·obtain ⟨k,rfl⟩:∃n',k=n'+1:=⟨k-1,by omega⟩
  have q1:=e1 k (by omega);dsimp only at q1
  have q2:=e2 k k (by omega) (by omega);dsimp only at q2
  dsimp only
  exact ⟨by rw [ZhZ,q1.1];exact q2.1,by rw [Zif,q1.2];exact q2.2⟩
end
end Go.Proofs.Ytneeinggggadpaa
namespace Go.Proofs.Ytneeinggggadpaa
open Go.RowKit Am
def iCL (r:Zc→Option (Za×Zc)) (y:Za×Zc) (n:Nat) (p:Zc) (i:Int):Option (Za×Zc):=
 (YH r y n p.list p.at_ p.bad i:Option (((List Ze)×Int×Int) ⊕ (Za×Zc))).bind fun
  | .inl (a,b,c)=>some (y.1,⟨a,b,c⟩)
  | .inr z=>some z
theorem ZkS:UK 4=some Zej:=by decide+kernel
theorem ZkR:UK 5=some ZdZ:=by decide+kernel
theorem ZjZ (r:Zc→Option (Za×Zc)) (y:Za×Zc) (n:Nat) (p:Zc):iCL r y (n+1) p 0=(Zd p Zej).bind fun s=>if s.1=true then (r s.2).bind fun w=>some (opE 4 y.1 w.1,w.2) else iCL r y n s.2 1:=by
 unfold iCL
 rw [YH]
 have h1:at? [(4:Int),5] 0=some 4:=rfl
 have h2:IntKind.i64.wrap (0+1)=1:=by decide
 simp only [h1,h2,Option.bind_some,ZkS,show (decide ((0:Int)<(([4,5]:List Nat).length:Int)))=true from rfl,if_true]
 rcases Zd p Zej with _| ⟨b,q⟩
 ·rfl
 ·cases b
  ·simp only [Option.bind_some,Bool.false_eq_true,if_false]
  ·simp only [Option.bind_some,if_true]
   rcases r q with _| ⟨a,z⟩<;>rfl
theorem ZkE (r:Zc→Option (Za×Zc)) (y:Za×Zc) (n:Nat) (p:Zc):iCL r y (n+2) p 1=(Zd p ZdZ).bind fun s=>if s.1=true then (r s.2).bind fun w=>some (opE 5 y.1 w.1,w.2) else some (y.1,s.2):=by
 unfold iCL
 rw [YH]
 have h1:at? [(4:Int),5] 1=some 5:=rfl
 have h2:IntKind.i64.wrap (1+1)=2:=by decide
 simp only [h1,h2,Option.bind_some,ZkR,show (decide ((1:Int)<(([4,5]:List Nat).length:Int)))=true from rfl,if_true]
 rcases Zd p ZdZ with _| ⟨b,q⟩
 ·rfl
 ·cases b
  ·simp only [Option.bind_some,Bool.false_eq_true,if_false]
   rw [YH]
   simp only [show (decide ((2:Int)<(([4,5]:List Nat).length:Int)))=false from rfl,Bool.false_eq_true,if_false,Option.bind_some]
  ·simp only [Option.bind_some,if_true]
   rcases r q with _| ⟨a,z⟩<;>rfl
theorem Zd0 (k:Nat) (x:Zb):Yy (k+1) x=(YX k x).bind fun y=>(Zi y.2 Zej).bind fun u=>if u.1=true then (YX k (adS u.2)).bind fun w=>some (opE 4 y.1 w.1,w.2) else (Zi u.2 ZdZ).bind fun v=>if v.1=true then (YX k (adS v.2)).bind fun w=>some (opE 5 y.1 w.1,w.2) else some (y.1,v.2):=by
 rw [Yy];rfl
theorem Zcp (k:Nat) (x:Zb):Zl (k+1) x=(Zi x ZjU).bind fun y=>
  if y.1=true then (Qb k (adS y.2)).bind fun n=>(Zo n.2 eqS).bind fun z=>(Zl k z).bind fun a=>(Zo a.2 kIn).bind fun u=>(Zl k u).bind fun b=>some (⟨7,0,n.1,[a.1,b.1]⟩,b.2)
  else (Zi y.2 kIf).bind fun y=>if y.1=true then (Zl k (adS y.2)).bind fun a=>(Zo a.2 Zek).bind fun z=>(Zl k z).bind fun b=>(Zo b.2 Zel).bind fun u=>(Zl k u).bind fun c=>some (⟨8,0,⟨#[]⟩,[a.1,b.1,c.1]⟩,c.2)
  else (Zi y.2 ZjV).bind fun y=>if y.1=true then (Qb k (adS y.2)).bind fun n=>(Zo n.2 kIn).bind fun z=>(Zl k z).bind fun a=>(Zo a.2 kDo).bind fun u=>(Zl k u).bind fun b=>some (⟨9,0,n.1,[a.1,b.1]⟩,b.2)
  else (Yy k y.2).bind fun z=>some (z.1,z.2):=by
 rw [Zl];rfl
theorem ZcC (k:Nat) (p:Zc) (t:Ze) (h:Zt p=some (t,p)) {b1 b2 b3:Bool} (h1:Ya t ZjU=some b1) (h2:Ya t kIf=some b2) (h3:Ya t ZjV=some b3):Zg (k+1) p=
  if b1=true then (Yg k (adI p)).bind fun n=>(Zj n.2 eqS).bind fun z=>(Zg k z).bind fun a=>(Xm 56 ([]:List Za) [a.1]).bind fun l=>(Zj a.2 kIn).bind fun u=>(Zg k u).bind fun b=>(Xm 56 l [b.1]).bind fun l2=>some (⟨7,0,n.1,l2⟩,b.2)
  else if b2=true then (Zg k (adI p)).bind fun a=>(Xm 56 ([]:List Za) [a.1]).bind fun l=>(Zj a.2 Zek).bind fun z=>(Zg k z).bind fun b=>(Xm 56 l [b.1]).bind fun l2=>(Zj b.2 Zel).bind fun u=>(Zg k u).bind fun c=>(Xm 56 l2 [c.1]).bind fun l3=>some (⟨8,0,⟨#[]⟩,l3⟩,c.2)
  else if b3=true then (Yg k (adI p)).bind fun n=>(Zj n.2 kIn).bind fun z=>(Zg k z).bind fun a=>(Xm 56 ([]:List Za) [a.1]).bind fun l=>(Zj a.2 kDo).bind fun u=>(Zg k u).bind fun b=>(Xm 56 l [b.1]).bind fun l2=>some (⟨9,0,n.1,l2⟩,b.2)
  else (Z2 k p).bind fun y=>iCL (Z2 k) y k y.2 0:=by
 have g1:Ya t ⟨#[108,101,116]⟩=some b1:=h1
 have g2:Ya t ⟨#[105,102]⟩=some b2:=h2
 have g3:Ya t ⟨#[102,111,114]⟩=some b3:=h3
 rw [Zg]
 simp only [h,Option.bind_some,g1,g2,g3]
 cases b1
 ·cases b2
  ·cases b3
   ·rfl
   ·rfl
  ·rfl
 ·rfl
section
variable {T:List Ze} {E:Int}
theorem Ziu (ok:Ja T E) (m:Nat) (hS:∀m',m'≤m→AgN T E m' YX Z2):AgN T E m Yy (fun k p=>(Z2 k p).bind fun y=>iCL (Z2 k) y k y.2 0):=by
 intro x p o h hd
 obtain ⟨ea,eb,x1,p1,o1,r1,g1,B1,e1⟩:=hS m (Nat.le_refl _) x p o h hd
 obtain ⟨b,s1,s2,s3⟩:=Wr ok r1 (s:=Zej) ⟨60,[],rfl,by decide⟩
 cases b with
 | true=>
  obtain ⟨j1,rfl,hl,r2⟩:=s3 rfl
  obtain ⟨rfl,j,rfl,h2,h3⟩:=g1 j1 rfl
  have hj:=hd j rfl
  obtain ⟨fa,fb,x2,p2,o2,r3,g3,B2,e2⟩:=hS (T.length-(j1+1)) (by omega) _ _ _ r2 (fun j' e=>by cases e;exact Nat.le_refl _)
  refine ⟨opE 4 ea fa,opE 4 ea fb,x2,p2,o2,r3,fun j' e=> ?_,max B1 B2+2,fun k hk=> ?_⟩
  ·obtain ⟨rfl,j2,e3,h4,h5⟩:=g3 j' e
   cases e3
   exact ⟨rfl,j,rfl,by omega,by rw [Zea];omega⟩
  ·obtain ⟨k,rfl⟩:∃n',k=n'+1:=⟨k-1,by omega⟩
   have q1:=e1 k (by omega);dsimp only at q1
   have q2:=e2 k (by omega);dsimp only at q2
   have q1':=e1 (k+1) (by omega);dsimp only at q1'
   have q2':=e2 (k+1) (by omega);dsimp only at q2'
   dsimp only
   exact ⟨by rw [Zd0,q1.1];simp only [Option.bind_some,s1,if_true,q2.1],by rw [q1'.2];simp only [Option.bind_some];rw [ZjZ,s2];simp only [Option.bind_some,if_true,q2'.2]⟩
 | false=>
  obtain ⟨c,t1,t2,t3⟩:=Wr ok r1 (s:=ZdZ) ⟨61,[61],rfl,by decide⟩
  cases c with
  | true=>
   obtain ⟨j1,rfl,hl,r2⟩:=t3 rfl
   obtain ⟨rfl,j,rfl,h2,h3⟩:=g1 j1 rfl
   have hj:=hd j rfl
   obtain ⟨fa,fb,x2,p2,o2,r3,g3,B2,e2⟩:=hS (T.length-(j1+1)) (by omega) _ _ _ r2 (fun j' e=>by cases e;exact Nat.le_refl _)
   refine ⟨opE 5 ea fa,opE 5 ea fb,x2,p2,o2,r3,fun j' e=> ?_,max B1 B2+4,fun k hk=> ?_⟩
   ·obtain ⟨rfl,j2,e3,h4,h5⟩:=g3 j' e
    cases e3
    exact ⟨rfl,j,rfl,by omega,by rw [Zea];omega⟩
   ·obtain ⟨k,rfl⟩:∃n',k=n'+3:=⟨k-3,by omega⟩
    have q1:=e1 (k+2) (by omega);dsimp only at q1
    have q2:=e2 (k+2) (by omega);dsimp only at q2
    have q1':=e1 (k+3) (by omega);dsimp only at q1'
    have q2':=e2 (k+3) (by omega);dsimp only at q2'
    dsimp only
    exact ⟨by rw [Zd0,q1.1];simp only [Option.bind_some,s1,Bool.false_eq_true,if_false,t1,if_true,q2.1],by rw [q1'.2];simp only [Option.bind_some];rw [ZjZ,s2];simp only [Option.bind_some,Bool.false_eq_true,if_false];rw [ZkE,t2];simp only [Option.bind_some,if_true,q2'.2]⟩
  | false=>
   refine ⟨ea,eb,x1,p1,o1,r1,g1,B1+4,fun k hk=> ?_⟩
   obtain ⟨k,rfl⟩:∃n',k=n'+3:=⟨k-3,by omega⟩
   have q1:=e1 (k+2) (by omega);dsimp only at q1
   have q1':=e1 (k+3) (by omega);dsimp only at q1'
   dsimp only
   exact ⟨by rw [Zd0,q1.1];simp only [Option.bind_some,s1,Bool.false_eq_true,if_false,t1],by rw [q1'.2];simp only [Option.bind_some];rw [ZjZ,s2];simp only [Option.bind_some,Bool.false_eq_true,if_false];rw [ZkE,t2];simp only [Option.bind_some,Bool.false_eq_true,if_false]⟩
theorem ZkL (a b:Za):Xm 56 [a] [b]=some [a,b]:=ZeE [a] b (by simp)
theorem ZkM (a:Za):Xm 56 ([]:List Za) [a]=some [a]:=ZeE [] a (by simp)
theorem Zlc (a b c:Za):Xm 56 [a,b] [c]=some [a,b,c]:=ZeE [a,b] c (by simp)
theorem lw2 (a b:Za):lw [a,b]=(a.bk+1)+(b.bk+1):=by simp [lw]
theorem lw3 (a b c:Za):lw [a,b,c]=(a.bk+1)+(b.bk+1)+(c.bk+1):=by simp [lw];omega
theorem ZeB (ok:Ja T E) (m:Nat) (IH:∀m',m'<m→AgN T E m' Zl Zg) {x:Zb} {p:Zc} {j:Nat} (hj:T.length-j≤m) (hl:j<T.length) (r0:Rl T E x p (some (j+1))) (c1 c2:ByteArray) (kd:Int):
  Ag T E (some j) (fun k=>(Qb k x).bind fun n=>(Zo n.2 c1).bind fun z=>(Zl k z).bind fun a=>(Zo a.2 c2).bind fun u=>(Zl k u).bind fun b=>some (⟨kd,0,n.1,[a.1,b.1]⟩,b.2))
   (fun k=>(Yg k p).bind fun n=>(Zj n.2 c1).bind fun z=>(Zg k z).bind fun a=>(Xm 56 ([]:List Za) [a.1]).bind fun l=>(Zj a.2 c2).bind fun u=>(Zg k u).bind fun b=>(Xm 56 l [b.1]).bind fun l2=>some (⟨kd,0,n.1,l2⟩,b.2)):=by
 obtain ⟨ns,ni,x1,p1,o1,r1,g1,v1⟩:=names ok r0
 obtain ⟨x2,p2,o2,t1,t2,r2,g2⟩:=KW ok r1 c1
 obtain ⟨ea,eb,x3,p3,o3,r3,g3,B3,e3⟩:=IH (T.length-(j+1)) (by omega) _ _ _ r2 (fun j' e=>by obtain ⟨j2,e2,h2⟩:=g2 j' e;obtain ⟨_,_,j3,e4,h3⟩:=g1 j2 e2;cases e4;omega)
 obtain ⟨x4,p4,o4,u1,u2,r4,g4⟩:=KW ok r3 c2
 obtain ⟨fa,fb,x5,p5,o5,r5,g5,B5,e5⟩:=IH (T.length-(j+1)) (by omega) _ _ _ r4 (fun j' e=>by
  obtain ⟨j2,e2,h2⟩:=g4 j' e;obtain ⟨_,j3,e4,h3,_⟩:=g3 j2 e2;obtain ⟨j4,e6,h4⟩:=g2 j3 e4;obtain ⟨_,_,j5,e7,h5⟩:=g1 j4 e6;cases e7;omega)
 refine ⟨⟨kd,0,ns,[ea,fa]⟩,⟨kd,0,ni,[eb,fb]⟩,x5,p5,o5,r5,fun j' e=> ?_,max B3 B5+200,fun k hk=> ?_⟩
 ·obtain ⟨rfl,j1,a1,a2,a3⟩:=g5 j' e
  obtain ⟨j2,b1,b2⟩:=g4 j1 a1
  obtain ⟨rfl,j3,c1,c2,c3⟩:=g3 j2 b1
  obtain ⟨j4,d1,d2⟩:=g2 j3 c1
  obtain ⟨rfl,f1,j5,f2,f3⟩:=g1 j4 d1
  cases f2
  exact ⟨rfl,j,rfl,by omega,by rw [Zbb,lw2];omega⟩
 ·have q1:=v1 k (by omega)
  have q3:=e3 k (by omega);dsimp only at q3
  have q5:=e5 k (by omega);dsimp only at q5
  dsimp only
  exact ⟨by simp only [q1.1,Option.bind_some,t1,q3.1,u1,q5.1],by simp only [q1.2,Option.bind_some,t2,q3.2,ZkM,u2,q5.2,ZkL]⟩
theorem ZjW (ok:Ja T E) (m:Nat) (IH:∀m',m'<m→AgN T E m' Zl Zg) {x:Zb} {p:Zc} {j:Nat} (hj:T.length-j≤m) (hl:j<T.length) (r0:Rl T E x p (some (j+1))):
  Ag T E (some j) (fun k=>(Zl k x).bind fun a=>(Zo a.2 Zek).bind fun z=>(Zl k z).bind fun b=>(Zo b.2 Zel).bind fun u=>(Zl k u).bind fun c=>some (⟨8,0,⟨#[]⟩,[a.1,b.1,c.1]⟩,c.2))
   (fun k=>(Zg k p).bind fun a=>(Xm 56 ([]:List Za) [a.1]).bind fun l=>(Zj a.2 Zek).bind fun z=>(Zg k z).bind fun b=>(Xm 56 l [b.1]).bind fun l2=>(Zj b.2 Zel).bind fun u=>(Zg k u).bind fun c=>(Xm 56 l2 [c.1]).bind fun l3=>some (⟨8,0,⟨#[]⟩,l3⟩,c.2)):=by
 obtain ⟨ea,eb,x1,p1,o1,r1,g1,B1,e1⟩:=IH (T.length-(j+1)) (by omega) _ _ _ r0 (fun j' e=>by cases e;exact Nat.le_refl _)
 obtain ⟨x2,p2,o2,t1,t2,r2,g2⟩:=KW ok r1 Zek
 obtain ⟨fa,fb,x3,p3,o3,r3,g3,B3,e3⟩:=IH (T.length-(j+1)) (by omega) _ _ _ r2 (fun j' e=>by obtain ⟨j2,e2,h2⟩:=g2 j' e;obtain ⟨_,j3,e4,h3,_⟩:=g1 j2 e2;cases e4;omega)
 obtain ⟨x4,p4,o4,u1,u2,r4,g4⟩:=KW ok r3 Zel
 obtain ⟨ga,gb,x5,p5,o5,r5,g5,B5,e5⟩:=IH (T.length-(j+1)) (by omega) _ _ _ r4 (fun j' e=>by
  obtain ⟨j2,e2,h2⟩:=g4 j' e;obtain ⟨_,j3,e4,h3,_⟩:=g3 j2 e2;obtain ⟨j4,e6,h4⟩:=g2 j3 e4;obtain ⟨_,j5,e7,h5,_⟩:=g1 j4 e6;cases e7;omega)
 refine ⟨⟨8,0,⟨#[]⟩,[ea,fa,ga]⟩,⟨8,0,⟨#[]⟩,[eb,fb,gb]⟩,x5,p5,o5,r5,fun j' e=> ?_,max B1 (max B3 B5),fun k hk=> ?_⟩
 ·obtain ⟨rfl,j1,a1,a2,a3⟩:=g5 j' e
  obtain ⟨j2,b1,b2⟩:=g4 j1 a1
  obtain ⟨rfl,j3,c1,c2,c3⟩:=g3 j2 b1
  obtain ⟨j4,d1,d2⟩:=g2 j3 c1
  obtain ⟨rfl,j5,f2,f3,f4⟩:=g1 j4 d1
  cases f2
  have h0:(⟨#[]⟩:ByteArray).size=0:=rfl
  exact ⟨rfl,j,rfl,by omega,by rw [Zbb,lw3];omega⟩
 ·have q1:=e1 k (by omega);dsimp only at q1
  have q3:=e3 k (by omega);dsimp only at q3
  have q5:=e5 k (by omega);dsimp only at q5
  dsimp only
  exact ⟨by simp only [q1.1,Option.bind_some,t1,q3.1,u1,q5.1],by simp only [q1.2,Option.bind_some,t2,q3.2,ZkM,u2,q5.2,ZkL,Zlc]⟩
theorem Ag.next {o:Option Nat} {s s':Nat→Option (Za×Zb)} {i i':Nat→Option (Za×Zc)} (h:Ag T E o s i) (hs:∀k,s' (k+1)=s k) (hi:∀k,i' (k+1)=i k):Ag T E o s' i':=by
 obtain ⟨ea,eb,x1,p1,o1,r1,g1,B1,e1⟩:=h
 refine ⟨ea,eb,x1,p1,o1,r1,g1,B1+1,fun k hk=> ?_⟩
 obtain ⟨k,rfl⟩:∃n',k=n'+1:=⟨k-1,by omega⟩
 rw [hs,hi];exact e1 k (by omega)
theorem Zg6 (ok:Ja T E) (m:Nat) (hS:∀m',m'≤m→AgN T E m' YX Z2) (IH:∀m',m'<m→AgN T E m' Zl Zg):AgN T E m Zl Zg:=by
 intro x p o h hd
 obtain ⟨b1,t,a1,a2,a3,a4⟩:=ZbF ok h (s:=ZjU) ⟨108,[101,116],rfl,by decide⟩
 obtain ⟨b2,t',d1,d2,d3,d4⟩:=ZbF ok h (s:=kIf) ⟨105,[102],rfl,by decide⟩
 obtain ⟨b3,t'',c1,c2,c3,c4⟩:=ZbF ok h (s:=ZjV) ⟨102,[111,114],rfl,by decide⟩
 obtain rfl:t=t':=by rw [a2] at d2;simpa using d2
 obtain rfl:t=t'':=by rw [a2] at c2;simpa using c2
 cases b1 with
 | true=>
  obtain ⟨j,rfl,hl,r2⟩:=a4 rfl
  refine (ZeB ok m IH (hd j rfl) hl r2 eqS kIn 7).next (fun k=> ?_) (fun k=> ?_)
  ·rw [Zcp,a1];simp only [Option.bind_some,if_true]
  ·rw [ZcC k p t a2 a3 d3 c3];simp only [if_true]
 | false=>
  cases b2 with
  | true=>
   obtain ⟨j,rfl,hl,r2⟩:=d4 rfl
   refine (ZjW ok m IH (hd j rfl) hl r2).next (fun k=> ?_) (fun k=> ?_)
   ·rw [Zcp,a1];simp only [Option.bind_some,Bool.false_eq_true,if_false,d1,if_true]
   ·rw [ZcC k p t a2 a3 d3 c3];simp only [Bool.false_eq_true,if_false,if_true]
  | false=>
   cases b3 with
   | true=>
    obtain ⟨j,rfl,hl,r2⟩:=c4 rfl
    refine (ZeB ok m IH (hd j rfl) hl r2 kIn kDo 9).next (fun k=> ?_) (fun k=> ?_)
    ·rw [Zcp,a1];simp only [Option.bind_some,Bool.false_eq_true,if_false,d1,c1,if_true]
    ·rw [ZcC k p t a2 a3 d3 c3];simp only [Bool.false_eq_true,if_false,if_true]
   | false=>
    refine (Ziu ok m hS x p o h hd).next (fun k=> ?_) (fun k=> ?_)
    ·rw [Zcp,a1];simp only [Option.bind_some,Bool.false_eq_true,if_false,d1,c1]
     rcases Yy k x with _| ⟨a,z⟩<;>rfl
    ·rw [ZcC k p t a2 a3 d3 c3];simp only [Bool.false_eq_true,if_false]
theorem ZiF (ok:Ja T E):∀m,AgN T E m Zl Zg:=by
 intro m
 induction m using Nat.strongRecOn with
 | _ m IH=>
  have atoms:∀m',m'≤m→AgN T E m' ZF Zu:=fun m' h=>Zhm ok m' fun m'' h2=>IH m'' (by omega)
  have prods:∀m',m'≤m→AgN T E m' Zr Zp:=fun m' h=>ZgH ok m' fun m'' h2=>atoms m'' (by omega)
  have sums:∀m',m'≤m→AgN T E m' YX Z2:=fun m' h=>ZhS ok m' fun m'' h2=>prods m'' (by omega)
  exact Zg6 ok m sums IH
end
end Go.Proofs.Ytneeinggggadpaa
namespace Go.Proofs.Ytneeinggggadpaa
open Go.RowKit Am
def toB (l:List UInt8):ByteArray:=⟨l.toArray⟩
theorem ZdR (l m:List UInt8):toB l++toB m=toB (l++m):=by
 apply ByteArray.ext
 rw [ByteArray.data_append]
 simp [toB]
theorem VR (l:List UInt8):(toB l).size=l.length:=by unfold toB ByteArray.size;simp
theorem Zew {s t:ByteArray} (h:s.size+t.size≤1099511627776):Jo s t=some (s++t):=by
 unfold Jo
 rw [if_pos (by omega)]
def UJ (u:Nat):List UInt8:=if u=0 then [] else Lib.decDigits u
theorem Zdd {u:Nat} (h:u≠0):UJ u=UJ (u/10)++[UInt8.ofNat (48+u%10)]:=by
 unfold UJ
 rw [if_neg h,Lib.decDigits]
 by_cases g:u<10
 ·rw [dif_pos g,if_pos (by omega),show u%10=u by omega];rfl
 ·rw [dif_neg g,if_neg (by omega)]
theorem Zde:∀(m:Nat) (x:Int) (l:List UInt8),x.natAbs<10^m→ -9223372036854775808≤x→x≤9223372036854775807→l.length+m≤10000→Zz (m+1) x (toB l)=some (toB (UJ x.natAbs++l)):=by
 intro m
 induction m with
 | zero=>
  intro x l h0 _ _ _
  have:x=0:=by simp at h0;exact h0
  subst this
  rw [Zz];simp [UJ]
 | succ m ih=>
  intro x l h0 h1 h2 h3
  rw [Zz]
  by_cases hx:x=0
  ·subst hx;simp [UJ]
  ·rw [if_pos (by simpa using hx)]
   have ht:x.tmod 10=if x<0 then-((x.natAbs%10:Nat):Int) else ((x.natAbs%10:Nat):Int):=by
    split
    ·obtain ⟨n,rfl⟩:∃n:Nat,x= -(n:Int):=⟨x.natAbs,by omega⟩
     rw [Int.neg_tmod];simp;rfl
    ·obtain ⟨n,rfl⟩:∃n:Nat,x=(n:Int):=⟨x.natAbs,by omega⟩
     rfl
   have hd:x.natAbs%10<10:=Nat.mod_lt _ (by omega)
   have e1:IntKind.i64.wrap (x.tmod 10)=x.tmod 10:=w64 (by rw [ht];split<;>omega) (by rw [ht];split<;>omega)
   have e2:(if decide (IntKind.i64.wrap (x.tmod 10)<0)=true then some (IntKind.i64.wrap (0-IntKind.i64.wrap (x.tmod 10))) else some (IntKind.i64.wrap (x.tmod 10)):Option Int)=some ((x.natAbs%10:Nat):Int):=by
    rw [e1,ht]
    by_cases hn:x<0
    ·simp only [if_pos hn]
     by_cases hz:x.natAbs%10=0
     ·simp [hz]
     ·rw [if_pos (by simp;omega),w64 (by omega) (by omega)];congr 1;omega
    ·simp only [if_neg hn]
     rw [if_neg (by simp;omega)]
   have e3:IntKind.i64.wrap (48+((x.natAbs%10:Nat):Int))=((48+x.natAbs%10:Nat):Int):=by rw [w64 (by omega) (by omega)];omega
   have e4:IntKind.u8.wrap ((48+x.natAbs%10:Nat):Int)=((48+x.natAbs%10:Nat):Int):=IntWalk.u8_in _ ⟨by omega,by omega⟩
   have e5:Zds [((48+x.natAbs%10:Nat):Int)]=toB [UInt8.ofNat (48+x.natAbs%10)]:=by
    unfold Zds toB
    simp only [List.foldl_cons,List.foldl_nil,Int.toNat_natCast]
    rfl
   have e6:(x.tdiv 10).natAbs=x.natAbs/10:=by rw [Int.natAbs_tdiv];rfl
   have hq: -9223372036854775808≤x.tdiv 10∧x.tdiv 10≤9223372036854775807:=by omega
   rw [e2,Option.bind_some,e3,e4,e5,Zew (by rw [VR,VR];simp;omega),Option.bind_some,ZdR,w64 hq.1 hq.2,ih _ _ (by rw [e6];rw [Nat.pow_succ] at h0;omega) hq.1 hq.2 (by simp;omega),e6,Zdd (u:=x.natAbs) (by omega)]
   simp
theorem ZhY (n:Int) (h0: -9223372036854775808≤n) (h1:n≤9223372036854775807) {k:Nat} (hk:100<k):QN k n=some (toB (Lib.itoa n)):=by
 obtain ⟨k,rfl⟩:∃j,k=j+1:=⟨k-1,by omega⟩
 unfold QN
 by_cases hn:n=0
 ·subst hn
  have:Lib.itoa 0=[48]:=by
   unfold Lib.itoa
   rw [if_neg (by omega),Lib.decDigits,dif_pos (by decide)];rfl
  rw [if_pos (by simp),this];rfl
 ·rw [if_neg (by simpa using hn)]
  have hp:n.natAbs<10^20:=by have:(10:Nat)^20=100000000000000000000:=by decide
                             omega
  have key:Zz (k+1) n (⟨#[]⟩:ByteArray)=some (toB (UJ n.natAbs)):=by
   have mono:∀(m j:Nat) (x:Int) (acc r:ByteArray),Zz m x acc=some r→Zz (m+j) x acc=some r:=by
    intro m
    induction m with
    | zero=>intro j x acc r h;simp [Zz] at h
    | succ m ih=>
     intro j x acc r h
     rw [show m+1+j=(m+j)+1 by omega,Zz]
     rw [Zz] at h
     split at h
     ·rename_i c
      rw [if_pos c]
      obtain ⟨a,ha,h⟩:=Option.bind_eq_some_iff.1 h
      obtain ⟨b,hb,h⟩:=Option.bind_eq_some_iff.1 h
      rw [ha,Option.bind_some,hb,Option.bind_some]
      exact ih j _ _ _ h
     ·rename_i c
      rw [if_neg c];exact h
   have h20:=Zde 20 n [] hp h0 h1 (by simp)
   have:=mono 21 (k-20) _ _ _ h20
   rw [show 21+(k-20)=k+1 by omega,List.append_nil] at this
   exact this
  rw [key,Option.bind_some]
  by_cases g:n<0
  ·rw [if_pos (by simpa using g)]
   have hc:Jo (⟨#[45]⟩:ByteArray) (toB (UJ n.natAbs))=some (toB (45::UJ n.natAbs)):=by
    have hl:=Lib.itoa_length_le n h0 h1
    unfold Lib.itoa at hl
    rw [if_pos g] at hl
    have e:(⟨#[45]⟩:ByteArray)=toB [45]:=rfl
    have e2:UJ n.natAbs=Lib.decDigits n.natAbs:=by unfold UJ;rw [if_neg (by omega)]
    rw [e,Zew (by rw [VR,VR,e2];simp at hl ⊢;omega),ZdR];rfl
   rw [hc]
   unfold Lib.itoa UJ
   rw [if_pos g,if_neg (by omega)];rfl
  ·rw [if_neg (by simpa using g)]
   unfold Lib.itoa UJ
   rw [if_neg g,if_neg (by omega)]
   congr 3
   omega
end Go.Proofs.Ytneeinggggadpaa
namespace Go.Proofs.Ytneeinggggadpaa
open Go.RowKit Am
def VI (c:UInt8):Bool:=decide (48≤c.toNat)&&decide (c.toNat≤57)
def val (a:Nat) (l:List UInt8):Nat:=l.foldl (fun a c=>a*10+(c.toNat-48)) a
theorem Ju (a:Nat):val a []=a:=by simp only [val,List.foldl_nil]
theorem VQ (a:Nat) (c:UInt8) (r:List UInt8):val a (c::r)=val (a*10+(c.toNat-48)) r:=by simp only [val,List.foldl_cons]
theorem Zgo (l:List UInt8) (c:UInt8) (a:Nat):val a (l++[c])=val a l*10+(c.toNat-48):=by
 simp only [val,List.foldl_append,List.foldl_cons,List.foldl_nil]
theorem ZfR:∀(l:List UInt8) (a:Nat),a≤val a l
 | [],a=>by rw [Ju];exact Nat.le_refl _
 | c::r,a=>by rw [VQ];have:=ZfR r (a*10+(c.toNat-48));omega
theorem ZfQ:∀(l:List UInt8) (a m:Nat),a<10^m→(∀c∈l,VI c=true)→val a l<10^(m+l.length)
 | [],a,m,h,_=>by rw [Ju];simpa using h
 | c::r,a,m,h,hd=>by
  rw [VQ]
  have hc:=hd c (by simp)
  simp only [VI,Bool.and_eq_true,decide_eq_true_eq] at hc
  have:=ZfQ r (a*10+(c.toNat-48)) (m+1) (by rw [Nat.pow_succ];omega) (fun c hc=>hd c (by simp [hc]))
  rw [List.length_cons,show m+(r.length+1)=m+1+r.length by omega]
  exact this
theorem Zhc (u:Nat):(UInt8.ofNat (48+u%10)).toNat=48+u%10:=by
 rw [UInt8.toNat_ofNat'];omega
theorem J4 (u:Nat):Lib.decDigits u=if u<10 then [UInt8.ofNat (48+u%10)] else Lib.decDigits (u/10)++[UInt8.ofNat (48+u%10)]:=by
 conv=>lhs;rw [Lib.decDigits]
 split
 ·rename_i h;rw [Nat.mod_eq_of_lt h]
 ·rfl
theorem Zes (u:Nat):∀c∈Lib.decDigits u,VI c=true:=by
 induction u using Nat.strongRecOn with
 | _ u ih=>
  intro c hc
  rw [J4] at hc
  have hlast:∀c,c=UInt8.ofNat (48+u%10)→VI c=true:=by
   rintro c rfl
   simp only [VI,Zhc];simp;omega
  split at hc
  ·exact hlast c (by simpa using hc)
  ·rcases List.mem_append.1 hc with h| h
   ·exact ih (u/10) (by omega) c h
   ·exact hlast c (by simpa using h)
theorem Zf8 (u:Nat):val 0 (Lib.decDigits u)=u:=by
 induction u using Nat.strongRecOn with
 | _ u ih=>
  rw [J4]
  split
  ·rw [VQ,Ju,Zhc];omega
  ·rw [Zgo,ih (u/10) (by omega),Zhc];omega
theorem Ziq (u:Nat):1≤(Lib.decDigits u).length:=by
 rw [J4];split<;>simp
theorem Zf9:∀(m u:Nat),u<10^(m+1)→(Lib.decDigits u).length≤m+1
 | 0,u,h=>by rw [J4,if_pos (by simpa using h)];simp
 | m+1,u,h=>by
  rw [J4]
  split
  ·simp
  ·have:=Zf9 m (u/10) (by rw [Nat.pow_succ] at h;omega)
   simp;omega
theorem Zbx:∀(l:List UInt8) (a:Nat),(∀c∈l,VI c=true)→val a l<18446744073709551616→Lib.parseUint10 a l= .ok (val a l)
 | [],a,_,_=>by rw [Ju];rfl
 | c::r,a,hd,hv=>by
  have hc:=hd c (by simp)
  simp only [VI,Bool.and_eq_true,decide_eq_true_eq] at hc
  rw [VQ] at hv ⊢
  have h1:=ZfR r (a*10+(c.toNat-48))
  rw [Lib.parseUint10,if_pos hc,if_neg (by omega),if_neg (by omega)]
  exact Zbx r _ (fun c hc=>hd c (by simp [hc])) hv
theorem ZeD (n:Int) (h:n.natAbs<1000000000000):Lib.atoiAll (Lib.itoa n)= .ok n:=by
 have hne:=Ziq n.natAbs
 have hdg:=Zes n.natAbs
 have hvl:=Zf8 n.natAbs
 by_cases hn:n<0
 ·have e:Lib.itoa n=45::Lib.decDigits n.natAbs:=by unfold Lib.itoa;rw [if_pos hn]
  rw [e]
  unfold Lib.atoiAll Lib.parseMag
  have hnil:Lib.decDigits n.natAbs≠[]:=fun e=>by rw [e] at hne;simp at hne
  dsimp only
  rw [if_pos (show (45:UInt8).toNat=43∨(45:UInt8).toNat=45 from .inr rfl),if_neg hnil,Zbx _ _ hdg (by rw [hvl];omega),hvl]
  have h45:(45:UInt8).toNat=45:=rfl
  simp only [h45]
  rw [if_neg (by omega),if_neg (by omega)]
  simp;omega
 ·have e:Lib.itoa n=Lib.decDigits n.natAbs:=by unfold Lib.itoa;rw [if_neg hn];congr 1;omega
  rw [e]
  cases hl:Lib.decDigits n.natAbs with
  | nil=>rw [hl] at hne;simp at hne
  | cons c r=>
   have hc:=hdg c (by rw [hl];simp)
   simp only [VI,Bool.and_eq_true,decide_eq_true_eq] at hc
   unfold Lib.atoiAll Lib.parseMag
   simp only [if_neg (show ¬(c.toNat=43∨c.toNat=45) by omega)]
   rw [if_neg (by simp),Zbx _ _ (by rw [←hl];exact hdg) (by rw [←hl,hvl];omega),←hl,hvl]
   simp only
   rw [if_neg (by omega),if_neg (by omega),if_neg (by omega)]
   congr 1;omega
def Zcu (x:ByteArray):Option Int:=match Lib.atoiAll x.data.toList with
 | .ok n=>if toB (Lib.itoa n)=x then some n else none
 | _=>none
theorem Zd8 (x:ByteArray) (lo hi:Int):Zcr x lo hi=match Zcu x with
  | some n=>if lo≤n∧n≤hi then (n,true) else (0,false)
  | none=>(0,false):=by
 unfold Zcr Zcu
 cases Lib.atoiAll x.data.toList with
 | ok n=>
  simp only
  by_cases h:toB (Lib.itoa n)=x
  ·simp only [h,if_true]
   have h':(⟨(Lib.itoa n).toArray⟩:ByteArray)=x:=h
   simp [h']
  ·simp only [h,if_false]
   have h':¬(⟨(Lib.itoa n).toArray⟩:ByteArray)=x:=h
   simp [h']
 | «syntax» =>rfl
 | range=>rfl
def WA (x:ByteArray):Int×Bool:=match Zcu x with
 | some n=>if n.natAbs<1000000000000 then (n,true) else (0,false)
 | none=>(0,false)
theorem Zch (l:List UInt8):(toB l).data.toList=l:=by simp [toB]
theorem JN {x:ByteArray} {n:Int} (h:Zcu x=some n):Lib.itoa n=x.data.toList:=by
 unfold Zcu at h
 split at h
 ·split at h
  ·rename_i e;cases h;rw [←e,Zch]
  ·cases h
 ·cases h
theorem ZgP {x:ByteArray} {n:Int} (hn:n.natAbs<1000000000000) (h:toB (Lib.itoa n)=x):Zcu x=some n:=by
 unfold Zcu
 have:x.data.toList=Lib.itoa n:=by rw [←h,Zch]
 rw [this,ZeD n hn]
 simp [h]
theorem Zd1 (t:ByteArray) (l:List UInt8) (hl:t.data.toList=l) (h12:l.length≤12):∀(m i a:Nat) (n:Nat),i+m=l.length→a<10^i→m<n→Y5 t n (a:Int) (i:Int)=some (if (l.drop i).all VI=true then .inl (val a (l.drop i):Int) else .inr (0,false)):=by
 have hsz:t.size=l.length:=by rw [←hl,Array.length_toList];rfl
 intro m
 induction m with
 | zero=>
  intro i a n hi ha hn
  obtain ⟨n,rfl⟩:∃n',n=n'+1:=⟨n-1,by omega⟩
  have hd:l.drop i=[]:=List.drop_eq_nil_of_le (by omega)
  rw [Y5,hd]
  simp [hsz,Ju,show ¬((i:Int)<(l.length:Int)) by omega]
 | succ m ih=>
  intro i a n hi ha hn
  obtain ⟨n,rfl⟩:∃n',n=n'+1:=⟨n-1,by omega⟩
  have hlt:i<l.length:=by omega
  have hd:l.drop i=l[i]::l.drop (i+1):=List.drop_eq_getElem_cons hlt
  have hat:at? t.data.toList (i:Int)=some l[i]:=by rw [hl];exact XU hlt
  have hp:(10:Nat)^i≤10^11:=Nat.pow_le_pow_right (by omega) (by omega)
  rw [Y5,hsz,if_pos (QA hlt),hat,hd]
  simp only [Option.bind_some]
  generalize l[i]=c
  have hc8:c.toNat<256:=c.toNat_lt
  cases hc:VI c with
  | false=>
   have hx:(if (decide ((c.toNat:Int)<48))=true then some true else some (decide (57<(c.toNat:Int))))=some true:=by
    simp only [VI,Bool.and_eq_false_iff,decide_eq_false_iff_not] at hc
    by_cases h1:(c.toNat:Int)<48
    ·simp [h1]
    ·simp only [h1,decide_false,Bool.false_eq_true,if_false,Option.some.injEq,decide_eq_true_eq];omega
   rw [hx]
   simp [hc]
  | true=>
   have hcd:=hc
   simp only [VI,Bool.and_eq_true,decide_eq_true_eq] at hcd
   have hx:(if (decide ((c.toNat:Int)<48))=true then some true else some (decide (57<(c.toNat:Int))))=some false:=by
    simp only [show ¬((c.toNat:Int)<48) by omega,decide_false,Bool.false_eq_true,if_false,Option.some.injEq,decide_eq_false_iff_not];omega
   rw [hx]
   simp only [Option.bind_some,Bool.false_eq_true,if_false]
   have e1:IntKind.u8.wrap ((c.toNat:Int)-48)=(c.toNat:Int)-48:=by
    unfold IntKind.wrap;simp [IntKind.bits,IntKind.signed];omega
   have hp2:(10:Nat)^11=100000000000:=by decide
   have e2:IntKind.i64.wrap (IntKind.i64.wrap (10*(a:Int))+IntKind.i64.wrap (IntKind.u8.wrap ((c.toNat:Int)-48)))=((a*10+(c.toNat-48):Nat):Int):=by
    rw [e1,w64 (n:=10*(a:Int)) (by omega) (by omega),w64 (n:=(c.toNat:Int)-48) (by omega) (by omega),w64 (by omega) (by omega)];omega
   rw [e2,wS i (by omega),ih (i+1) (a*10+(c.toNat-48)) n (by omega) (by rw [Nat.pow_succ];omega) (by omega)]
   simp [hc,VQ]
theorem KB (n:Int):Lib.itoa n=if n<0 then 45::Lib.decDigits n.natAbs else Lib.decDigits n.natAbs:=by
 unfold Lib.itoa
 split
 ·rfl
 ·congr 1;omega
theorem ZhX (x:ByteArray) (hx:x.size≤1048576) {k:Nat} (hk:1000<k):VX k x 12=some (WA x):=by
 have hsz:x.size=x.data.toList.length:=by rw [Array.length_toList];rfl
 have rep:∀n:Int,n.natAbs<1000000000000→Zcu x=some n→x.data.toList=(if n<0 then 45::Lib.decDigits n.natAbs else Lib.decDigits n.natAbs)∧(Lib.decDigits n.natAbs).length≤12:=fun n hn h=>by
  rw [←KB];exact ⟨(JN h).symm,Zf9 11 _ (by simpa using hn)⟩
 have no:(∀n:Int,n.natAbs<1000000000000→Zcu x≠some n)→WA x=(0,false):=fun h=>by
  unfold WA
  cases hv:Zcu x with
  | none=>rfl
  | some n=>
   simp only
   rw [if_neg]
   intro hn;exact h n hn hv
 unfold VX
 obtain ⟨below,hbelow,hb2⟩:∃below:Bool,(if (decide (0<(x.size:Int)))=true then (at? x.data.toList 0).bind fun x2=>some (decide ((x2.toNat:Int)=45)) else some false)=some below∧(below=true↔∃r,x.data.toList=45::r):=by
  cases hl:x.data.toList with
  | nil=>exact ⟨false,by rw [hsz,hl];simp,by simp⟩
  | cons c r=>
   refine ⟨decide ((c.toNat:Int)=45),by rw [hsz,hl];simp [at?], ?_⟩
   simp only [decide_eq_true_eq,List.cons.injEq,exists_and_left,exists_eq',and_true]
   constructor
   ·intro h;exact UInt8.toNat_inj.1 (by show c.toNat=45;omega)
   ·rintro rfl;rfl
 rw [hbelow]
 simp only [Option.bind_some]
 obtain ⟨t,ht,htl⟩:∃t:ByteArray,(if below=true then (WU x 1 (x.size:Int)).bind fun x4=>some x4 else some x)=some t∧x.data.toList=(if below=true then 45::t.data.toList else t.data.toList):=by
  cases below with
  | false=>exact ⟨x,rfl,rfl⟩
  | true=>
   obtain ⟨r,hr⟩:=hb2.1 rfl
   have h1:1≤x.size:=by rw [hsz,hr];simp
   refine ⟨x.extract 1 x.size, ?_, ?_⟩
   ·simp only [if_true]
    unfold WU
    rw [if_pos ⟨by omega,by omega,by omega⟩];rfl
   ·simp only [if_true,ByteArray.data_extract,Array.toList_extract,List.extract_eq_take_drop]
    rw [hr];simp [hsz,hr]
 rw [ht]
 simp only [Option.bind_some]
 have hts:t.size=t.data.toList.length:=by rw [Array.length_toList];rfl
 have dig:∀n:Int,n.natAbs<1000000000000→Zcu x=some n→t.data.toList=Lib.decDigits n.natAbs∧(below=true↔n<0):=by
  intro n hn h
  obtain ⟨h1,h2⟩:=rep n hn h
  by_cases hneg:n<0
  ·rw [if_pos hneg] at h1
   have hb:below=true:=hb2.2 ⟨_,h1⟩
   rw [htl,hb] at h1
   simp only [if_true,List.cons.injEq,true_and] at h1
   exact ⟨h1,by simp [hb,hneg]⟩
  ·rw [if_neg hneg] at h1
   have hb:below=false:=by
    cases hbb:below with
    | false=>rfl
    | true=>
     obtain ⟨r,hr⟩:=hb2.1 hbb
     have:=Zes n.natAbs 45 (by rw [←h1,hr];simp)
     simp [VI] at this
   rw [htl,hb] at h1
   exact ⟨by simpa using h1,by simp [hb,hneg]⟩
 by_cases hlen:t.data.toList.length<1∨12<t.data.toList.length
 ·have e:(if (decide ((t.size:Int)<1))=true then some true else some (decide ((12:Int)<(t.size:Int))))=some true:=by
   rw [hts]
   by_cases h1:t.data.toList.length<1
   ·rw [if_pos (decide_eq_true (by omega))]
   ·rw [if_neg (by rw [decide_eq_true_eq];omega),decide_eq_true (by omega)]
  rw [e]
  simp only [Option.bind_some,if_true]
  rw [no]
  intro n hn hv
  obtain ⟨h1,_⟩:=dig n hn hv
  have h2:=Ziq n.natAbs
  have h3:=(rep n hn hv).2
  rw [h1] at hlen;omega
 ·have e:(if (decide ((t.size:Int)<1))=true then some true else some (decide ((12:Int)<(t.size:Int))))=some false:=by
   rw [hts]
   simp only [show ¬((t.data.toList.length:Int)<1) by omega,decide_false,Bool.false_eq_true,if_false,Option.some.injEq,decide_eq_false_iff_not];omega
  rw [e]
  simp only [Option.bind_some,Bool.false_eq_true,if_false]
  have hloop:=Zd1 t _ rfl (by omega) t.data.toList.length 0 0 k (by omega) (by decide) (by omega)
  rw [show ((0:Nat):Int)=0 from rfl] at hloop
  rw [hloop,List.drop_zero]
  cases hall:t.data.toList.all VI with
  | false=>
   simp only [Bool.false_eq_true,if_false,Option.bind_some]
   rw [no]
   intro n hn hv
   obtain ⟨h1,_⟩:=dig n hn hv
   have:t.data.toList.all VI=true:=by rw [h1];exact List.all_eq_true.2 (Zes n.natAbs)
   rw [hall] at this;cases this
  | true=>
   simp only [if_true,Option.bind_some]
   have hv:=ZfQ t.data.toList 0 0 (by decide) (List.all_eq_true.1 hall)
   have hp:(10:Nat)^(0+t.data.toList.length)≤10^12:=Nat.pow_le_pow_right (by omega) (by omega)
   have hp2:(10:Nat)^12=1000000000000:=by decide
   generalize hvv:val 0 t.data.toList=v at hv
   obtain ⟨n,hn,hna,hns⟩:∃n:Int,(if below=true then some (IntKind.i64.wrap (0-(v:Int))) else some (v:Int))=some n∧n.natAbs=v∧n=(if below=true then-(v:Int) else (v:Int)):=by
    cases below with
    | false=>exact ⟨v,rfl,by simp,rfl⟩
    | true=>exact ⟨-(v:Int),by simp only [if_true];rw [w64 (by omega) (by omega)];simp,by simp,rfl⟩
   rw [hn]
   simp only [Option.bind_some]
   rw [ZhY n (by omega) (by omega) (by omega)]
   simp only [Option.bind_some]
   by_cases he:toB (Lib.itoa n)=x
   ·have:Zcu x=some n:=ZgP (by omega) he
    simp only [he,decide_true,Bool.not_true,Bool.false_eq_true,if_false]
    unfold WA
    rw [this]
    simp only
    rw [if_pos (by omega)]
   ·simp only [he,decide_false,Bool.not_false,if_true]
    rw [no]
    intro m hm hmv
    obtain ⟨h1,h2⟩:=dig m hm hmv
    have h3:v=m.natAbs:=by rw [←hvv,h1,Zf8]
    have h4:n=m:=by
     rw [hns]
     by_cases hb:below=true
     ·rw [if_pos hb];have:=h2.1 hb;omega
     ·rw [if_neg hb];have:¬m<0:=fun h=>hb (h2.2 h);omega
    apply he
    rw [h4,JN hmv]
    apply ByteArray.ext;simp [toB]
theorem ZbK (x:ByteArray) (hx:x.size≤1048576) {k:Nat} (hk:1000<k):XC k x=some (WA x):=by
 unfold XC
 rw [ZhX x hx hk];rfl
theorem Zc7 (x:ByteArray) (lo hi:Int) (h1: -999999999999≤lo) (h2:hi≤999999999999):Zcr x lo hi=if (WA x).2=true∧lo≤(WA x).1∧(WA x).1≤hi then ((WA x).1,true) else (0,false):=by
 rw [Zd8]
 unfold WA
 cases Zcu x with
 | none=>simp
 | some n=>
  simp only
  by_cases hn:n.natAbs<1000000000000
  ·simp [hn]
  ·rw [if_neg hn,if_neg (by omega)];simp
end Go.Proofs.Ytneeinggggadpaa
namespace Go.Proofs.Ytneeinggggadpaa
open Go.RowKit Am
def sc (p:UInt8→Bool) (l:List UInt8) (i:Nat):Nat:=i+((l.drop i).takeWhile p).length
theorem Uy {p:UInt8→Bool} {l:List UInt8} {i:Nat} (h:i<l.length):sc p l i=if p l[i]=true then sc p l (i+1) else i:=by
 unfold sc
 rw [List.drop_eq_getElem_cons h,List.takeWhile_cons]
 split
 ·simp;omega
 ·simp
theorem ZdY {p:UInt8→Bool} {l:List UInt8} {i:Nat} (h:l.length≤i):sc p l i=i:=by
 unfold sc;rw [List.drop_eq_nil_of_le h];simp
theorem Zc1 {p:UInt8→Bool} {l:List UInt8}:∀(m i:Nat),i+m=l.length→i≤sc p l i∧sc p l i≤l.length
 | 0,i,h=>by rw [ZdY (by omega)];omega
 | m+1,i,h=>by
  rw [Uy (by omega)]
  have:=Zc1 (p:=p) (l:=l) m (i+1) (by omega)
  split<;>omega
theorem WV (l:List UInt8) (p:UInt8→Bool) (N:Int) (hN:N=(l.length:Int)) (u:Nat→Int→Option Int) (hl:l.length≤1048576)
  (hu:∀n x,u (n+1) x=(if (decide (x<N))=true then (at? l x).bind fun c=>some (p c) else some false).bind fun b=>if b=true then u n (IntKind.i64.wrap (x+1)) else some x):
  ∀(m i n:Nat),i+m=l.length→m<n→u n (i:Int)=some ((sc p l i:Nat):Int):=by
 subst hN
 intro m
 induction m with
 | zero=>
  intro i n hi hn
  obtain ⟨n,rfl⟩:∃n',n=n'+1:=⟨n-1,by omega⟩
  rw [hu,if_neg (UG (by omega)),ZdY (by omega)];rfl
 | succ m ih=>
  intro i n hi hn
  obtain ⟨n,rfl⟩:∃n',n=n'+1:=⟨n-1,by omega⟩
  have hlt:i<l.length:=by omega
  rw [hu,if_pos (QA hlt),XU hlt,Uy hlt]
  simp only [Option.bind_some]
  split
  ·rw [wS i (by omega)];exact ih (i+1) n (by omega) (by omega)
  ·rfl
def word (c:UInt8):Bool:=ZaB c||Zbr c
def noQ (c:UInt8):Bool:=!decide ((c.toNat:Int)=34)
theorem WW (c:UInt8):Q1 (c.toNat:Int)=some (ZaB c):=by unfold Q1 ZaB;by_cases h:(97:Int)≤(c.toNat:Int)<;>simp [h]
theorem Vx (c:UInt8):Xg (c.toNat:Int)=some (Zbr c):=by unfold Xg Zbr;by_cases h:(48:Int)≤(c.toNat:Int)<;>simp [h]
theorem Ug (c:UInt8):(if (decide (97≤(c.toNat:Int)))=true then some (decide ((c.toNat:Int)≤122)) else some false)=some (ZaB c):=by unfold ZaB;by_cases h:(97:Int)≤(c.toNat:Int)<;>simp [h]
theorem Ui (c:UInt8):(if (decide (48≤(c.toNat:Int)))=true then some (decide ((c.toNat:Int)≤57)) else some false)=some (Zbr c):=by unfold Zbr;by_cases h:(48:Int)≤(c.toNat:Int)<;>simp [h]
theorem Zie (c:UInt8):(if (decide (97≤(c.toNat:Int)))=true then if (decide ((c.toNat:Int)≤122))=true then some true else if (decide (48≤(c.toNat:Int)))=true then some (decide ((c.toNat:Int)≤57)) else some false
  else if (decide (48≤(c.toNat:Int)))=true then some (decide ((c.toNat:Int)≤57)) else some false)=some (word c):=by
 rw [Ui]
 unfold word ZaB
 by_cases h:(97:Int)≤(c.toNat:Int)
 ·by_cases h2:(c.toNat:Int)≤122<;>simp [h,h2]
 ·simp [h]
section
variable (s:ByteArray) (hs:s.size≤120)
include hs
theorem Ze2:s.data.toList.length=s.size:=by rw [Array.length_toList];rfl
theorem iw (i:Nat) (hi:i≤s.size) {k:Nat} (hk:1000<k):QR s k (i:Int)=some ((sc word s.data.toList i:Nat):Int):=by
 have e:=Ze2 s hs
 refine WV s.data.toList word s.size (by rw [e]) (QR s) (by omega) (fun n x=> ?_) (s.size-i) i k (by omega) (by omega)
 rw [QR];simp only [Zie]
theorem id_ (i:Nat) (hi:i≤s.size) {k:Nat} (hk:1000<k):QQ s k (i:Int)=some ((sc Zbr s.data.toList i:Nat):Int):=by
 have e:=Ze2 s hs
 refine WV s.data.toList Zbr s.size (by rw [e]) (QQ s) (by omega) (fun n x=> ?_) (s.size-i) i k (by omega) (by omega)
 rw [QQ];simp only [Ui]
theorem sw (i:Nat) (hi:i≤s.size) {k:Nat} (hk:1000<k):YT s k (i:Int)=some ((sc word s.data.toList i:Nat):Int):=by
 have e:=Ze2 s hs
 refine WV s.data.toList word s.size (by rw [e]) (YT s) (by omega) (fun n x=> ?_) (s.size-i) i k (by omega) (by omega)
 rw [YT]
 have:∀c:UInt8,((Q1 (c.toNat:Int)).bind fun x11=>if x11=true then some true else (Xg (c.toNat:Int)).bind fun x12=>some x12)=some (word c):=fun c=>by
  rw [WW,Vx];unfold word;cases ZaB c<;>simp
 simp only [this]
theorem sd (i:Nat) (hi:i≤s.size) {k:Nat} (hk:1000<k):YS s k (i:Int)=some ((sc Zbr s.data.toList i:Nat):Int):=by
 have e:=Ze2 s hs
 refine WV s.data.toList Zbr s.size (by rw [e]) (YS s) (by omega) (fun n x=> ?_) (s.size-i) i k (by omega) (by omega)
 rw [YS]
 simp only [Vx,Option.bind_some]
theorem sq (i:Nat) (hi:i≤s.size) {k:Nat} (hk:1000<k):YR s k (i:Int)=some ((sc noQ s.data.toList i:Nat):Int):=by
 have e:=Ze2 s hs
 refine WV s.data.toList noQ s.size (by rw [e]) (YR s) (by omega) (fun n x=> ?_) (s.size-i) i k (by omega) (by omega)
 rw [YR];rfl
theorem U8 {a b:Nat} (h1:a≤b) (h2:b≤s.size):WU s (a:Int) (b:Int)=some (s.extract a b):=by
 unfold WU;rw [if_pos ⟨by omega,by omega,by omega⟩];simp
theorem Jn (a b:Nat):(s.extract a b).data.toList=(s.data.toList.drop a).take (b-a):=by
 rw [ByteArray.data_extract,Array.toList_extract,List.extract_eq_take_drop]
theorem Zas {a b:Nat} (h1:a<b) (h2:b≤s.size):∃c r,s.data.toList[a]? =some c∧(s.extract a b).data.toList=c::r:=by
 have e:=Ze2 s hs
 have hl:a<s.data.toList.length:=by omega
 refine ⟨s.data.toList[a],(s.data.toList.drop (a+1)).take (b-a-1),List.getElem?_eq_getElem hl, ?_⟩
 rw [Jn s hs,List.drop_eq_getElem_cons hl]
 obtain ⟨m,hm⟩:∃m,b-a=m+1:=⟨b-a-1,by omega⟩
 rw [hm];simp
theorem Vp {a b:Nat} (h2:b≤s.size):(s.extract a b).size≤120:=by rw [ByteArray.size_extract];omega
end
theorem ZcA (l:List UInt8):∀(m i:Nat),i+m=l.length→Lib.indexByte (l.drop i) 34=if sc noQ l i<l.length then ((sc noQ l i-i:Nat):Int) else-1
 | 0,i,h=>by rw [List.drop_eq_nil_of_le (by omega),ZdY (by omega),if_neg (by omega)];try rfl
 | m+1,i,h=>by
  have hlt:i<l.length:=by omega
  have ih:=ZcA l m (i+1) (by omega)
  have hle:=Zc1 (p:=noQ) (l:=l) m (i+1) (by omega)
  rw [List.drop_eq_getElem_cons hlt,Lib.indexByte,Uy hlt,ih]
  generalize l[i]=c
  by_cases hc:c=34
  ·subst hc
   have:noQ 34=false:=by decide
   simp [this,hlt]
  ·have hq:noQ c=true:=by
    unfold noQ
    simp only [Bool.not_eq_true',decide_eq_false_iff_not]
    intro h;exact hc (UInt8.toNat_inj.1 (by show c.toNat=34;omega))
   have hb:(c==34)=false:=by simpa using hc
   simp only [hb,Bool.false_eq_true,if_false,hq,if_true]
   by_cases h1:sc noQ l (i+1)<l.length
   ·simp only [h1,if_true]
    have hne:¬(((sc noQ l (i+1)-(i+1):Nat):Int)== -1)=true:=by simp
    rw [if_neg hne];omega
   ·simp [h1]
structure WFt (t:Ze):Prop where
 nm:t.kind=1→∃c r,t.text.data.toList=c::r∧ZaB c=true
 sy:t.kind=4→∃c r,t.text.data.toList=c::r∧ZaB c=false
 at_:0≤t.at_
 tx:t.text.size≤120
def ZhR:List UInt8:=[40,41,91,93,44,43,45,42,60,61]
theorem ZfW (c:UInt8) (l:List UInt8):(0≤Lib.indexByte l c)↔c∈l:=by
 induction l with
 | nil=>simp [Lib.indexByte]
 | cons b l ih=>
  unfold Lib.indexByte
  by_cases h:b=c
  ·simp [h]
  ·have hb:(b==c)=false:=by simpa using h
   have hne:¬c=b:=fun e=>h e.symm
   simp only [hb,Bool.false_eq_true,if_false,List.mem_cons,hne,false_or]
   have hg:=Lib.indexByte_ge l c
   rw [←ih]
   split
   ·rename_i h1
    have h2:Lib.indexByte l c= -1:=by simpa using h1
    constructor<;>intro h<;>omega
   ·rename_i h1
    have h2:Lib.indexByte l c≠ -1:=by simpa using h1
    constructor<;>intro h<;>omega
theorem ZjC (b z:Bool):(if b=true then some true else some z)=some (b||z):=by cases b<;>rfl
theorem u8i (c d:UInt8):decide ((c.toNat:Int)=(d.toNat:Int))=decide (c=d):=by
 have:((c.toNat:Int)=(d.toNat:Int))↔c=d:=⟨fun h=>UInt8.toNat_inj.1 (by omega),fun h=>by rw [h]⟩
 simp [this]
theorem Zc0 (s:ByteArray) (hs:s.size≤120) (a:Nat) (ha:a<s.size) (c:UInt8) (hat:at? s.data.toList (a:Int)=some c):
  ∃n:Int,XB s a=some n∧((n=2∧c=61∧a+1<s.size∧s.data.toList[a+1]? =some 61)∨(n=1∧c∈ZhR∧(c=61→s.data.toList[a+1]? ≠some 61))∨(n=0∧c∉ZhR)):=by
 have hsz:=Ze2 s hs
 have w1:IntKind.i64.wrap ((a:Int)+1)=((a+1:Nat):Int):=wS a (by omega)
 have h40:decide ((c.toNat:Int)=40)=decide (c=40):=u8i c 40
 have h41:decide ((c.toNat:Int)=41)=decide (c=41):=u8i c 41
 have h91:decide ((c.toNat:Int)=91)=decide (c=91):=u8i c 91
 have h93:decide ((c.toNat:Int)=93)=decide (c=93):=u8i c 93
 have h44:decide ((c.toNat:Int)=44)=decide (c=44):=u8i c 44
 have h43:decide ((c.toNat:Int)=43)=decide (c=43):=u8i c 43
 have h45:decide ((c.toNat:Int)=45)=decide (c=45):=u8i c 45
 have h42:decide ((c.toNat:Int)=42)=decide (c=42):=u8i c 42
 have h60:decide ((c.toNat:Int)=60)=decide (c=60):=u8i c 60
 have h61:decide ((c.toNat:Int)=61)=decide (c=61):=u8i c 61
 have hv:XB s a=if (decide (c=40)||(decide (c=41)||(decide (c=91)||(decide (c=93)||(decide (c=44)||(decide (c=43)||(decide (c=45)||(decide (c=42)||decide (c=60)))))))))=true then some 1
   else if decide (c=61)=true then (if decide (((a+1:Nat):Int)<(s.size:Int))=true then (at? s.data.toList ((a+1:Nat):Int)).bind fun x=>some (decide ((x.toNat:Int)=61)) else some false).bind fun x3=>if x3=true then some 2 else some 1
   else some 0:=by
  unfold XB
  rw [hat]
  simp only [Option.bind_some,ZjC,h40,h41,h91,h93,h44,h43,h45,h42,h60,h61,w1]
 by_cases h9:c∈[40,41,91,93,44,43,45,42,60]
 ·have e:(decide (c=40)||(decide (c=41)||(decide (c=91)||(decide (c=93)||(decide (c=44)||(decide (c=43)||(decide (c=45)||(decide (c=42)||decide (c=60)))))))))=true:=by simpa using h9
  refine ⟨1,by rw [hv,if_pos e],.inr (.inl ⟨rfl,List.mem_append_left [61] h9, ?_⟩)⟩
  rintro rfl;simp at h9
 ·have e:¬(decide (c=40)||(decide (c=41)||(decide (c=91)||(decide (c=93)||(decide (c=44)||(decide (c=43)||(decide (c=45)||(decide (c=42)||decide (c=60)))))))))=true:=by simpa using h9
  by_cases hc:c=61
  ·rw [if_neg e,if_pos (decide_eq_true hc)] at hv
   by_cases hl:a+1<s.size
   ·have hl2:a+1<s.data.toList.length:=by omega
    have hat2:at? s.data.toList ((a+1:Nat):Int)=some s.data.toList[a+1]:=XU hl2
    have hge:=List.getElem?_eq_getElem hl2
    generalize s.data.toList[a+1]=d at hat2 hge
    rw [if_pos (QA hl),hat2,Option.bind_some,show decide ((d.toNat:Int)=61)=decide (d=61) from u8i d 61,Option.bind_some] at hv
    by_cases h2:d=61
    ·exact ⟨2,by rw [hv,if_pos (decide_eq_true h2)],.inl ⟨rfl,hc,hl,by rw [hge,h2]⟩⟩
    ·exact ⟨1,by rw [hv,if_neg (by simpa using h2)],.inr (.inl ⟨rfl,by rw [hc];decide,fun _ e=>h2 (Option.some.inj (hge.symm.trans e))⟩)⟩
   ·rw [if_neg (UG (by omega)),Option.bind_some] at hv
    refine ⟨1,by rw [hv];rfl,.inr (.inl ⟨rfl,by rw [hc];decide,fun _ e=> ?_⟩)⟩
    have:=(List.getElem?_eq_some_iff.1 e).1;omega
  ·refine ⟨0,by rw [hv,if_neg e,if_neg (by simpa using hc)],.inr (.inr ⟨rfl,fun h=> ?_⟩)⟩
   rcases List.mem_append.1 (show c∈[40,41,91,93,44,43,45,42,60]++[61] from h) with h| h
   ·exact h9 h
   ·exact hc (by simpa using h)
theorem ZhP (s:ByteArray) (hs:s.size≤120) (a:Nat) (ha:a<s.size):
  (∃(t:Ze) (e:Nat),a<e∧e≤s.size∧WFt t∧∀k,2000≤k→YW k s a=some (t,((e-a:Nat):Int))∧YP k s a=some (t,(e:Int),true))∨
  (∃(t t':Ze) (e:Int),∀k,2000≤k→YW k s a=some (t,0)∧YP k s a=some (t',e,false)):=by
 have hsz:=Ze2 s hs
 have hla:a<s.data.toList.length:=by omega
 have hat:at? s.data.toList (a:Int)=some s.data.toList[a]:=XU hla
 have hget:s.data.toList[a]? =some s.data.toList[a]:=List.getElem?_eq_getElem hla
 generalize s.data.toList[a]=c at hat hget
 have hbs:∀b:Nat,a≤b→b≤s.size→IntKind.i64.wrap ((b:Int)-(a:Int))=((b-a:Nat):Int):=fun b h1 h2=>by rw [w64 (by omega) (by omega)];omega
 have w1:IntKind.i64.wrap ((a:Int)+1)=((a+1:Nat):Int):=wS a (by omega)
 cases hle:ZaB c with
 | true=>
  have hw:=Zc1 (p:=word) (l:=s.data.toList) (s.size-a) a (by omega)
  have hstep:=Uy (p:=word) hla
  have hwc:word c=true:=by unfold word;rw [hle];rfl
  have hget2:s.data.toList[a]=c:=by have:=hget;rw [List.getElem?_eq_getElem hla] at this;exact Option.some.inj this
  rw [hget2,if_pos hwc] at hstep
  have hw2:=Zc1 (p:=word) (l:=s.data.toList) (s.size-(a+1)) (a+1) (by omega)
  generalize sc word s.data.toList a=e at hw hstep
  subst hstep
  generalize he:sc word s.data.toList (a+1)=e at hw hw2
  have hc1:=U8 s hs (a:=a) (b:=e) (by omega) (by omega)
  have e1:∀k,2000≤k→YT s k a=some (e:Int)∧QR s k a=some (e:Int):=fun k hk=>by
   have h1:=sw s hs a (by omega) (show 1000<k by omega)
   have h2:=iw s hs a (by omega) (show 1000<k by omega)
   rw [Uy hla,hget2,if_pos hwc,he] at h1 h2
   exact ⟨h1,h2⟩
  obtain ⟨c',r,g1,g2⟩:=Zas s hs (a:=a) (b:=e) (by omega) (by omega)
  rw [hget] at g1;cases g1
  by_cases h8:8<e-a
  ·right
   refine ⟨⟨1,0,a,s.extract a e⟩,⟨1,0,a,s.extract a e⟩,e,fun k hk=>⟨?_, ?_⟩⟩
   ·unfold YW
    rw [hat]
    simp only [Option.bind_some,WW,hle,if_true,(e1 k hk).1,hc1,hbs e (by omega) (by omega)]
    rw [if_pos (by simp;omega)];rfl
   ·unfold YP
    rw [hat]
    simp only [Option.bind_some,Ug,hle,if_true,(e1 k hk).2,hc1,hbs e (by omega) (by omega)]
    rw [show (decide (((e-a:Nat):Int)≤8))=false by simp;omega]
  ·left
   refine ⟨⟨1,0,a,s.extract a e⟩,e,by omega,by omega,⟨fun _=>⟨c,r,g2,hle⟩,(fun h=>by simp at h),by show (0:Int)≤a;omega,Vp s hs (by omega)⟩,fun k hk=>⟨?_, ?_⟩⟩
   ·unfold YW
    rw [hat]
    simp only [Option.bind_some,WW,hle,if_true,(e1 k hk).1,hc1,hbs e (by omega) (by omega)]
    rw [if_neg (by simp;omega)]
    simp only [Option.bind_some,hbs e (by omega) (by omega)]
   ·unfold YP
    rw [hat]
    simp only [Option.bind_some,Ug,hle,if_true,(e1 k hk).2,hc1,hbs e (by omega) (by omega)]
    rw [show (decide (((e-a:Nat):Int)≤8))=true by simp;omega]
 | false=>
 cases hdi:Zbr c with
 | true=>
  have hget2:s.data.toList[a]=c:=by have:=hget;rw [List.getElem?_eq_getElem hla] at this;exact Option.some.inj this
  have hw2:=Zc1 (p:=Zbr) (l:=s.data.toList) (s.size-(a+1)) (a+1) (by omega)
  generalize he:sc Zbr s.data.toList (a+1)=e at hw2
  have hc1:=U8 s hs (a:=a) (b:=e) (by omega) (by omega)
  have e1:∀k,2000≤k→YS s k a=some (e:Int)∧QQ s k a=some (e:Int):=fun k hk=>by
   have h1:=sd s hs a (by omega) (show 1000<k by omega)
   have h2:=id_ s hs a (by omega) (show 1000<k by omega)
   rw [Uy hla,hget2,if_pos hdi,he] at h1 h2
   exact ⟨h1,h2⟩
  have hx:(s.extract a e).size≤120:=Vp s hs (by omega)
  have p1:∀k,2000≤k→XC k (s.extract a e)=some (WA (s.extract a e)):=fun k hk=>ZbK _ (by omega) (by omega)
  have p2:ZbV (s.extract a e) 0 1000000000=some (if (WA (s.extract a e)).2=true∧0≤(WA (s.extract a e)).1∧(WA (s.extract a e)).1≤1000000000 then ((WA (s.extract a e)).1,true) else (0,false)):=by
   unfold ZbV;rw [if_pos (by omega),Zc7 _ _ _ (by omega) (by omega)]
  have hpos:(WA (s.extract a e)).2=true→0≤(WA (s.extract a e)).1:=by
   intro h
   unfold WA at h ⊢
   cases hn:Zcu (s.extract a e) with
   | none=>rw [hn] at h;cases h
   | some n=>
    rw [hn] at h
    simp only at h ⊢
    by_cases hb:n.natAbs<1000000000000
    ·rw [if_pos hb]
     have hi:=JN hn
     obtain ⟨c',r,g1,g2⟩:=Zas s hs (a:=a) (b:=e) (by omega) (by omega)
     rw [hget] at g1;cases g1
     rw [KB] at hi
     by_cases hneg:n<0
     ·rw [if_pos hneg,g2] at hi
      injection hi with hi _
      subst hi
      simp [Zbr] at hdi
     ·show 0≤n;omega
    ·rw [if_neg hb] at h;cases h
  generalize WA (s.extract a e)=rv at p1 p2 hpos
  by_cases hok:rv.2=true∧rv.1≤1000000000
  ·left
   refine ⟨⟨2,rv.1,a,⟨#[]⟩⟩,e,by omega,by omega,⟨(fun h=>by simp at h),(fun h=>by simp at h),by show (0:Int)≤a;omega,by show (0:Nat)≤120;omega⟩,fun k hk=>⟨?_, ?_⟩⟩
   ·unfold YW
    rw [hat]
    simp only [Option.bind_some,WW,hle,Vx,hdi,Bool.false_eq_true,if_false,if_true,(e1 k hk).1,hc1,p1 k hk,hok.1,Bool.not_true]
    rw [show (decide (1000000000<rv.1))=false by simp;omega]
    simp only [Option.bind_some,Bool.false_eq_true,if_false,hbs e (by omega) (by omega)]
   ·unfold YP
    rw [hat]
    simp only [Option.bind_some,Ug,hle,Ui,hdi,Bool.false_eq_true,if_false,if_true,(e1 k hk).2,hc1,p2]
    rw [if_pos ⟨hok.1,hpos hok.1,hok.2⟩]
  ·right
   refine ⟨⟨2,rv.1,a,⟨#[]⟩⟩,⟨2,0,a,⟨#[]⟩⟩,e,fun k hk=>⟨?_, ?_⟩⟩
   ·unfold YW
    rw [hat]
    have hb:(if (!rv.2)=true then some true else some (decide (1000000000<rv.1)))=some true:=by
     cases h2:rv.2 with
     | false=>rfl
     | true=>simp [h2] at hok ⊢;omega
    simp only [Option.bind_some,WW,hle,Vx,hdi,Bool.false_eq_true,if_false,if_true,(e1 k hk).1,hc1,p1 k hk,hb]
   ·unfold YP
    rw [hat]
    simp only [Option.bind_some,Ug,hle,Ui,hdi,Bool.false_eq_true,if_false,if_true,(e1 k hk).2,hc1,p2]
    rw [if_neg (fun h=>hok ⟨h.1,h.2.2⟩)]
 | false=>
 by_cases h34:(c.toNat:Int)=34
 ·have hw2:=Zc1 (p:=noQ) (l:=s.data.toList) (s.size-(a+1)) (a+1) (by omega)
  have hix:=ZcA s.data.toList (s.size-(a+1)) (a+1) (by omega)
  generalize he:sc noQ s.data.toList (a+1)=e at hw2 hix
  have e1:∀k,2000≤k→YR s k ((a+1:Nat):Int)=some (e:Int):=fun k hk=>by
   have h1:=sq s hs (a+1) (by omega) (show 1000<k by omega)
   rw [he] at h1;exact h1
  have hc1:=U8 s hs (a:=a+1) (b:=e) (by omega) (by omega)
  have hc2:=U8 s hs (a:=a+1) (b:=s.size) (by omega) (by omega)
  have hi2:Z7 (s.extract (a+1) s.size) 34=some (if e<s.size then ((e-(a+1):Nat):Int) else-1):=by
   unfold Z7
   rw [Jn s hs,List.take_of_length_le (by simp<;>omega)]
   rw [show (34:Int).toNat.toUInt8=34 from rfl,hix,hsz]
  have vt:=fun k (hk:2000≤k)=>ZaG (s.extract (a+1) e) (by have:=Vp s hs (a:=a+1) (b:=e) (by omega);omega) (show (s.extract (a+1) e).size<k by have:=Vp s hs (a:=a+1) (b:=e) (by omega);omega)
  generalize (!((s.extract (a+1) e).data.toList.any Wc)&&decide (((s.extract (a+1) e).size:Int)≤20))=tv at vt
  have l0:ZaB c=false:=hle
  by_cases hes:e<s.size
  ·rw [if_pos hes] at hi2
   have hw3:IntKind.i64.wrap (IntKind.i64.wrap ((a:Int)+1)+((e-(a+1):Nat):Int))=(e:Int):=by rw [w1,w64 (by omega) (by omega)];omega
   have hw4:IntKind.i64.wrap (IntKind.i64.wrap ((a:Int)+((e-(a+1):Nat):Int))+2)=((e+1:Nat):Int):=by rw [w64 (n:=(a:Int)+((e-(a+1):Nat):Int)) (by omega) (by omega),w64 (by omega) (by omega)];omega
   have hi:∀k,2000≤k→YP k s a=some (⟨3,0,a,s.extract (a+1) e⟩,((e+1:Nat):Int),tv):=by
    intro k hk
    unfold YP
    rw [hat]
    simp only [Option.bind_some,Ug,hle,Ui,hdi,Bool.false_eq_true,if_false,h34,decide_true,if_true,w1,hc2,hi2]
    rw [if_neg (by simp)]
    rw [←w1,hw3,w1,hc1]
    simp only [Option.bind_some,(vt k hk).2,hw4]
   cases tv with
   | true=>
    left
    refine ⟨⟨3,0,a,s.extract (a+1) e⟩,e+1,by omega,by omega,⟨(fun h=>by simp at h),(fun h=>by simp at h),by show (0:Int)≤a;omega,Vp s hs (by omega)⟩,fun k hk=>⟨?_,hi k hk⟩⟩
    unfold YW
    rw [hat]
    simp only [Option.bind_some,WW,hle,Vx,hdi,Bool.false_eq_true,if_false,h34,decide_true,if_true,w1,e1 k hk,hc1,(vt k hk).1]
    rw [show (decide ((e:Int)=(s.size:Int)))=false by simp;omega]
    simp only [Bool.false_eq_true,if_false,Option.bind_some,Bool.not_true,wS e (by omega),hbs (e+1) (by omega) (by omega)]
   | false=>
    right
    refine ⟨⟨3,0,a,s.extract (a+1) e⟩,_,_,fun k hk=>⟨?_,hi k hk⟩⟩
    unfold YW
    rw [hat]
    simp only [Option.bind_some,WW,hle,Vx,hdi,Bool.false_eq_true,if_false,h34,decide_true,if_true,w1,e1 k hk,hc1,(vt k hk).1]
    rw [show (decide ((e:Int)=(s.size:Int)))=false by simp;omega]
    simp only [Bool.false_eq_true,if_false,Option.bind_some,Bool.not_false,if_true]
  ·rw [if_neg hes] at hi2
   right
   refine ⟨⟨3,0,a,s.extract (a+1) e⟩,⟨0,0,0,⟨#[]⟩⟩,0,fun k hk=>⟨?_, ?_⟩⟩
   ·unfold YW
    rw [hat]
    simp only [Option.bind_some,WW,hle,Vx,hdi,Bool.false_eq_true,if_false,h34,decide_true,if_true,w1,e1 k hk,hc1]
    rw [show (decide ((e:Int)=(s.size:Int)))=true by simp;omega]
    simp only [if_true,Option.bind_some]
   ·unfold YP
    rw [hat]
    simp only [Option.bind_some,Ug,hle,Ui,hdi,Bool.false_eq_true,if_false,h34,decide_true,if_true,w1,hc2,hi2]
    rfl
 ·have hn34:¬((c.toNat:Int)=34):=h34
  have hget2:s.data.toList[a]=c:=by have:=hget;rw [List.getElem?_eq_getElem hla] at this;exact Option.some.inj this
  have hlist:(s.extract a s.size).data.toList=c::s.data.toList.drop (a+1):=by
   rw [Jn s hs,List.take_of_length_le (by simp<;>omega),List.drop_eq_getElem_cons hla,hget2]
  have hc0:=U8 s hs (a:=a) (b:=s.size) (by omega) (by omega)
  have hc1:=U8 s hs (a:=a) (b:=a+1) (by omega) (by omega)
  have hix:Z7 (⟨#[40,41,91,93,44,43,45,42,60,61]⟩:ByteArray) (c.toNat:Int)=some (Lib.indexByte ZhR c):=by
   unfold Z7
   congr 2
   simp
  obtain ⟨n,hn,hcase⟩:=Zc0 s hs a ha c hat
  rcases hcase with ⟨rfl,rfl,h2,h3⟩| ⟨rfl,hmem,hno⟩| ⟨rfl,hmem⟩
  ·
   have hc2:=U8 s hs (a:=a) (b:=a+2) (by omega) (by omega)
   have he2:s.extract a (a+2)=⟨#[61,61]⟩:=by
    apply ByteArray.ext
    apply Array.toList_inj.1
    have hl1:a+1<s.data.toList.length:=by omega
    have hg1:s.data.toList[a+1]=61:=by rw [List.getElem?_eq_getElem hl1] at h3;exact Option.some.inj h3
    rw [Jn s hs,List.drop_eq_getElem_cons hla,hget2,List.drop_eq_getElem_cons hl1,hg1,show a+2-a=2 by omega]
    rfl
   have hpre:Z8 (s.extract a s.size) (⟨#[61,61]⟩:ByteArray)=some true:=by
    unfold Z8 Lib.hasPrefix
    have hl1:a+1<s.data.toList.length:=by omega
    have hg1:s.data.toList[a+1]=61:=by rw [List.getElem?_eq_getElem hl1] at h3;exact Option.some.inj h3
    rw [hlist,List.drop_eq_getElem_cons hl1,hg1]
    simp
   left
   refine ⟨⟨4,0,a,⟨#[61,61]⟩⟩,a+2,by omega,by omega,⟨(fun h=>by simp at h),fun _=>⟨61,[61],rfl,by decide⟩,by show (0:Int)≤a;omega,by show (2:Nat)≤120;omega⟩,fun k hk=>⟨?_, ?_⟩⟩
   ·unfold YW
    rw [hat]
    simp only [Option.bind_some,WW,hle,Vx,hdi,Bool.false_eq_true,if_false,hn34,decide_false,hn]
    rw [show IntKind.i64.wrap ((a:Int)+2)=((a+2:Nat):Int) by rw [w64 (by omega) (by omega)];rfl,hc2,he2]
    simp only [Option.bind_some,hbs (a+2) (by omega) (by omega)]
   ·unfold YP
    rw [hat]
    simp only [Option.bind_some,Ug,hle,Ui,hdi,Bool.false_eq_true,if_false,hn34,decide_false,hc0,hpre,if_true]
    rw [show IntKind.i64.wrap ((a:Int)+2)=((a+2:Nat):Int) by rw [w64 (by omega) (by omega)];rfl]
  ·
   have hpre:Z8 (s.extract a s.size) (⟨#[61,61]⟩:ByteArray)=some false:=by
    unfold Z8 Lib.hasPrefix
    rw [hlist]
    congr 1
    by_cases hc61:c=61
    ·subst hc61
     by_cases hl1:a+1<s.data.toList.length
     ·rw [List.drop_eq_getElem_cons hl1]
      have:s.data.toList[a+1]≠61:=fun e=>hno rfl (by rw [List.getElem?_eq_getElem hl1,e])
      simp [List.isPrefixOf]
      intro e;exact this (by simpa using e.symm)
     ·rw [List.drop_eq_nil_of_le (by omega)];simp
    ·simp [List.isPrefixOf,Ne.symm hc61]
   left
   obtain ⟨c',r,g1,g2⟩:=Zas s hs (a:=a) (b:=a+1) (by omega) (by omega)
   rw [hget] at g1;cases g1
   refine ⟨⟨4,0,a,s.extract a (a+1)⟩,a+1,by omega,by omega,⟨(fun h=>by simp at h),fun _=>⟨c,r,g2,hle⟩,by show (0:Int)≤a;omega,Vp s hs (by omega)⟩,fun k hk=>⟨?_, ?_⟩⟩
   ·unfold YW
    rw [hat]
    simp only [Option.bind_some,WW,hle,Vx,hdi,Bool.false_eq_true,if_false,hn34,decide_false,hn]
    rw [w1,hc1]
    simp only [Option.bind_some,hbs (a+1) (by omega) (by omega)]
   ·unfold YP
    rw [hat]
    simp only [Option.bind_some,Ug,hle,Ui,hdi,Bool.false_eq_true,if_false,hn34,decide_false,hc0,hpre,w1,hc1,hix]
    rw [decide_eq_true ((ZfW c ZhR).2 hmem)]
  ·right
   have hpre:∃b,Z8 (s.extract a s.size) (⟨#[61,61]⟩:ByteArray)=some b∧b=false:=by
    refine ⟨_,rfl, ?_⟩
    unfold Lib.hasPrefix
    rw [hlist]
    have:c≠61:=fun e=>hmem (by rw [e];decide)
    simp [List.isPrefixOf,Ne.symm this]
   obtain ⟨b,hpre,rfl⟩:=hpre
   have hc00:=U8 s hs (a:=a) (b:=a) (by omega) (by omega)
   refine ⟨⟨4,0,a,s.extract a a⟩,⟨4,0,a,s.extract a (a+1)⟩,((a+1:Nat):Int),fun k hk=>⟨?_, ?_⟩⟩
   ·unfold YW
    rw [hat]
    simp only [Option.bind_some,WW,hle,Vx,hdi,Bool.false_eq_true,if_false,hn34,decide_false,hn]
    rw [show IntKind.i64.wrap ((a:Int)+0)=(a:Int) by rw [w64 (by omega) (by omega)];omega,hc00]
    simp only [Option.bind_some,hbs a (by omega) (by omega),Nat.sub_self]
    rfl
   ·unfold YP
    rw [hat]
    simp only [Option.bind_some,Ug,hle,Ui,hdi,Bool.false_eq_true,if_false,hn34,decide_false,hc0,hpre,w1,hc1,hix]
    rw [decide_eq_false (fun h=>hmem ((ZfW c ZhR).1 h))]
end Go.Proofs.Ytneeinggggadpaa
namespace Go.Proofs.Ytneeinggggadpaa
open Go.RowKit Am
theorem ZdQ (s:ByteArray) (hs:s.size≤120):∀(m a:Nat) (out:List Ze),a≤s.size→s.size-a≤m→out.length≤60→(∀t∈out,WFt t)→
  ∃r,(∀k n,2000≤k→m<n→ZA k s n out a=some r∧ZQ k s n out a=some r)∧(∀o,r= .inl o→o.length≤60∧∀t∈o,WFt t)∧∀z,r= .inr z→0≤z.2:=by
 have hsz:=Ze2 s hs
 have stop:∀(m a:Nat) (out:List Ze),s.size≤a→out.length≤60→(∀t∈out,WFt t)→
   ∃r,(∀k n,2000≤k→m<n→ZA k s n out a=some r∧ZQ k s n out a=some r)∧(∀o,r= .inl o→o.length≤60∧∀t∈o,WFt t)∧∀z,r= .inr z→0≤z.2:=by
  intro m a out ha hl hw
  refine ⟨.inl out,fun k n hk hn=> ?_,(fun o e=>by cases e;exact ⟨hl,hw⟩),fun z e=>by cases e⟩
  obtain ⟨n,rfl⟩:∃n',n=n'+1:=⟨n-1,by omega⟩
  exact ⟨by rw [ZA,if_neg (UG (by omega))],by rw [ZQ,if_neg (UG (by omega))]⟩
 intro m
 induction m with
 | zero=>intro a out ha hm hl hw;exact stop 0 a out (by omega) hl hw
 | succ m ih=>
  intro a out ha hm hl hw
  by_cases hlt:a<s.size
  ·have hla:a<s.data.toList.length:=by omega
   have hat:at? s.data.toList (a:Int)=some s.data.toList[a]:=XU hla
   generalize s.data.toList[a]=c at hat
   by_cases h32:(c.toNat:Int)=32
   ·obtain ⟨r,r1,r2,r3⟩:=ih (a+1) out (by omega) (by omega) hl hw
    refine ⟨r,fun k n hk hn=> ?_,r2,r3⟩
    obtain ⟨n,rfl⟩:∃n',n=n'+1:=⟨n-1,by omega⟩
    rw [ZA,ZQ,if_pos (QA hlt),if_pos (QA hlt),hat]
    simp only [Option.bind_some]
    rw [if_pos (decide_eq_true h32),if_pos (decide_eq_true h32),wS a (by omega)]
    exact r1 k n hk (by omega)
   ·have start:∀k n,ZA k s (n+1) out a=((YW k s a).bind fun x5=>(if (decide (x5.2=0))=true then some true else some (decide ((out.length:Int)=60))).bind fun x6=>if x6=true then some (.inr (([]:List Ze),(a:Int))) else (Xm 40 out [x5.1]).bind fun x7=>ZA k s n x7 (IntKind.i64.wrap ((a:Int)+x5.2)))∧
      ZQ k s (n+1) out a=((YP k s a).bind fun x5=>(if (!x5.2.2)=true then some true else some (decide ((out.length:Int)=60))).bind fun x6=>if x6=true then some (.inr (([]:List Ze),(a:Int))) else (Xm 40 out [x5.1]).bind fun x7=>ZQ k s n x7 x5.2.1):=by
     intro k n
     rw [ZA,ZQ,if_pos (QA hlt),if_pos (QA hlt),hat]
     simp only [Option.bind_some]
     rw [if_neg (by simpa using h32),if_neg (by simpa using h32)]
     exact ⟨rfl,rfl⟩
    rcases ZhP s hs a hlt with ⟨t,e,h1,h2,h3,h4⟩| ⟨t,t',e,h4⟩
    ·by_cases h60:out.length=60
     ·refine ⟨.inr ([],a),fun k n hk hn=> ?_,(fun o e=>by cases e),fun z e=>by cases e;show (0:Int)≤a;omega⟩
      obtain ⟨n,rfl⟩:∃n',n=n'+1:=⟨n-1,by omega⟩
      obtain ⟨q1,q2⟩:=h4 k hk
      rw [(start k n).1,(start k n).2,q1,q2]
      have hd:decide ((out.length:Int)=60)=true:=by simp;omega
      simp [hd]
     ·obtain ⟨r,r1,r2,r3⟩:=ih e (out++[t]) h2 (by omega) (by simp;omega) (fun t' ht=>by
       rcases List.mem_append.1 ht with ht| ht
       ·exact hw t' ht
       ·simp at ht;rw [ht];exact h3)
      refine ⟨r,fun k n hk hn=> ?_,r2,r3⟩
      obtain ⟨n,rfl⟩:∃n',n=n'+1:=⟨n-1,by omega⟩
      obtain ⟨q1,q2⟩:=h4 k hk
      have hd:decide ((out.length:Int)=60)=false:=by simp;omega
      have hd2:decide ((((e-a:Nat):Int))=0)=false:=by simp;omega
      rw [(start k n).1,(start k n).2,q1,q2]
      simp only [Option.bind_some,Bool.not_true,Bool.false_eq_true,if_false,hd,hd2]
      rw [J9 (by simp;omega) (by omega)]
      simp only [Option.bind_some]
      rw [show IntKind.i64.wrap ((a:Int)+((e-a:Nat):Int))=(e:Int) by rw [w64 (by omega) (by omega)];omega]
      exact r1 k n hk (by omega)
    ·refine ⟨.inr ([],a),fun k n hk hn=> ?_,(fun o e=>by cases e),fun z e=>by cases e;show (0:Int)≤a;omega⟩
     obtain ⟨n,rfl⟩:∃n',n=n'+1:=⟨n-1,by omega⟩
     obtain ⟨q1,q2⟩:=h4 k hk
     rw [(start k n).1,(start k n).2,q1,q2]
     simp
  ·exact stop _ a out (by omega) hl hw
theorem Zby (s:ByteArray):∃(T:List Ze) (b:Int),(b<0→b= -1∧s.size≤120∧Ja T s.size)∧∀k,2000≤k→Q4 k s=some (T,b)∧Wk k s=some (T,b):=by
 by_cases hs:s.size≤120
 ·obtain ⟨r,h1,h2,h3⟩:=ZdQ s hs s.size 0 [] (by omega) (by omega) (by simp) (by simp)
  cases r with
  | inl T=>
   obtain ⟨g1,g2⟩:=h2 T rfl
   refine ⟨T, -1,fun _=>⟨rfl,hs,⟨fun t ht=>(g2 t ht).nm,fun t ht=>(g2 t ht).sy,fun t ht=>(g2 t ht).at_,fun t ht=>(g2 t ht).tx,by omega,g1⟩⟩,fun k hk=> ?_⟩
   obtain ⟨q1,q2⟩:=h1 k k hk (by omega)
   have q1:ZA k s k [] 0=some (.inl T):=q1
   have q2:ZQ k s k [] 0=some (.inl T):=q2
   constructor
   ·unfold Q4;rw [if_neg (by simp;omega),q1];rfl
   ·unfold Wk;rw [if_neg (by simp;omega),q2];rfl
  | inr z=>
   refine ⟨z.1,z.2,fun h=>absurd h (by have:=h3 z rfl;omega),fun k hk=> ?_⟩
   obtain ⟨q1,q2⟩:=h1 k k hk (by omega)
   have q1:ZA k s k [] 0=some (.inr z):=q1
   have q2:ZQ k s k [] 0=some (.inr z):=q2
   constructor
   ·unfold Q4;rw [if_neg (by simp;omega),q1];rfl
   ·unfold Wk;rw [if_neg (by simp;omega),q2];rfl
 ·refine ⟨[],120,fun h=>absurd h (by decide),fun k hk=>⟨?_, ?_⟩⟩
  ·unfold Q4;rw [if_pos (decide_eq_true (by omega))]
  ·unfold Wk;rw [if_pos (decide_eq_true (by omega))]
def zX:Za:=⟨0,0,⟨#[]⟩,[]⟩
theorem ZeW:zX.bk=0:=by rw [zX,Zbb];rfl
theorem Zfc (s:ByteArray):∃r:Za×Int,r.1.bk≤12000∧(-1≤r.2)∧Ev fun k=>Ql k s=some r∧XN k s=some r:=by
 obtain ⟨T,b,h1,h2⟩:=Zby s
 by_cases hb:0≤b
 ·refine ⟨(zX,b),by rw [ZeW];omega,by show -1≤b;omega,2000,fun k hk=>⟨?_, ?_⟩⟩
  ·unfold Ql;rw [(h2 k hk).1];simp only [Option.bind_some];rw [if_pos (decide_eq_true hb)];rfl
  ·unfold XN;rw [(h2 k hk).2];simp only [Option.bind_some];rw [if_pos (decide_eq_true hb)];rfl
 obtain ⟨rfl,hs,ok⟩:=h1 (by omega)
 obtain ⟨es,ei,x',p',o',r1,g1,B,e1⟩:=ZiF ok T.length ⟨T,0,s.size, -1⟩ ⟨T,0, -1⟩ (some 0) ⟨by omega,rfl,rfl⟩ (fun j e=>by cases e;omega)
 have hlen:=ok.len
 have sS:∀k,2000≤k→B≤k→Ql k s=((if (decide (x'.bad<0))=true then some (decide (x'.i<(T.length:Int))) else some false).bind fun x7=>if x7=true then (Z6 x').bind fun x8=>some (x8.2.toks,x8.2.i,x8.2.end_,x8.2.bad) else some (x'.toks,x'.i,x'.end_,x'.bad)).bind fun (x3,x4,x5,x6)=>if (decide (0≤x6))=true then some (zX,x6) else (ZJ k es).bind fun x9=>if (!x9)=true then some (zX,0) else some (es, -1):=by
  intro k hk hB
  have q:=(e1 k hB).1
  dsimp only at q
  unfold Ql
  rw [(h2 k hk).1]
  simp only [Option.bind_some]
  rw [if_neg (by simp),q]
  rfl
 have iS:∀k,2000≤k→B≤k→XN k s=((if (decide (p'.bad<0))=true then some (decide (p'.at_<(T.length:Int))) else some false).bind fun x4=>if x4=true then some p'.at_ else some p'.bad).bind fun x3=>if (decide ((T.length:Int)≤x3))=true then some (zX,(s.size:Int)) else if (decide (0≤x3))=true then (at? T x3).bind fun x5=>some (zX,x5.at_) else (ZR k ei).bind fun x6=>if (!x6)=true then some (zX,0) else some (ei, -1):=by
  intro k hk hB
  have q:=(e1 k hB).2
  dsimp only at q
  unfold XN
  rw [(h2 k hk).2]
  simp only [Option.bind_some]
  rw [if_neg (by simp),q]
  rfl
 cases o' with
 | none=>
  obtain ⟨c,c0,c1,c2,c3,c4,c5⟩:=r1
  have hp:=Zct ok c
  refine ⟨(zX,ZeR T s.size c),by rw [ZeW];omega,by show -1≤ZeR T s.size c;omega,max 2000 B,fun k hk=>⟨?_, ?_⟩⟩
  ·rw [sS k (by omega) (by omega),c5]
   simp [show ¬ZeR T s.size c<0 by omega,hp]
  ·rw [iS k (by omega) (by omega),c4]
   simp only [show ¬((c:Int)<0) by omega,decide_false,Bool.false_eq_true,if_false,Option.bind_some]
   by_cases hc:c<T.length
   ·rw [if_neg (by simp;omega),if_pos (decide_eq_true (by omega)),XU hc]
    simp only [Option.bind_some,ZeR,List.getElem?_eq_getElem hc]
   ·rw [if_pos (decide_eq_true (by omega))]
    simp only [ZeR,List.getElem?_eq_none (show T.length≤c by omega)]
 | some j=>
  obtain ⟨c0,rfl,rfl⟩:=r1
  obtain ⟨rfl,j0,hj0,hj1,hj2⟩:=g1 j rfl
  cases hj0
  by_cases hj:j<T.length
  ·have hat:at? T (j:Int)=some T[j]:=XU hj
   have hpos:=ok.at_ T[j] (List.getElem_mem hj)
   have f1:Z6 ⟨T,j,s.size, -1⟩=some (zE,⟨T,j,s.size,T[j].at_⟩):=by
    unfold Z6
    simp [QA hj,hat,zE,hj]
   refine ⟨(zX,T[j].at_),by rw [ZeW];omega,by show -1≤T[j].at_;omega,max 2000 B,fun k hk=>⟨?_, ?_⟩⟩
   ·rw [sS k (by omega) (by omega)]
    simp only [show ((-1:Int)<0) by decide,decide_true,if_true,QA hj,Option.bind_some,f1]
    rw [if_pos (decide_eq_true hpos)]
   ·rw [iS k (by omega) (by omega)]
    simp only [show ((-1:Int)<0) by decide,decide_true,if_true,QA hj,Option.bind_some]
    rw [if_neg (by simp;omega),if_pos (decide_eq_true (by omega)),hat]
    rfl
  ·obtain ⟨v,B2,hv⟩:=ZaH es (by omega)
   have hno:decide ((j:Int)<(T.length:Int))=false:=by simp;omega
   have h9:∀k,max 2000 (max B B2)≤k→Ql k s=some (if v=true then (es, -1) else (zX,0))∧XN k s=some (if v=true then (es, -1) else (zX,0)):=by
    intro k hk
    obtain ⟨v1,v2⟩:=hv k (by omega)
    constructor
    ·rw [sS k (by omega) (by omega)]
     simp only [show ((-1:Int)<0) by decide,decide_true,if_true,hno,Option.bind_some,Bool.false_eq_true,if_false]
     rw [if_neg (by simp),v1]
     cases v<;>rfl
    ·rw [iS k (by omega) (by omega)]
     simp only [show ((-1:Int)<0) by decide,decide_true,if_true,hno,Option.bind_some,Bool.false_eq_true,if_false]
     rw [if_neg (by simp;omega),if_neg (by simp),v2]
     cases v<;>rfl
   refine ⟨_, ?_, ?_,_,h9⟩
   ·split
    ·show es.bk≤12000;omega
    ·rw [ZeW];omega
   ·split
    ·exact Int.le_refl _
    ·show (-1:Int)≤0;decide
end Go.Proofs.Ytneeinggggadpaa
