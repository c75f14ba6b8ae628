import Derived.Test.YtfapaeabfcogkaaGreatDoorPkC
import Derived.Test.YtfapaeabfcogkaaGreatDoorJ6
import Derived.Test.YtfapaeabfcogkaaGreatDoorJ7
import Derived.Test.YtfapaeabfcogkaaGreatDoorJ8
import Derived.Lib.ItoaLen
set_option linter.unusedSimpArgs false
set_option linter.unusedVariables false
namespace Go.Proofs.YtfapaeabfcogkaaGreatDoor
open Go.RowKit Am
theorem Qy (s:ByteArray):s.data.toList.length=s.size:=by simp
theorem Zdo (a lo hi:Int):KH a lo hi=some (decide (lo≤a)&&decide (a≤hi)):=by
 unfold KH
 cases decide (lo≤a)<;>simp
theorem JK (a lo hi:Int):XV a lo hi=some (decide (lo≤a)&&decide (a≤hi)):=by
 unfold XV
 cases decide (lo≤a)<;>simp
end Go.Proofs.YtfapaeabfcogkaaGreatDoor
namespace Go.Proofs.YtfapaeabfcogkaaGreatDoor
open Go.RowKit Am
def Zhv (c:UInt8):Bool:=decide (97≤(c.toNat:Int))&&decide ((c.toNat:Int)≤122)
def ZiP (c:UInt8):Bool:=decide (48≤(c.toNat:Int))&&decide ((c.toNat:Int)≤57)
def Zft (i:Nat) (c:UInt8):Bool:=!Zhv c&&(decide (i=0)||!ZiP c)
theorem Znu (s:ByteArray) (hs:(s.size:Int)≤9223372036854775807) {k:Nat} (hk:s.size<k):Zav k s=some (!(anyI Zft 0 s.data.toList)&&decide (0<(s.size:Int))):=by
 unfold Zav
 rw [Uw s.data.toList Zft (fun i c=>(if (decide (97≤(c.toNat:Int)))=true then some (decide ((c.toNat:Int)≤122)) else some false:Option Bool).bind fun x2=>(if (decide (48≤(c.toNat:Int)))=true then some (decide ((c.toNat:Int)≤57)) else some false:Option Bool).bind fun x4=>
     (if (!x2)=true then if (decide (i=0))=true then some true else some (!x4) else some false:Option Bool)) false () (Xs s) (fun j hj=> ?_) (fun n i=> ?_) (by rw [Qy];exact hs) (by rw [Qy];exact hk)]
 ·cases anyI Zft 0 s.data.toList<;>simp
 ·unfold Zft Zhv ZiP
  cases decide (97≤((s.data.toList[j]).toNat:Int))<;>cases decide (((s.data.toList[j]).toNat:Int)≤122)<;>cases decide (48≤((s.data.toList[j]).toNat:Int))<;>by_cases h0:j=0<;>simp [h0]
 ·rw [Xs,Qy]
  cases at? s.data.toList i with
  | none=>rfl
  | some c=>simp only [Option.bind_some,Option.bind_assoc]
theorem ZoX (s:ByteArray) (hs:(s.size:Int)≤9223372036854775807) {k:Nat} (hk:s.size<k):ZcS k s=some (!(anyI Zft 0 s.data.toList)&&(decide (1≤(s.size:Int))&&decide ((s.size:Int)≤8))):=by
 unfold ZcS
 rw [Uw s.data.toList Zft (fun i c=>(if (decide (97≤(c.toNat:Int)))=true then some (decide ((c.toNat:Int)≤122)) else some false:Option Bool).bind fun x2=>
     (if (!x2)=true then if (decide (i=0))=true then some true else (if (decide ((c.toNat:Int)<48))=true then some true else some (decide (57<(c.toNat:Int)))) else some false:Option Bool)) false () (Wg s) (fun j hj=> ?_) (fun n i=> ?_) (by rw [Qy];exact hs) (by rw [Qy];exact hk)]
 ·rw [JK]
  cases anyI Zft 0 s.data.toList<;>simp
 ·unfold Zft Zhv ZiP
  obtain ⟨c,hc⟩:∃c,c=s.data.toList[j]:=⟨_,rfl⟩
  rw [←hc]
  by_cases h0:j=0
  ·cases decide (97≤(c.toNat:Int))<;>cases decide ((c.toNat:Int)≤122)<;>simp [h0]
  ·by_cases h1:(c.toNat:Int)<48
   ·have h2:¬(48≤(c.toNat:Int)):=by omega
    cases decide (97≤(c.toNat:Int))<;>cases decide ((c.toNat:Int)≤122)<;>simp [h0,h1,h2]
   ·have h2:48≤(c.toNat:Int):=by omega
    by_cases h3:(c.toNat:Int)≤57
    ·have h4:¬(57<(c.toNat:Int)):=by omega
     cases decide (97≤(c.toNat:Int))<;>cases decide ((c.toNat:Int)≤122)<;>simp [h0,h1,h2,h3,h4]
    ·have h4:57<(c.toNat:Int):=by omega
     cases decide (97≤(c.toNat:Int))<;>cases decide ((c.toNat:Int)≤122)<;>simp [h0,h1,h2,h3,h4]
 ·rw [Wg,Qy]
  cases at? s.data.toList i with
  | none=>rfl
  | some c=>simp only [Option.bind_some,Option.bind_assoc]
def Xb:List ByteArray:=(QM).getD []
theorem Zi9:QM=some Xb:=rfl
theorem Zk1 (a:ByteArray) {k:Nat} (hk:24<k):VZ k a=some (Xb.any fun x=>decide (x=a)):=by
 unfold VZ
 rw [Zi9,Option.bind_some]
 unfold Zaw
 rw [Xh Xb (fun x=>decide (x=a)) (fun x=>some (decide (x=a))) true () (XL Xb a) (fun _ _=>rfl) (fun n i=>by rw [XL];rfl) (by decide) (show Xb.length<k from hk)]
 cases Xb.any fun x=>decide (x=a)<;>rfl
theorem Zli (a:ByteArray):V4 a=some (Xb.any fun x=>decide (x=a)):=by
 by_cases h:a∈Xb
 ·have hb:(Xb.any fun x=>decide (x=a))=true:=List.any_eq_true.2 ⟨a,h,by simp⟩
  rw [hb]
  simp only [Xb,QM,Option.getD_some,List.mem_cons,List.not_mem_nil,or_false] at h
  rcases h with rfl| rfl| rfl| rfl| rfl| rfl| rfl| rfl| rfl| rfl| rfl| rfl| rfl| rfl| rfl| rfl| rfl| rfl| rfl| rfl| rfl| rfl| rfl| rfl<;>rfl
 ·have hb:(Xb.any fun x=>decide (x=a))=false:=by
   rw [List.any_eq_false];intro x hx;simp;rintro rfl;exact h hx
  rw [hb]
  simp only [Xb,QM,Option.getD_some,List.mem_cons,List.not_mem_nil,or_false,not_or] at h
  obtain ⟨h1,h2,h3,h4,h5,h6,h7,h8,h9,h10,h11,h12,h13,h14,h15,h16,h17,h18,h19,h20,h21,h22,h23,h24⟩:=h
  unfold V4 ZM
  simp [h1,h2,h3,h4,h5,h6,h7,h8,h9,h10,h11,h12,h13,h14,h15,h16,h17,h18,h19,h20,h21,h22,h23,h24]
theorem Zc4 (a:ByteArray):∃z,ZM a=some z:=by
 by_cases h:a∈Xb
 ·simp only [Xb,QM,Option.getD_some,List.mem_cons,List.not_mem_nil,or_false] at h
  rcases h with rfl| rfl| rfl| rfl| rfl| rfl| rfl| rfl| rfl| rfl| rfl| rfl| rfl| rfl| rfl| rfl| rfl| rfl| rfl| rfl| rfl| rfl| rfl| rfl<;>exact ⟨_,rfl⟩
 ·simp only [Xb,QM,Option.getD_some,List.mem_cons,List.not_mem_nil,or_false,not_or] at h
  obtain ⟨h1,h2,h3,h4,h5,h6,h7,h8,h9,h10,h11,h12,h13,h14,h15,h16,h17,h18,h19,h20,h21,h22,h23,h24⟩:=h
  unfold ZM
  simp [h1,h2,h3,h4,h5,h6,h7,h8,h9,h10,h11,h12,h13,h14,h15,h16,h17,h18,h19,h20,h21,h22,h23,h24]
def WN (s:ByteArray):Bool:=!(anyI Zft 0 s.data.toList)&&decide (0<(s.size:Int))&&decide ((s.size:Int)≤8)&&!(Xb.any fun x=>decide (x=s))
theorem UE (s:ByteArray) (hs:(s.size:Int)≤9223372036854775807) {k:Nat} (hk:s.size<k) (hk2:24<k):Z0 k s=some (WN s)∧Z2 k s=some (WN s):=by
 constructor
 ·unfold Z0 WN
  rw [Znu s hs hk,Zk1 s hk2]
  cases anyI Zft 0 s.data.toList<;>cases decide (0<(s.size:Int))<;>cases decide ((s.size:Int)≤8)<;>simp
 ·unfold Z2 WN
  rw [ZoX s hs hk,Zli s]
  have e:decide (1≤(s.size:Int))=decide (0<(s.size:Int)):=by rw [decide_eq_decide];omega
  rw [e]
  cases anyI Zft 0 s.data.toList<;>cases decide (0<(s.size:Int))<;>cases decide ((s.size:Int)≤8)<;>simp
end Go.Proofs.YtfapaeabfcogkaaGreatDoor
namespace Go.Proofs.YtfapaeabfcogkaaGreatDoor
open Go.RowKit Am
def Ev2 (p:Nat→Nat→Prop):Prop:=∃B,∀k n,B≤k→B≤n→p k n
theorem Ev2.of {p:Nat→Nat→Prop} (h:∀k n,p k (n+1)):Ev2 p:=⟨1,fun k n _ hn=>by cases n with | zero=>omega| succ n=>exact h k n⟩
structure Zd9 (T:List Zi) (E:Int):Prop where
 nm:∀t∈T,t.kind=1→∃c r,t.text.data.toList=c::r∧Zhv c=true
 sy:∀t∈T,t.kind=4→∃c r,t.text.data.toList=c::r∧Zhv c=false
 at_:∀t∈T,0≤t.at_
 tx:∀t∈T,t.text.size≤120
 en:0≤E
 len:T.length≤60
def Znf (T:List Zi) (E:Int) (b:Nat):Int:=match T[b]? with
 | some t=>t.at_
 | none=>E
theorem Zj7 {T:List Zi} {E:Int} (ok:Zd9 T E) (b:Nat):0≤Znf T E b:=by
 unfold Znf
 split
 ·rename_i t h;exact ok.at_ t (List.mem_of_getElem? h)
 ·exact ok.en
def Rl (T:List Zi) (E:Int) (x:Zd) (p:Zf):Option Nat→Prop
 | some j=>j≤T.length∧x=⟨T,j,E, -1⟩∧p=⟨T,j, -1⟩
 | none=>∃b:Nat,b≤T.length∧x.toks=T∧x.end_=E∧p.list=T∧p.bad=b∧x.bad=Znf T E b
def adS (x:Zd):Zd:=⟨x.toks,IntKind.i64.wrap (x.i+1),x.end_,x.bad⟩
def adI (p:Zf):Zf:=⟨p.list,IntKind.i64.wrap (p.at_+1),p.bad⟩
def Za1 (t:Zi) (s:ByteArray):Bool:=decide (t.kind=4)&&decide (t.text=s)
def Zhw (t:Zi) (s:ByteArray):Bool:=decide (t.kind=1)&&decide (t.text=s)
theorem Zcu (t:Zi) (s:ByteArray):WB t s=some (Za1 t s):=by unfold WB Za1;by_cases h:t.kind=4<;>simp [h]
theorem Zkg (t:Zi) (s:ByteArray):Uv t s=some (Za1 t s):=by unfold Uv Za1;by_cases h:t.kind=4<;>simp [h]
theorem Znv (t:Zi) (s:ByteArray):UN t s=some (Zhw t s):=by unfold UN Zhw;by_cases h:t.kind=1<;>simp [h]
theorem Zha (t:Zi) (s:ByteArray):Yz t s=some (Zhw t s):=by unfold Yz Zhw;by_cases h:t.kind=1<;>simp [h]
def zT:Zi:=⟨0,0,0,⟨#[]⟩⟩
theorem ZgK (s:ByteArray):Za1 zT s=false:=by simp [Za1,zT]
theorem Zle (s:ByteArray):Zhw zT s=false:=by simp [Zhw,zT]
def ZbK (T:List Zi) (j:Nat) (s:ByteArray):Bool:=match T[j]? with
 | some t=>Za1 t s||Zhw t s
 | none=>false
section
variable {T:List Zi} {E:Int}
theorem ZdO (ok:Zd9 T E) {j:Nat} (hj:j≤T.length) (s:ByteArray):Zt ⟨T,j,E, -1⟩ s=some (ZbK T j s,⟨T,j,E, -1⟩):=by
 unfold Zt ZbK
 by_cases h:j<T.length
 ·simp only [Yp h,if_true,Qe h,Option.bind_some,Zcu,Znv,List.getElem?_eq_getElem h]
  cases Za1 T[j] s<;>simp
 ·simp [show ¬((j:Int)<(T.length:Int)) by omega,List.getElem?_eq_none (show T.length≤j by omega)]
theorem Zf3 {x:Zd} (h:0≤x.bad) (s:ByteArray):Zt x s=some (false,x):=by
 unfold Zt
 simp [show ¬x.bad<0 by omega]
theorem ZaC {j:Nat} (hj:j≤T.length):ZE ⟨T,j, -1⟩=some ((T[j]?).getD zT,⟨T,j, -1⟩):=by
 unfold ZE
 by_cases h:j<T.length
 ·simp only [Yp h,if_true,Qe h,Option.bind_some,List.getElem?_eq_getElem h]
  simp
 ·simp [show ¬((j:Int)<(T.length:Int)) by omega,List.getElem?_eq_none (show T.length≤j by omega),zT]
theorem ZcL {p:Zf} (h:0≤p.bad):ZE p=some (zT,p):=by
 unfold ZE
 simp [show ¬p.bad<0 by omega,zT]
theorem UF {p:Zf} {t:Zi} (h:ZE p=some (t,p)) (s:ByteArray):Zk p s=some (Za1 t s,if Za1 t s=true then adI p else p):=by
 unfold Zk
 rw [h];simp only [Option.bind_some,Zkg]
 cases Za1 t s<;>rfl
theorem Rl.bad {x:Zd} {p:Zf} (ok:Zd9 T E) (h:Rl T E x p none):0≤x.bad∧0≤p.bad:=by
 obtain ⟨b,_,_,_,_,h1,h2⟩:=h
 exact ⟨by rw [h2];exact Zj7 ok b,by rw [h1];omega⟩
theorem ZrS (ok:Zd9 T E) {j:Nat} (h:j<T.length):Rl T E (adS ⟨T,j,E, -1⟩) (adI ⟨T,j, -1⟩) (some (j+1)):=by
 have:=ok.len
 refine ⟨by omega, ?_, ?_⟩
 ·simp only [adS,wS j (by omega)]
 ·simp only [adI,wS j (by omega)]
def Znh (s:ByteArray):Prop:=∃c r,s.data.toList=c::r∧Zhv c=false
def KwS (s:ByteArray):Prop:=∃c r,s.data.toList=c::r∧Zhv c=true
theorem Zrd (ok:Zd9 T E) {t:Zi} (ht:t∈T) {s:ByteArray} (hs:Znh s):Zhw t s=false:=by
 unfold Zhw
 by_cases h1:t.kind=1
 ·obtain ⟨c,r,e1,e2⟩:=ok.nm t ht h1
  obtain ⟨c',r',e3,e4⟩:=hs
  have:t.text≠s:=fun e=>by rw [e,e3] at e1;cases e1;rw [e2] at e4;cases e4
  simp [this]
 ·simp [h1]
theorem ZqQ (ok:Zd9 T E) {t:Zi} (ht:t∈T) {s:ByteArray} (hs:KwS s):Za1 t s=false:=by
 unfold Za1
 by_cases h1:t.kind=4
 ·obtain ⟨c,r,e1,e2⟩:=ok.sy t ht h1
  obtain ⟨c',r',e3,e4⟩:=hs
  have:t.text≠s:=fun e=>by rw [e,e3] at e1;cases e1;rw [e2] at e4;cases e4
  simp [this]
 ·simp [h1]
theorem ZeN {j:Nat} {t:Zi} (h:T[j]? =some t) (s:ByteArray):ZbK T j s=(Za1 t s||Zhw t s):=by unfold ZbK;rw [h]
theorem Zdd {j:Nat} (h:T[j]? =none) (s:ByteArray):ZbK T j s=false:=by unfold ZbK;rw [h]
theorem Ki (ok:Zd9 T E) {x:Zd} {p:Zf} {o:Option Nat} (h:Rl T E x p o) {s:ByteArray} (hs:Znh s):
  ∃b:Bool,Zt x s=some (b,x)∧Zk p s=some (b,if b=true then adI p else p)∧(b=true→∃j,o=some j∧j<T.length∧Rl T E (adS x) (adI p) (some (j+1))):=by
 cases o with
 | none=>
  have hb:=h.bad ok
  refine ⟨false,Zf3 hb.1 s, ?_,by simp⟩
  rw [UF (ZcL hb.2),ZgK]
 | some j=>
  obtain ⟨hj,rfl,rfl⟩:=h
  refine ⟨ZbK T j s,ZdO ok hj s, ?_, ?_⟩
  ·rw [UF (ZaC hj)]
   cases e:T[j]? with
   | none=>simp [Zdd e,ZgK]
   | some t=>simp [ZeN e,Zrd ok (List.mem_of_getElem? e) hs]
  ·intro hb
   cases e:T[j]? with
   | none=>rw [Zdd e] at hb;cases hb
   | some t=>have hl:=(List.getElem?_eq_some_iff.1 e).1;exact ⟨j,rfl,hl,ZrS ok hl⟩
theorem Zi8 (ok:Zd9 T E) {x:Zd} {p:Zf} {o:Option Nat} (h:Rl T E x p o) {s:ByteArray} (hs:KwS s):
  ∃(b:Bool) (t:Zi),Zt x s=some (b,x)∧ZE p=some (t,p)∧Yz t s=some b∧(b=true→∃j,o=some j∧j<T.length∧Rl T E (adS x) (adI p) (some (j+1))):=by
 cases o with
 | none=>
  have hb:=h.bad ok
  exact ⟨false,zT,Zf3 hb.1 s,ZcL hb.2,by rw [Zha,Zle],by simp⟩
 | some j=>
  obtain ⟨hj,rfl,rfl⟩:=h
  refine ⟨ZbK T j s,_,ZdO ok hj s,ZaC hj, ?_, ?_⟩
  ·rw [Zha]
   cases e:T[j]? with
   | none=>simp [Zdd e,Zle]
   | some t=>simp [ZeN e,ZqQ ok (List.mem_of_getElem? e) hs]
  ·intro hb
   cases e:T[j]? with
   | none=>rw [Zdd e] at hb;cases hb
   | some t=>have hl:=(List.getElem?_eq_some_iff.1 e).1;exact ⟨j,rfl,hl,ZrS ok hl⟩
def zE:Zb:=⟨0,0,⟨#[]⟩,[]⟩
theorem Zn2 (ok:Zd9 T E) {x:Zd} {p:Zf} {o:Option Nat} (h:Rl T E x p o):∃x' p',YR x=some (zE,x')∧Yt p=some (zE,p')∧Rl T E x' p' none:=by
 cases o with
 | none=>
  have hb:=h.bad ok
  obtain ⟨b,h0,h1,h2,h3,h4,h5⟩:=h
  refine ⟨x,p, ?_, ?_,⟨b,h0,h1,h2,h3,h4,h5⟩⟩
  ·unfold YR;simp [show ¬x.bad<0 by omega,zE]
  ·unfold Yt;simp [show ¬p.bad<0 by omega,zE]
 | some j=>
  obtain ⟨hj,rfl,rfl⟩:=h
  refine ⟨⟨T,j,E,Znf T E j⟩,⟨T,j,j⟩, ?_, ?_,⟨j,hj,rfl,rfl,rfl,rfl,rfl⟩⟩
  ·unfold YR Znf
   by_cases hl:j<T.length
   ·simp only [Yp hl,if_true,Qe hl,Option.bind_some,List.getElem?_eq_getElem hl];simp [zE]
   ·simp [show ¬((j:Int)<(T.length:Int)) by omega,List.getElem?_eq_none (show T.length≤j by omega),zE]
  ·unfold Yt;simp [zE]
theorem Zpb (ok:Zd9 T E) {j:Nat} (hj:j≤T.length) (s:ByteArray):(Za1 ((T[j]?).getD zT) s||Zhw ((T[j]?).getD zT) s)=ZbK T j s:=by
 cases e:T[j]? with
 | none=>simp [Zdd e,ZgK,Zle]
 | some t=>simp [ZeN e]
theorem ZbQ {p:Zf} {t:Zi} (h:ZE p=some (t,p)) (s:ByteArray):Zs p s=if (Zhw t s||Za1 t s)=true then some (adI p) else (Yt p).bind fun y=>some y.2:=by
 unfold Zs
 rw [h];simp only [Option.bind_some,Zha,h,Zkg]
 cases Zhw t s<;>cases Za1 t s<;>simp [adI]
theorem ZgJ (ok:Zd9 T E) {x:Zd} {p:Zf} {o:Option Nat} (h:Rl T E x p o) (s:ByteArray):
  ∃x' p' o',ZC x s=some x'∧Zs p s=some p'∧Rl T E x' p' o'∧∀j',o'=some j'→∃j,o=some j∧j'=j+1:=by
 obtain ⟨xf,pf,f1,f2,f3⟩:=Zn2 ok h
 cases o with
 | none=>
  have hb:=h.bad ok
  refine ⟨xf,pf,none, ?_, ?_,f3,by simp⟩
  ·unfold ZC;rw [Zf3 hb.1];simp [f1]
  ·rw [ZbQ (ZcL hb.2),ZgK,Zle,f2];rfl
 | some j=>
  obtain ⟨hj,rfl,rfl⟩:=h
  have e1:(Zhw ((T[j]?).getD zT) s||Za1 ((T[j]?).getD zT) s)=ZbK T j s:=by rw [Bool.or_comm];exact Zpb ok hj s
  cases hb:ZbK T j s with
  | false=>
   refine ⟨xf,pf,none, ?_, ?_,f3,by simp⟩
   ·unfold ZC;rw [ZdO ok hj,hb];simp [f1]
   ·rw [ZbQ (ZaC hj),e1,hb,f2];rfl
  | true=>
   have hl:j<T.length:=by
    cases e:T[j]? with
    | none=>rw [Zdd e] at hb;cases hb
    | some t=>exact (List.getElem?_eq_some_iff.1 e).1
   refine ⟨adS ⟨T,j,E, -1⟩,adI ⟨T,j, -1⟩,some (j+1), ?_, ?_,ZrS ok hl,fun j' h=>⟨j,rfl,by cases h;rfl⟩⟩
   ·unfold ZC;rw [ZdO ok hj,hb];rfl
   ·rw [ZbQ (ZaC hj),e1,hb];rfl
theorem names (ok:Zd9 T E) {x:Zd} {p:Zf} {o:Option Nat} (h:Rl T E x p o):
  ∃ns ni x' p' o',Rl T E x' p' o'∧(∀j',o'=some j'→ns=ni∧ns.size≤120∧∃j,o=some j∧j'=j+1)∧∀k,200≤k→XJ k x=some (ns,x')∧Ys k p=some (ni,p'):=by
 obtain ⟨xf,pf,f1,f2,f3⟩:=Zn2 ok h
 cases o with
 | none=>
  have hb:=h.bad ok
  refine ⟨⟨#[]⟩,⟨#[]⟩,xf,pf,none,f3,by simp,fun k hk=>⟨?_, ?_⟩⟩
  ·unfold XJ;simp [show 0≤x.bad from hb.1,f1]
  ·unfold Ys;rw [ZcL hb.2];simp [zT,f2]
 | some j=>
  obtain ⟨hj,rfl,rfl⟩:=h
  cases e:T[j]? with
  | none=>
   have hl:T.length≤j:=List.getElem?_eq_none_iff.1 e
   refine ⟨⟨#[]⟩,⟨#[]⟩,xf,pf,none,f3,by simp,fun k hk=>⟨?_, ?_⟩⟩
   ·unfold XJ;simp [show ((T.length:Int)≤(j:Int)) by omega,f1]
   ·unfold Ys;rw [ZaC hj,e];simp [zT,f2]
  | some t=>
   obtain ⟨hl,rfl⟩:=List.getElem?_eq_some_iff.1 e
   have hm:=List.getElem_mem hl
   have ht:=ok.tx _ hm
   have hlen:=ok.len
   by_cases hn:T[j].kind=1∧WN T[j].text=true
   ·refine ⟨T[j].text,T[j].text,adS ⟨T,j,E, -1⟩,adI ⟨T,j, -1⟩,some (j+1),ZrS ok hl,fun j' h=>⟨rfl,ht,j,rfl,by cases h;rfl⟩,fun k hk=>⟨?_, ?_⟩⟩
    ·obtain ⟨v1,v2⟩:=UE T[j].text (by omega) (show T[j].text.size<k by omega) (by omega)
     unfold XJ
     have e2:IntKind.i64.wrap (IntKind.i64.wrap ((j:Int)+1)-1)=(j:Int):=by rw [wS j (by omega),w64 (by omega) (by omega)];omega
     simp only [show ¬((0:Int)≤ -1) by omega,decide_false,Bool.false_eq_true,if_false,show ¬((T.length:Int)≤(j:Int)) by omega,Qe hl,Option.bind_some,hn.1,decide_true,Bool.not_true,v1,hn.2,e2]
     rfl
    ·obtain ⟨v1,v2⟩:=UE T[j].text (by omega) (show T[j].text.size<k by omega) (by omega)
     unfold Ys;rw [ZaC hj,e]
     simp only [Option.bind_some,Option.getD_some,hn.1,decide_true,Bool.not_true,Bool.false_eq_true,if_false,v2,hn.2]
     rfl
   ·refine ⟨⟨#[]⟩,⟨#[]⟩,xf,pf,none,f3,by simp,fun k hk=> ?_⟩
    obtain ⟨v1,v2⟩:=UE T[j].text (by omega) (show T[j].text.size<k by omega) (by omega)
    constructor
    ·unfold XJ
     by_cases h1:T[j].kind=1
     ·have h2:WN T[j].text=false:=by simpa [h1] using hn
      simp [show ¬((T.length:Int)≤(j:Int)) by omega,Qe hl,h1,v1,h2,f1]
     ·simp [show ¬((T.length:Int)≤(j:Int)) by omega,Qe hl,h1,f1]
    ·unfold Ys;rw [ZaC hj,e]
     by_cases h1:T[j].kind=1
     ·have h2:WN T[j].text=false:=by simpa [h1] using hn
      simp [h1,v2,h2,f2]
     ·simp [h1,f2]
end
end Go.Proofs.YtfapaeabfcogkaaGreatDoor
namespace Go.Proofs.YtfapaeabfcogkaaGreatDoor
open Go.RowKit Am
def star:ByteArray:=⟨#[42]⟩
def plus:ByteArray:=⟨#[43]⟩
def minus:ByteArray:=⟨#[45]⟩
def ZaQ:ByteArray:=⟨#[44]⟩
def opE (n:Int) (a b:Zb):Zb:=⟨6,n,⟨#[]⟩,[a,b]⟩
def sPL (r:Zd→Option (Zb×Zd)) (n:Nat) (x:Zd) (e:Zb):Option (Zb×Zd):=
 (YI r n x.toks x.i x.end_ x.bad e.kind e.n e.text e.args).map fun y=>(⟨y.1,y.2.1,y.2.2.1,y.2.2.2.1⟩,⟨y.2.2.2.2.1,y.2.2.2.2.2.1,y.2.2.2.2.2.2.1,y.2.2.2.2.2.2.2⟩)
def iPL (r:Zf→Option (Zb×Zf)) (n:Nat) (x:Zf) (e:Zb):Option (Zb×Zf):=
 (Z1 r n x.list x.at_ x.bad e.kind e.n e.text e.args).map fun y=>(⟨y.1,y.2.1,y.2.2.1,y.2.2.2.1⟩,⟨y.2.2.2.2.1,y.2.2.2.2.2.1,y.2.2.2.2.2.2⟩)
def sSL (r:Zd→Option (Zb×Zd)) (n:Nat) (x:Zd) (e:Zb):Option (Zb×Zd):=
 (XB r n x.toks x.i x.end_ x.bad e.kind e.n e.text e.args).map fun y=>(⟨y.1,y.2.1,y.2.2.1,y.2.2.2.1⟩,⟨y.2.2.2.2.1,y.2.2.2.2.2.1,y.2.2.2.2.2.2.1,y.2.2.2.2.2.2.2⟩)
def iSL (r:Zf→Option (Zb×Zf)) (n:Nat) (x:Zf) (e:Zb):Option (Zb×Zf):=
 (YJ r n x.list x.at_ x.bad e.kind e.n e.text e.args).map fun y=>(⟨y.1,y.2.1,y.2.2.1,y.2.2.2.1⟩,⟨y.2.2.2.2.1,y.2.2.2.2.2.1,y.2.2.2.2.2.2⟩)
def sAL (r:Zd→Option (Zb×Zd)) (n:Nat) (x:Zd) (out:List Zb):Option (List Zb×Zd):=
 (QN r n x.toks x.i x.end_ x.bad out).map fun y=>(y.2.2.2.2,⟨y.1,y.2.1,y.2.2.1,y.2.2.2.1⟩)
def iAL (r:Zf→Option (Zb×Zf)) (c:ByteArray) (n:Nat) (x:Zf) (out:List Zb):Option (List Zb×Zf):=
 (Yi r c n x.list x.at_ x.bad out).map fun y=>(y.1,⟨y.2.1,y.2.2.1,y.2.2.2⟩)
theorem ZgR (r:Zd→Option (Zb×Zd)) (n:Nat) (x:Zd) (e:Zb):sPL r (n+1) x e=(Zt x star).bind fun y=>if y.1=true then (r (adS y.2)).bind fun z=>sPL r n z.2 (opE 3 e z.1) else some (e,y.2):=by
 obtain ⟨e1,e2,e3,e4⟩:=e
 unfold sPL
 rw [YI]
 show Option.map _ ((Zt x star).bind _)=_
 rcases Zt x star with _| ⟨b,y⟩
 ·simp
 ·cases b
  ·simp
  ·simp only [Option.bind_some,if_true]
   show Option.map _ ((r (adS y)).bind _)=_
   rcases r (adS y) with _| ⟨a,z⟩<;>simp [Km,opE]
theorem Zeo (r:Zf→Option (Zb×Zf)) (n:Nat) (x:Zf) (e:Zb):iPL r (n+1) x e=(Zk x star).bind fun y=>if y.1=true then (r y.2).bind fun z=>iPL r n z.2 (opE 3 e z.1) else some (e,y.2):=by
 obtain ⟨e1,e2,e3,e4⟩:=e
 unfold iPL
 rw [Z1]
 show Option.map _ ((Zk x star).bind _)=_
 rcases Zk x star with _| ⟨b,y⟩
 ·simp
 ·cases b
  ·simp
  ·simp only [Option.bind_some,if_true]
   rcases r y with _| ⟨a,z⟩<;>simp [opE]
theorem Zj4 (r:Zd→Option (Zb×Zd)) (n:Nat) (x:Zd) (e:Zb):sSL r (n+1) x e=(Zt x plus).bind fun y=>(if y.1=true then some (true,y.2) else Zt y.2 minus).bind fun u=>if u.1=true then (Zt u.2 minus).bind fun v=>(r (adS v.2)).bind fun w=>sSL r n w.2 (opE (if v.1=true then 2 else 1) e w.1) else some (e,u.2):=by
 obtain ⟨e1,e2,e3,e4⟩:=e
 unfold sSL
 rw [XB]
 show Option.map _ (((Zt x plus).bind _).bind _)=_
 rcases Zt x plus with _| ⟨b,y⟩
 ·simp
 ·cases b
  ·simp only [Option.bind_some,Bool.false_eq_true,if_false]
   show Option.map _ (((Zt y minus).bind _).bind _)=_
   rcases Zt y minus with _| ⟨c,u⟩
   ·simp
   ·cases c
    ·simp
    ·simp only [Option.bind_some,if_true]
     show Option.map _ (((Zt u minus).bind _).bind _)=_
     rcases Zt u minus with _| ⟨d,v⟩
     ·simp
     ·cases d<;>simp only [Option.bind_some,Bool.false_eq_true,if_true,if_false]<;>show Option.map _ ((r (adS v)).bind _)=_<;>rcases r (adS v) with _| ⟨a,z⟩<;>simp [Km,opE]
  ·simp only [Option.bind_some,if_true]
   show Option.map _ (((Zt y minus).bind _).bind _)=_
   rcases Zt y minus with _| ⟨d,v⟩
   ·simp
   ·cases d<;>simp only [Option.bind_some,Bool.false_eq_true,if_true,if_false]<;>show Option.map _ ((r (adS v)).bind _)=_<;>rcases r (adS v) with _| ⟨a,z⟩<;>simp [Km,opE]
theorem Zhc (r:Zf→Option (Zb×Zf)) (n:Nat) (x:Zf) (e:Zb):iSL r (n+1) x e=if x.bad<0 then (Zk x plus).bind fun y=>if y.1=true then (r y.2).bind fun w=>iSL r n w.2 (opE 1 e w.1) else (Zk y.2 minus).bind fun z=>if z.1=true then (r z.2).bind fun w=>iSL r n w.2 (opE 2 e w.1) else some (e,z.2) else some (e,x):=by
 obtain ⟨e1,e2,e3,e4⟩:=e
 unfold iSL
 rw [YJ]
 by_cases hb:x.bad<0
 ·simp only [hb,decide_true,if_true]
  show Option.map _ (((Zk x plus).bind _).bind _)=_
  rcases Zk x plus with _| ⟨b,y⟩
  ·simp
  ·cases b
   ·simp only [Option.bind_some,Bool.not_false,if_true,Bool.false_eq_true,if_false]
    show Option.map _ (((Zk y minus).bind _).bind _)=_
    rcases Zk y minus with _| ⟨c,z⟩
    ·simp
    ·cases c
     ·simp
     ·simp only [Option.bind_some,Bool.not_true,Bool.false_eq_true,if_true,if_false]
      show Option.map _ ((r z).bind _)=_
      rcases r z with _| ⟨a,w⟩<;>simp [opE]
   ·simp only [Option.bind_some,Bool.not_true,Bool.false_eq_true,if_true,if_false]
    show Option.map _ ((r y).bind _)=_
    rcases r y with _| ⟨a,w⟩<;>simp [opE]
 ·simp [hb]
theorem ZcE (r:Zd→Option (Zb×Zd)) (n:Nat) (x:Zd) (out:List Zb):sAL r (n+1) x out=if x.bad<0 then (r x).bind fun y=>(Wq 56 out [y.1]).bind fun o=>(Zt y.2 ZaQ).bind fun z=>if z.1=true then sAL r n (adS z.2) o else some (o,z.2) else some (out,x):=by
 unfold sAL
 rw [QN]
 by_cases hb:x.bad<0
 ·simp only [hb,decide_true,if_true]
  show Option.map _ ((r x).bind _)=_
  rcases r x with _| ⟨a,y⟩
  ·simp
  ·simp only [Option.bind_some]
   rcases Wq 56 out [a] with _| o
   ·simp
   ·simp only [Option.bind_some]
    show Option.map _ ((Zt y ZaQ).bind _)=_
    rcases Zt y ZaQ with _| ⟨b,z⟩
    ·simp
    ·cases b<;>simp [adS]
 ·simp [hb]
theorem Js (r:Zf→Option (Zb×Zf)) (c:ByteArray) (n:Nat) (x:Zf) (out:List Zb):iAL r c (n+1) x out=if x.bad<0 then (r x).bind fun y=>(Wq 56 out [y.1]).bind fun o=>(Zk y.2 c).bind fun z=>if z.1=true then some (o,z.2) else (Zs z.2 ZaQ).bind fun u=>iAL r c n u o else some (out,x):=by
 unfold iAL
 rw [Yi]
 by_cases hb:x.bad<0
 ·simp only [hb,decide_true,if_true]
  show Option.map _ ((r x).bind _)=_
  rcases r x with _| ⟨a,y⟩
  ·simp
  ·simp only [Option.bind_some]
   rcases Wq 56 out [a] with _| o
   ·simp
   ·simp only [Option.bind_some]
    rcases Zk y c with _| ⟨b,z⟩
    ·simp
    ·cases b
     ·simp only [Option.bind_some,Bool.false_eq_true,if_false]
      show Option.map _ ((Zs z ZaQ).bind _)=_
      rcases Zs z ZaQ with _| u<;>simp
     ·simp
 ·simp [hb]
theorem ZqZ (k:Nat) (x:Zd):ZI (k+1) x=(Z3 k x).bind fun y=>sPL (Z3 k) k y.2 y.1:=by
 rw [ZI]
 rcases Z3 k x with _| ⟨a,y⟩
 ·simp
 ·simp only [Option.bind_some,sPL]
  cases YI (Z3 k) k y.toks y.i y.end_ y.bad a.kind a.n a.text a.args<;>simp
theorem Zri (k:Nat) (x:Zf):Zv (k+1) x=(Zx k x).bind fun y=>iPL (Zx k) k y.2 y.1:=by
 rw [Zv]
 rcases Zx k x with _| ⟨a,y⟩
 ·simp
 ·simp only [Option.bind_some,iPL]
  cases Z1 (Zx k) k y.list y.at_ y.bad a.kind a.n a.text a.args<;>simp
theorem ZqY (k:Nat) (x:Zd):Xa (k+1) x=(ZI k x).bind fun y=>sSL (ZI k) k y.2 y.1:=by
 rw [Xa]
 rcases ZI k x with _| ⟨a,y⟩
 ·simp
 ·simp only [Option.bind_some,sSL]
  cases XB (ZI k) k y.toks y.i y.end_ y.bad a.kind a.n a.text a.args<;>simp
theorem Zrh (k:Nat) (x:Zf):ZU (k+1) x=(Zv k x).bind fun y=>iSL (Zv k) k y.2 y.1:=by
 rw [ZU]
 rcases Zv k x with _| ⟨a,y⟩
 ·simp
 ·simp only [Option.bind_some,iSL]
  cases YJ (Zv k) k y.list y.at_ y.bad a.kind a.n a.text a.args<;>simp
theorem Zox (k:Nat) (x:Zd) (c:ByteArray):X5 (k+1) x c=(Zt x c).bind fun y=>if y.1=true then some ([],adS y.2) else (sAL (Zy k) k y.2 []).bind fun z=>(ZC z.2 c).bind fun u=>some (z.1,u):=by
 rw [X5]
 rcases Zt x c with _| ⟨b,y⟩
 ·simp
 ·cases b
  ·simp only [Option.bind_some,Bool.false_eq_true,if_false,sAL]
   cases QN (Zy k) k y.toks y.i y.end_ y.bad []<;>simp
  ·simp [adS]
theorem ZoL (k:Nat) (x:Zf) (c:ByteArray):Yq (k+1) x c=(Zk x c).bind fun y=>if y.1=true then some ([],y.2) else iAL (Zm k) c k y.2 []:=by
 rw [Yq]
 rcases Zk x c with _| ⟨b,y⟩
 ·simp
 ·cases b
  ·simp only [Option.bind_some,Bool.false_eq_true,if_false,iAL]
   cases Yi (Zm k) c k y.list y.at_ y.bad []<;>simp
  ·simp
def gE (o o':Option Nat) (es ei:Zb):Prop:=∀j',o'=some j'→es=ei∧∃j,o=some j∧j<j'∧es.bk+1≤200*(j'-j)
def Ag (T:List Zi) (E:Int) (o:Option Nat) (sX:Nat→Option (Zb×Zd)) (iX:Nat→Option (Zb×Zf)):Prop:=
 ∃es ei x' p' o',Rl T E x' p' o'∧gE o o' es ei∧Ev fun k=>sX k=some (es,x')∧iX k=some (ei,p')
def AgN (T:List Zi) (E:Int) (m:Nat) (sX:Nat→Zd→Option (Zb×Zd)) (iX:Nat→Zf→Option (Zb×Zf)):Prop:=
 ∀x p o,Rl T E x p o→(∀j,o=some j→T.length-j≤m)→Ag T E o (fun k=>sX k x) (fun k=>iX k p)
def go (j0:Nat) (o:Option Nat) (es ei:Zb):Prop:=∀j,o=some j→es=ei∧j0<j∧es.bk+1≤200*(j-j0)
theorem Zmp (n:Int) (a b:Zb):(opE n a b).bk=2+(a.bk+b.bk):=by
 rw [Zb.ZZ];simp [opE,bkS,Xc];try rfl
theorem Zrr {o1:Option Nat} {j0 j:Nat} {es ei ea eb:Zb} (n:Int) (h:go j0 (some j) es ei) (h1:gE (some (j+1)) o1 ea eb):go j0 o1 (opE n es ea) (opE n ei eb):=by
 intro j1 e1
 obtain ⟨rfl,j',e2,h2,h3⟩:=h1 j1 e1
 cases e2
 obtain ⟨rfl,h4,h5⟩:=h j rfl
 rw [Zmp]
 exact ⟨rfl,by omega,by omega⟩
section
variable {T:List Zi} {E:Int}
theorem ZjW:Znh star:=⟨42,[],rfl,by decide⟩
theorem ZjX:Znh plus:=⟨43,[],rfl,by decide⟩
theorem ZhV:Znh minus:=⟨45,[],rfl,by decide⟩
theorem ZhW:Znh ZaQ:=⟨44,[],rfl,by decide⟩
theorem Zmn (ok:Zd9 T E) (m:Nat) (hA:∀m',m'<m→AgN T E m' Z3 Zx) (j0:Nat):∀(d:Nat) (x:Zd) (p:Zf) (o:Option Nat) (es ei:Zb),Rl T E x p o→(∀j,o=some j→T.length-j≤d∧T.length-j≤m)→go j0 o es ei→
  ∃es' ei' x' p' o',Rl T E x' p' o'∧go j0 o' es' ei'∧Ev2 fun k n=>sPL (Z3 k) n x es=some (es',x')∧iPL (Zx k) n p ei=some (ei',p'):=by
 intro d
 induction d with
 | zero=>
  intro x p o es ei h hd hg
  obtain ⟨b,h1,h2,h3⟩:=Ki ok h ZjW
  have hb:b=false:=by
   cases b with
   | false=>rfl
   | true=>obtain ⟨j,e,hl,_⟩:=h3 rfl;have:=(hd j e).1;omega
  subst hb
  exact ⟨es,ei,x,p,o,h,hg,.of fun k n=>⟨by rw [ZgR,h1];rfl,by rw [Zeo,h2];rfl⟩⟩
 | succ d ih=>
  intro x p o es ei h hd hg
  obtain ⟨b,h1,h2,h3⟩:=Ki ok h ZjW
  cases b with
  | false=>exact ⟨es,ei,x,p,o,h,hg,.of fun k n=>⟨by rw [ZgR,h1];rfl,by rw [Zeo,h2];rfl⟩⟩
  | true=>
   obtain ⟨j,rfl,hl,h4⟩:=h3 rfl
   have hdj:=hd j rfl
   obtain ⟨ea,eb,x1,p1,o1,r1,g1,B1,e1⟩:=hA (T.length-(j+1)) (by omega) _ _ _ h4 (fun j' e=>by cases e;omega)
   obtain ⟨es',ei',x',p',o',r2,g2,B2,e2⟩:=ih x1 p1 o1 (opE 3 es ea) (opE 3 ei eb) r1 (fun j' e=>by obtain ⟨_,j2,e3,h5,_⟩:=g1 j' e;cases e3;omega) (Zrr (o1:=o1) 3 hg g1)
   refine ⟨es',ei',x',p',o',r2,g2,max B1 (B2+1),fun k n hk hn=> ?_⟩
   obtain ⟨n,rfl⟩:∃n',n=n'+1:=⟨n-1,by omega⟩
   have q1:=e1 k (by omega)
   have q2:=e2 k n (by omega) (by omega)
   exact ⟨by rw [ZgR,h1];simp only [Option.bind_some,if_true,q1.1,q2.1],by rw [Zeo,h2];simp only [Option.bind_some,if_true,q1.2,q2.2]⟩
theorem Znr (ok:Zd9 T E) (m:Nat) (hA:∀m',m'<m→AgN T E m' ZI Zv) (j0:Nat):∀(d:Nat) (x:Zd) (p:Zf) (o:Option Nat) (es ei:Zb),Rl T E x p o→(∀j,o=some j→T.length-j≤d∧T.length-j≤m)→go j0 o es ei→
  ∃es' ei' x' p' o',Rl T E x' p' o'∧go j0 o' es' ei'∧Ev2 fun k n=>sSL (ZI k) n x es=some (es',x')∧iSL (Zv k) n p ei=some (ei',p'):=by
 have stop:∀(x:Zd) (p:Zf) (o:Option Nat) (es ei:Zb),Rl T E x p o→go j0 o es ei→Zt x plus=some (false,x)→Zk p plus=some (false,p)→Zt x minus=some (false,x)→Zk p minus=some (false,p)→
   ∃es' ei' x' p' o',Rl T E x' p' o'∧go j0 o' es' ei'∧Ev2 fun k n=>sSL (ZI k) n x es=some (es',x')∧iSL (Zv k) n p ei=some (ei',p'):=by
  intro x p o es ei h hg h1 h2 h3 h4
  refine ⟨es,ei,x,p,o,h,hg,.of fun k n=>⟨by rw [Zj4,h1];simp [h3], ?_⟩⟩
  rw [Zhc,h2]
  split
  ·simp [h4]
  ·rfl
 have step:∀(d:Nat) (x:Zd) (p:Zf) (j:Nat) (es ei:Zb) (c:Bool),j<T.length→T.length-j≤d+1→T.length-j≤m→p.bad<0→Rl T E (adS x) (adI p) (some (j+1))→go j0 (some j) es ei→
   (∀(x:Zd) (p:Zf) (o:Option Nat) (es ei:Zb),Rl T E x p o→(∀j,o=some j→T.length-j≤d∧T.length-j≤m)→go j0 o es ei→
    ∃es' ei' x' p' o',Rl T E x' p' o'∧go j0 o' es' ei'∧Ev2 fun k n=>sSL (ZI k) n x es=some (es',x')∧iSL (Zv k) n p ei=some (ei',p'))→
   Zt x plus=some (!c,x)→Zt x minus=some (c,x)→Zk p plus=some (!c,if (!c)=true then adI p else p)→Zk p minus=some (c,if c=true then adI p else p)→
   ∃es' ei' x' p' o',Rl T E x' p' o'∧go j0 o' es' ei'∧Ev2 fun k n=>sSL (ZI k) n x es=some (es',x')∧iSL (Zv k) n p ei=some (ei',p'):=by
  intro d x p j es ei c hl hd hm hb h4 hg ih a1 a2 a3 a4
  obtain ⟨ea,eb,x1,p1,o1,r1,g1,B1,e1⟩:=hA (T.length-(j+1)) (by omega) _ _ _ h4 (fun j' e=>by cases e;omega)
  obtain ⟨es',ei',x',p',o',r2,g2,B2,e2⟩:=ih x1 p1 o1 (opE (if c=true then 2 else 1) es ea) (opE (if c=true then 2 else 1) ei eb) r1 (fun j' e=>by obtain ⟨_,j2,e3,h5,_⟩:=g1 j' e;cases e3;omega) (Zrr _ hg g1)
  refine ⟨es',ei',x',p',o',r2,g2,max B1 (B2+1),fun k n hk hn=> ?_⟩
  obtain ⟨n,rfl⟩:∃n',n=n'+1:=⟨n-1,by omega⟩
  have q1:=e1 k (by omega)
  have q2:=e2 k n (by omega) (by omega)
  constructor
  ·rw [Zj4,a1]
   cases c
   ·simp only [Bool.not_false,Option.bind_some,if_true,a2,q1.1];exact q2.1
   ·simp only [Bool.not_true,Option.bind_some,Bool.false_eq_true,if_false,a2,if_true,q1.1];exact q2.1
  ·rw [Zhc,if_pos hb,a3]
   cases c
   ·simp only [Bool.not_false,Option.bind_some,if_true,q1.2]
    exact q2.2
   ·simp only [Bool.not_true,Option.bind_some,Bool.false_eq_true,if_false,a4,if_true,q1.2]
    exact q2.2
 have no_both:∀{x:Zd} {j:Nat},x=⟨T,j,E, -1⟩→j<T.length→Zt x plus=some (true,x)→Zt x minus=some (false,x):=by
  rintro x j rfl hl h
  rw [ZdO ok (by omega)] at h ⊢
  have h1:ZbK T j plus=true:=by simpa using h
  have e:T[j]? =some T[j]:=List.getElem?_eq_getElem hl
  rw [ZeN e] at h1 ⊢
  have hp:T[j].text=plus:=by simp only [Za1,Zhw] at h1;simp at h1;rcases h1 with h1| h1<;>exact h1.2
  simp [Za1,Zhw,hp,plus,minus]
 intro d
 induction d with
 | zero=>
  intro x p o es ei h hd hg
  obtain ⟨b,h1,h2,h3⟩:=Ki ok h ZjX
  obtain ⟨c,i1,i2,i3⟩:=Ki ok h ZhV
  have hb:b=false:=by
   cases b with
   | false=>rfl
   | true=>obtain ⟨j,e,hl,_⟩:=h3 rfl;have:=(hd j e).1;omega
  have hc:c=false:=by
   cases c with
   | false=>rfl
   | true=>obtain ⟨j,e,hl,_⟩:=i3 rfl;have:=(hd j e).1;omega
  subst hb hc
  exact stop x p o es ei h hg h1 h2 i1 i2
 | succ d ih=>
  intro x p o es ei h hd hg
  obtain ⟨b,h1,h2,h3⟩:=Ki ok h ZjX
  obtain ⟨c,i1,i2,i3⟩:=Ki ok h ZhV
  cases b with
  | true=>
   obtain ⟨j,rfl,hl,h4⟩:=h3 rfl
   obtain ⟨hj,hx,hp⟩:=h
   have hc:c=false:=by
    have:=no_both hx hl h1
    rw [i1] at this;simpa using this
   subst hc
   exact step d x p j es ei false hl (hd j rfl).1 (hd j rfl).2 (by rw [hp];show (-1:Int)<0;decide) h4 hg ih h1 i1 h2 i2
  | false=>
   cases c with
   | false=>exact stop x p o es ei h hg h1 h2 i1 i2
   | true=>
    obtain ⟨j,rfl,hl,h4⟩:=i3 rfl
    obtain ⟨hj,hx,hp⟩:=h
    exact step d x p j es ei true hl (hd j rfl).1 (hd j rfl).2 (by rw [hp];show (-1:Int)<0;decide) h4 hg ih h1 i1 h2 i2
end
end Go.Proofs.YtfapaeabfcogkaaGreatDoor
namespace Go.Proofs.YtfapaeabfcogkaaGreatDoor
open Go.RowKit Am
def lw (l:List Zb):Nat:=(l.map fun e=>e.bk+1).sum
theorem ZoF (l:List Zb) (e:Zb):lw (l++[e])=lw l+(e.bk+1):=by simp [lw]
theorem Zta (l:List Zb):bkS Zb.bk l=lw l:=by
 unfold bkS lw Xc
 induction l with
 | nil=>rfl
 | cons e l ih=>simp only [List.length_cons,List.map_cons,List.sum_cons] at ih ⊢;omega
theorem Ziq (k n:Int) (t:ByteArray) (l:List Zb):(Zb.mk k n t l).bk=t.size+lw l:=by
 rw [Zb.ZZ,←Zta];try rfl
theorem Zm0 (out:List Zb) (e:Zb) (h:out.length≤100):Wq 56 out [e]=some (out++[e]):=Zd8 (by simp;omega) (by omega)
section
variable {T:List Zi} {E:Int}
def goL (j0:Nat) (o:Option Nat) (ls li:List Zb):Prop:=∀j,o=some j→ls=li∧j0≤j∧lw ls≤200*(j-j0)∧ls.length≤j
def Zwy (j0:Nat) (o:Option Nat) (ls li:List Zb):Prop:=∀j,o=some j→ls=li∧j0<j∧lw ls≤200*(j-j0-1)
theorem Zl1 {x:Zd} {p:Zf} {o:Option Nat} (ok:Zd9 T E) (h:Rl T E x p o) {s:ByteArray} (hs:Znh s):∃b,Zk p s=some (b,if b=true then adI p else p)∧Zt x s=some (b,x)∧
  (b=true→∃j,o=some j∧j<T.length∧Rl T E (adS x) (adI p) (some (j+1))∧∀s',Znh s'→s'≠s→Zt x s'=some (false,x)):=by
 obtain ⟨b,h1,h2,h3⟩:=Ki ok h hs
 refine ⟨b,h2,h1,fun hb=> ?_⟩
 obtain ⟨j,e,hl,h4⟩:=h3 hb
 refine ⟨j,e,hl,h4,fun s' hs' hne=> ?_⟩
 subst e hb
 obtain ⟨hj,rfl,rfl⟩:=h
 have ej:T[j]? =some T[j]:=List.getElem?_eq_getElem hl
 rw [ZdO ok hj] at h1 ⊢
 have h5:ZbK T j s=true:=by simpa using h1
 rw [ZeN ej] at h5 ⊢
 have hp:T[j].text=s:=by simp only [Za1,Zhw] at h5;simp at h5;rcases h5 with h5| h5<;>exact h5.2
 simp [Za1,Zhw,hp,Ne.symm hne]
theorem Zmz (ok:Zd9 T E) (m:Nat) (hA:∀m',m'≤m→AgN T E m' Zy Zm) (c:ByteArray) (hc:Znh c) (hcc:c≠ZaQ) (j0:Nat):∀(d:Nat) (x:Zd) (p:Zf) (o:Option Nat) (ls li:List Zb),Rl T E x p o→(∀j,o=some j→T.length-j≤d∧T.length-j≤m)→goL j0 o ls li→
  ∃ls' li' x' p' o',Rl T E x' p' o'∧Zwy j0 o' ls' li'∧Ev2 fun k n=>((sAL (Zy k) n x ls).bind fun z=>(ZC z.2 c).bind fun u=>some (z.1,u))=some (ls',x')∧iAL (Zm k) c n p li=some (li',p'):=by
 intro d
 induction d with
 | zero=>
  intro x p o ls li h hd hg
  cases o with
  | none=>
   have hb:=h.bad ok
   obtain ⟨xf,pf,o',t1,t2,t3,t4⟩:=ZgJ ok h c
   have ho:o'=none:=by cases o' with | none=>rfl| some j'=>obtain ⟨j,e,_⟩:=t4 j' rfl;cases e
   subst ho
   have hpf:Rl T E xf p none:=by
    obtain ⟨b,h0,h1,h2,h3,h4,h5⟩:=h
    obtain ⟨b',k0,k1,k2,k3,k4,k5⟩:=t3
    have:ZC x c=some x∨True:=.inr trivial
    unfold ZC at t1;rw [Zf3 hb.1] at t1
    simp only [Option.bind_some,Bool.not_false,if_true] at t1
    have e1:YR x=some (zE,x):=by unfold YR;simp [show ¬x.bad<0 by omega,zE]
    rw [e1] at t1
    obtain rfl:x=xf:=by simpa using t1
    exact ⟨b,h0,h1,h2,h3,h4,h5⟩
   refine ⟨ls,li,xf,p,none,hpf,(by intro j e;cases e),.of fun k n=>⟨?_, ?_⟩⟩
   ·rw [ZcE,if_neg (by omega)];simp [t1]
   ·rw [Js,if_neg (by omega)]
  | some j=>
   obtain ⟨hj,hx,hp⟩:=id h
   have hjl:j=T.length:=by have:=(hd j rfl).1;omega
   obtain ⟨ea,eb,x1,p1,o1,r1,g1,B1,e1⟩:=hA _ (hd j rfl).2 x p (some j) h (fun j' e=>by cases e;exact Nat.le_refl _)
   have ho1:o1=none:=by
    cases o1 with
    | none=>rfl
    | some j1=>obtain ⟨_,j2,e2,h2,_⟩:=g1 j1 rfl;cases e2;have:=r1.1;omega
   subst ho1
   have hb:=r1.bad ok
   have hlen:=ok.len
   obtain ⟨hl1,hl2,hl3,hl4⟩:=hg j rfl
   subst hl1
   obtain ⟨xf,pf,o',t1,t2,t3,t4⟩:=ZgJ ok r1 c
   have ho:o'=none:=by cases o' with | none=>rfl| some j'=>obtain ⟨j,e,_⟩:=t4 j' rfl;cases e
   subst ho
   obtain ⟨xg,pg,o'',u1,u2,u3,u4⟩:=ZgJ ok r1 ZaQ
   have ho:o''=none:=by cases o'' with | none=>rfl| some j'=>obtain ⟨j,e,_⟩:=u4 j' rfl;cases e
   subst ho
   have hbg:=u3.bad ok
   have hxg:YR x1=some (zE,x1):=by unfold YR;simp [show ¬x1.bad<0 by omega,zE]
   have hx1:x1=xf:=by unfold ZC at t1;rw [Zf3 hb.1] at t1;simpa [hxg] using t1
   have hpg:Yt p1=some (zE,p1):=by unfold Yt;simp [show ¬p1.bad<0 by omega,zE]
   have hp1:p1=pg:=by rw [ZbQ (ZcL hb.2),ZgK,Zle,hpg] at u2;simpa using u2
   subst hx1 hp1
   refine ⟨ls++[ea],ls++[eb],x1,p1,none,r1,(by intro j e;cases e),B1+2,fun k n hk hn=> ?_⟩
   obtain ⟨n,rfl⟩:∃n',n=n'+2:=⟨n-2,by omega⟩
   have q1:=e1 k (by omega);dsimp only at q1
   constructor
   ·rw [ZcE,if_pos (by rw [hx];show (-1:Int)<0;decide),q1.1]
    simp only [Option.bind_some]
    rw [Zm0 _ _ (by omega)]
    simp only [Option.bind_some,Zf3 hb.1,Bool.false_eq_true,if_false,t1]
   ·rw [Js,if_pos (by rw [hp];show (-1:Int)<0;decide),q1.2]
    simp only [Option.bind_some]
    rw [Zm0 _ _ (by omega)]
    simp only [Option.bind_some,UF (ZcL hb.2),ZgK,Bool.false_eq_true,if_false,u2]
    rw [Js,if_neg (by omega)]
 | succ d ih=>
  intro x p o ls li h hd hg
  cases o with
  | none=>exact ih x p none ls li h (by intro j e;cases e) (by intro j e;cases e)
  | some j=>
   obtain ⟨hj,hx,hp⟩:=id h
   obtain ⟨ea,eb,x1,p1,o1,r1,g1,B1,e1⟩:=hA _ (hd j rfl).2 x p (some j) h (fun j' e=>by cases e;exact Nat.le_refl _)
   have hlen:=ok.len
   obtain ⟨hl1,hl2,hl3,hl4⟩:=hg j rfl
   subst hl1
   have sx:x.bad<0:=by rw [hx];show (-1:Int)<0;decide
   have sp:p.bad<0:=by rw [hp];show (-1:Int)<0;decide
   obtain ⟨bc,c1,c2,c3⟩:=Zl1 ok r1 hc
   obtain ⟨bm,m1,m2,m3⟩:=Zl1 ok r1 ZhW
   cases bc with
   | true=>
    obtain ⟨j1,rfl,hl,r2,c4⟩:=c3 rfl
    obtain ⟨rfl,j2,ej,g2,g3⟩:=g1 j1 rfl
    cases ej
    have hm:=c4 ZaQ ZhW (Ne.symm hcc)
    have t1:ZC x1 c=some (adS x1):=by unfold ZC;rw [c2];rfl
    refine ⟨ls++[ea],ls++[ea],adS x1,adI p1,some (j1+1),r2,fun j' e=> ?_,B1+2,fun k n hk hn=> ?_⟩
    ·cases e
     refine ⟨rfl,by omega, ?_⟩
     rw [ZoF];omega
    ·obtain ⟨n,rfl⟩:∃n',n=n'+2:=⟨n-2,by omega⟩
     have q1:=e1 k (by omega);dsimp only at q1
     constructor
     ·rw [ZcE,if_pos sx,q1.1]
      simp only [Option.bind_some]
      rw [Zm0 _ _ (by omega)]
      simp only [Option.bind_some,hm,Bool.false_eq_true,if_false,t1]
     ·rw [Js,if_pos sp,q1.2]
      simp only [Option.bind_some]
      rw [Zm0 _ _ (by omega)]
      simp only [Option.bind_some,c1,if_true]
   | false=>
    cases bm with
    | true=>
     obtain ⟨j1,rfl,hl,r2,m4⟩:=m3 rfl
     obtain ⟨rfl,j2,ej,g2,g3⟩:=g1 j1 rfl
     cases ej
     have n1:Zs p1 ZaQ=some (adI p1):=by
      obtain ⟨hj1,hx1,hp1⟩:=r1
      subst hp1 hx1
      rw [ZbQ (ZaC hj1)]
      have:=Zpb ok hj1 ZaQ
      rw [ZdO ok hj1] at m2
      have h5:ZbK T j1 ZaQ=true:=by simpa using m2
      rw [Bool.or_comm,this,h5];rfl
     obtain ⟨ls',li',x',p',o',r3,g4,B2,e2⟩:=ih (adS x1) (adI p1) (some (j1+1)) (ls++[ea]) (ls++[ea]) r2 (fun j' e=>by cases e;have:=hd j rfl;omega) (fun j' e=>by
      cases e
      refine ⟨rfl,by omega, ?_,by simp;omega⟩
      rw [ZoF];omega)
     refine ⟨ls',li',x',p',o',r3,g4,max B1 B2+2,fun k n hk hn=> ?_⟩
     obtain ⟨n,rfl⟩:∃n',n=n'+1:=⟨n-1,by omega⟩
     have q1:=e1 k (by omega);dsimp only at q1
     have q2:=e2 k n (by omega) (by omega)
     constructor
     ·rw [ZcE,if_pos sx,q1.1]
      simp only [Option.bind_some]
      rw [Zm0 _ _ (by omega)]
      simp only [Option.bind_some,m2,if_true]
      exact q2.1
     ·rw [Js,if_pos sp,q1.2]
      simp only [Option.bind_some]
      rw [Zm0 _ _ (by omega)]
      simp only [Option.bind_some,c1,Bool.false_eq_true,if_false,n1]
      exact q2.2
    | false=>
     obtain ⟨xf,pf,f1,f2,f3⟩:=Zn2 ok r1
     have t1:ZC x1 c=some xf:=by unfold ZC;rw [c2];simp [f1]
     have n1:Zs p1 ZaQ=some pf:=by
      cases o1 with
      | none=>rw [ZbQ (ZcL (r1.bad ok).2),ZgK,Zle,f2];rfl
      | some j1=>
       obtain ⟨hj1,hx1,hp1⟩:=r1
       subst hp1 hx1
       rw [ZbQ (ZaC hj1)]
       have:=Zpb ok hj1 ZaQ
       rw [ZdO ok hj1] at m2
       have h5:ZbK T j1 ZaQ=false:=by simpa using m2
       rw [Bool.or_comm,this,h5,f2];rfl
     have hb:=f3.bad ok
     refine ⟨ls++[ea],ls++[eb],xf,pf,none,f3,(by intro j e;cases e),B1+2,fun k n hk hn=> ?_⟩
     obtain ⟨n,rfl⟩:∃n',n=n'+2:=⟨n-2,by omega⟩
     have q1:=e1 k (by omega);dsimp only at q1
     constructor
     ·rw [ZcE,if_pos sx,q1.1]
      simp only [Option.bind_some]
      rw [Zm0 _ _ (by omega)]
      simp only [Option.bind_some,m2,Bool.false_eq_true,if_false,t1]
     ·rw [Js,if_pos sp,q1.2]
      simp only [Option.bind_some]
      rw [Zm0 _ _ (by omega)]
      simp only [Option.bind_some,c1,Bool.false_eq_true,if_false,n1]
      rw [Js,if_neg (by omega)]
theorem lists (ok:Zd9 T E) (m:Nat) (hA:∀m',m'≤m→AgN T E m' Zy Zm) (c:ByteArray) (hc:Znh c) (hcc:c≠ZaQ) (x:Zd) (p:Zf) (o:Option Nat) (h:Rl T E x p o) (hd:∀j,o=some j→T.length-j≤m):
  ∃ls li x' p' o',Rl T E x' p' o'∧(∀j',o'=some j'→ls=li∧∃j,o=some j∧j<j'∧lw ls≤200*(j'-j-1))∧Ev fun k=>X5 k x c=some (ls,x')∧Yq k p c=some (li,p'):=by
 obtain ⟨bc,c1,c2,c3⟩:=Zl1 ok h hc
 cases bc with
 | true=>
  obtain ⟨j,rfl,hl,r2,_⟩:=c3 rfl
  refine ⟨[],[],adS x,adI p,some (j+1),r2,fun j' e=>⟨rfl,j,rfl,by cases e;omega,by simp [lw]⟩,1,fun k hk=> ?_⟩
  obtain ⟨k,rfl⟩:∃n',k=n'+1:=⟨k-1,by omega⟩
  exact ⟨by rw [Zox,c2];rfl,by rw [ZoL,c1];rfl⟩
 | false=>
  obtain ⟨j0,hj0⟩:∃j0,∀j,o=some j→j=j0:=by
   cases o with
   | none=>exact ⟨0,by simp⟩
   | some j=>exact ⟨j,by simp⟩
  obtain ⟨ls,li,x',p',o',r1,g1,B,e1⟩:=Zmz ok m hA c hc hcc j0 m x p o [] [] h (fun j e=>⟨hd j e,hd j e⟩) (fun j e=>⟨rfl,by rw [hj0 j e];exact Nat.le_refl _,by simp [lw],by simp⟩)
  refine ⟨ls,li,x',p',o',r1,fun j' e=> ?_,B+1,fun k hk=> ?_⟩
  ·obtain ⟨h1,h2,h3⟩:=g1 j' e
   cases o with
   | some j=>have:=hj0 j rfl;subst this;exact ⟨h1,j,rfl,h2,h3⟩
   | none=>
    exfalso
    have q:=(e1 (B+1) (B+1) (by omega) (by omega)).2
    have hb:=h.bad ok
    rw [Js,if_neg (by omega)] at q
    have:p=p':=by simpa using congrArg (fun y=>y.map Prod.snd) q
    subst this
    rw [e] at r1
    have:=r1.2.2
    rw [this] at hb;exact absurd hb.2 (by show ¬(0:Int)≤ -1;decide)
  ·obtain ⟨k,rfl⟩:∃n',k=n'+1:=⟨k-1,by omega⟩
   have q:=e1 k k (by omega) (by omega)
   exact ⟨by rw [Zox,c2];simp only [Option.bind_some,Bool.false_eq_true,if_false];exact q.1,by rw [ZoL,c1];simp only [Option.bind_some,Bool.false_eq_true,if_false];exact q.2⟩
end
end Go.Proofs.YtfapaeabfcogkaaGreatDoor
namespace Go.Proofs.YtfapaeabfcogkaaGreatDoor
open Go.RowKit Am
def ZnH:ByteArray:=⟨#[40]⟩
def Zqx:ByteArray:=⟨#[41]⟩
def ZqC:ByteArray:=⟨#[91]⟩
def ZtL:ByteArray:=⟨#[93]⟩
def eqS:ByteArray:=⟨#[61]⟩
def ZmB:ByteArray:=⟨#[60]⟩
def Zmb:ByteArray:=⟨#[61,61]⟩
def Zte:ByteArray:=⟨#[108,101,116]⟩
def kIn:ByteArray:=⟨#[105,110]⟩
def kIf:ByteArray:=⟨#[105,102]⟩
def ZmC:ByteArray:=⟨#[116,104,101,110]⟩
def ZmD:ByteArray:=⟨#[101,108,115,101]⟩
def Ztf:ByteArray:=⟨#[102,111,114]⟩
def kDo:ByteArray:=⟨#[100,111]⟩
theorem ZwB (t:ByteArray):∃z,Z8 t=some z∧ZM t=some z:=by
 obtain ⟨z,h⟩:=Zc4 t
 exact ⟨z,by rw [show Z8 t=ZM t by unfold Z8 ZM;rfl,h],h⟩
section
variable {T:List Zi} {E:Int}
theorem Zqk (ok:Zd9 T E) (m:Nat) (IH:∀m',m'<m→AgN T E m' Zy Zm):AgN T E m Z3 Zx:=by
 intro x p o h hd
 obtain ⟨xf,pf,f1,f2,f3⟩:=Zn2 ok h
 have hlen:=ok.len
 have bad:(∀k,200≤k→Z3 (k+1) x=some (zE,xf)∧Zx (k+1) p=some (zE,pf))→Ag T E o (fun k=>Z3 k x) (fun k=>Zx k p):=by
  intro hk
  refine ⟨zE,zE,xf,pf,none,f3,(by intro j e;cases e),201,fun k hk2=> ?_⟩
  obtain ⟨k,rfl⟩:∃n',k=n'+1:=⟨k-1,by omega⟩
  exact hk k (by omega)
 have symz:∀s,ZE p=some (zT,p)→Zk p s=some (false,p):=fun s hn=>by rw [UF hn,ZgK];rfl
 have badI:∀k,ZE p=some (zT,p)→Zx (k+1) p=some (zE,pf):=by
  intro k hn
  rw [Zx,hn]
  simp only [Option.bind_some]
  simp [zT,symz _ hn,f2]
 cases o with
 | none=>
  have hb:=h.bad ok
  refine bad fun k hk=>⟨?_,badI k (ZcL hb.2)⟩
  rw [Z3]
  simp [show 0≤x.bad from hb.1,f1]
 | some j=>
  obtain ⟨hj,hx,hp⟩:=id h
  cases e:T[j]? with
  | none=>
   have hl:T.length≤j:=List.getElem?_eq_none_iff.1 e
   refine bad fun k hk=>⟨?_,badI k (by rw [hp,ZaC hj,e];rfl)⟩
   rw [Z3,hx]
   rw [hx] at f1
   simp [show ((T.length:Int)≤(j:Int)) by omega,f1]
  | some t=>
   obtain ⟨hl,rfl⟩:=List.getElem?_eq_some_iff.1 e
   have hm:=List.getElem_mem hl
   have htx:=ok.tx _ hm
   have ad:=ZrS ok hl
   rw [←hx,←hp] at ad
   have hnx:ZE p=some (T[j],p):=by rw [hp,ZaC hj,e];rfl
   have sgood:∀k,Z3 (k+1) x=(at? T (j:Int)).bind fun x3=>
     if (decide (x3.kind=2))=true then (ZcA x3.n).bind fun x4=>some (x4,adS x)
     else if (decide (x3.kind=3))=true then some ((Zb.mk 2 0 x3.text []),adS x)
     else (if (decide (x3.kind=1))=true then (Z0 k x3.text).bind fun x6=>some x6 else some false).bind fun x5=>
      if x5=true then (Zay x3.text).bind fun x7=>some (x7,adS x)
      else (if (decide (x3.kind=1))=true then (Z8 x3.text).bind fun x9=>some (decide (0≤x9)) else some false).bind fun x8=>
       if x8=true then (ZC (adS x) ZnH).bind fun x10=>(X5 k x10 Zqx).bind fun x11=>some ((Zb.mk 5 0 x3.text x11.1),x11.2)
       else (WB x3 ZqC).bind fun x12=>if x12=true then (X5 k (adS x) ZtL).bind fun x13=>some ((Zb.mk 4 0 (⟨#[]⟩:ByteArray) x13.1),x13.2)
        else (WB x3 ZnH).bind fun x14=>if x14=true then (Zy k (adS x)).bind fun x15=>(ZC x15.2 Zqx).bind fun x16=>some (x15.1,x16)
         else (YR x).bind fun x17=>some (x17.1,x17.2):=by
    intro k
    rw [Z3,hx]
    simp only [show ¬((0:Int)≤ -1) by omega,decide_false,Bool.false_eq_true,if_false,show ¬((T.length:Int)≤(j:Int)) by omega,Option.bind_some]
    rfl
   have igood:∀k,Zx (k+1) p=
     if (decide (T[j].kind=2))=true then some ((Zb.mk 1 T[j].n (⟨#[]⟩:ByteArray) []),adI p)
     else if (decide (T[j].kind=3))=true then some ((Zb.mk 2 0 T[j].text []),adI p)
     else (if (decide (T[j].kind=1))=true then (Z2 k T[j].text).bind fun x3=>some x3 else some false).bind fun x2=>
      if x2=true then some ((Zb.mk 3 0 T[j].text []),adI p)
      else (if (decide (T[j].kind=1))=true then (ZM T[j].text).bind fun x5=>some (decide (0≤x5)) else some false).bind fun x4=>
       if x4=true then (Zs (adI p) ZnH).bind fun x6=>(Yq k x6 Zqx).bind fun x7=>some ((Zb.mk 5 0 T[j].text x7.1),x7.2)
       else if Za1 T[j] ZqC=true then (Yq k (adI p) ZtL).bind fun x9=>some ((Zb.mk 4 0 (⟨#[]⟩:ByteArray) x9.1),x9.2)
        else if Za1 T[j] ZnH=true then (Zm k (adI p)).bind fun x11=>(Zs x11.2 Zqx).bind fun x12=>some (x11.1,x12)
         else (Yt p).bind fun x13=>some (x13.1,x13.2):=by
    intro k
    rw [Zx,hnx]
    simp only [Option.bind_some]
    have s1:Zk p (⟨#[91]⟩:ByteArray)=some (Za1 T[j] ZqC,if Za1 T[j] ZqC=true then adI p else p):=UF hnx _
    have s2:Zk p (⟨#[40]⟩:ByteArray)=some (Za1 T[j] ZnH,if Za1 T[j] ZnH=true then adI p else p):=UF hnx _
    rw [s1]
    simp only [Option.bind_some]
    cases hb1:Za1 T[j] ZqC
    ·simp only [Bool.false_eq_true,if_false]
     rw [s2]
     cases hb2:Za1 T[j] ZnH<;>rfl
    ·rfl
   have done:∀(ex:Zb),ex.bk+1≤200→(∀k,200≤k→Z3 (k+1) x=some (ex,adS x)∧Zx (k+1) p=some (ex,adI p))→Ag T E (some j) (fun k=>Z3 k x) (fun k=>Zx k p):=by
    intro ex hbk hk
    refine ⟨ex,ex,adS x,adI p,some (j+1),ad,fun j' e=>⟨rfl,j,rfl,by cases e;omega,by cases e;omega⟩,201,fun k hk2=> ?_⟩
    obtain ⟨k,rfl⟩:∃n',k=n'+1:=⟨k-1,by omega⟩
    exact hk k (by omega)
   have hat:at? T (j:Int)=some T[j]:=Qe hl
   have hn0:T.length-(j+1)<m:=by have:=hd j rfl;omega
   obtain ⟨z,z1,z2⟩:=ZwB T[j].text
   have vn:∀k,200≤k→Z0 k T[j].text=some (WN T[j].text)∧Z2 k T[j].text=some (WN T[j].text):=fun k hk=>UE _ (by omega) (by omega) (by omega)
   by_cases k2:T[j].kind=2
   ·refine done ⟨1,T[j].n,⟨#[]⟩,[]⟩ (by rw [Ziq];simp [lw];try decide) fun k hk=>⟨?_, ?_⟩
    ·rw [sgood,hat];simp only [Option.bind_some,k2,decide_true,if_true,ZcA]
    ·rw [igood];simp only [k2,decide_true,if_true]
   by_cases k3:T[j].kind=3
   ·refine done ⟨2,0,T[j].text,[]⟩ (by rw [Ziq];simp [lw];omega) fun k hk=>⟨?_, ?_⟩
    ·rw [sgood,hat];simp [k3]
    ·rw [igood];simp [k3]
   by_cases k1:T[j].kind=1
   ·have nosym:∀s,Za1 T[j] s=false:=fun s=>by simp [Za1,k1]
    cases hv:WN T[j].text with
    | true=>
     refine done ⟨3,0,T[j].text,[]⟩ (by rw [Ziq];simp [lw];omega) fun k hk=>⟨?_, ?_⟩
     ·rw [sgood,hat];simp [k1,(vn k hk).1,hv,Zay]
     ·rw [igood];simp [k1,(vn k hk).2,hv]
    | false=>
     by_cases hz:0≤z
     ·obtain ⟨x1,p1,o1,t1,t2,r1,g1⟩:=ZgJ ok ad ZnH
      obtain ⟨ls,li,x2,p2,o2,r2,g2,B,e2⟩:=lists ok (m-1) (fun m' hm'=>IH m' (by omega)) Zqx ⟨41,[],rfl,by decide⟩ (by decide) x1 p1 o1 r1 (fun j' e=>by obtain ⟨j2,e2,h2⟩:=g1 j' e;cases e2;omega)
      refine ⟨⟨5,0,T[j].text,ls⟩,⟨5,0,T[j].text,li⟩,x2,p2,o2,r2,fun j' e=> ?_,max B 200+1,fun k hk=> ?_⟩
      ·obtain ⟨rfl,j2,e3,h3,h4⟩:=g2 j' e
       obtain ⟨j3,e4,h5⟩:=g1 j2 e3
       cases e4
       refine ⟨rfl,j,rfl,by omega, ?_⟩
       rw [Ziq];omega
      ·obtain ⟨k,rfl⟩:∃n',k=n'+1:=⟨k-1,by omega⟩
       have q:=e2 k (by omega);dsimp only at q
       have v:=vn k (by omega)
       dsimp only
       constructor
       ·rw [sgood,hat];simp [k1,v.1,hv,z1,hz,t1,q.1]
       ·rw [igood];simp [k1,v.2,hv,z2,hz,t2,q.2]
     ·refine bad fun k hk=>⟨?_, ?_⟩
      ·rw [sgood,hat];simp [k1,(vn k hk).1,hv,z1,hz,Zcu,nosym,f1]
      ·rw [igood];simp [k1,(vn k hk).2,hv,z2,hz,nosym,f2]
   ·cases hs1:Za1 T[j] ZqC with
    | true=>
     obtain ⟨ls,li,x2,p2,o2,r2,g2,B,e2⟩:=lists ok (m-1) (fun m' hm'=>IH m' (by omega)) ZtL ⟨93,[],rfl,by decide⟩ (by decide) (adS x) (adI p) _ ad (fun j' e=>by cases e;omega)
     refine ⟨⟨4,0,⟨#[]⟩,ls⟩,⟨4,0,⟨#[]⟩,li⟩,x2,p2,o2,r2,fun j' e=> ?_,max B 200+1,fun k hk=> ?_⟩
     ·obtain ⟨rfl,j2,e3,h3,h4⟩:=g2 j' e
      cases e3
      refine ⟨rfl,j,rfl,by omega, ?_⟩
      rw [Ziq];have h0:(⟨#[]⟩:ByteArray).size=0:=rfl;omega
     ·obtain ⟨k,rfl⟩:∃n',k=n'+1:=⟨k-1,by omega⟩
      have q:=e2 k (by omega);dsimp only at q
      dsimp only
      constructor
      ·rw [sgood,hat];simp [k1,k2,k3,Zcu,hs1,q.1]
      ·rw [igood];simp [k1,k2,k3,hs1,q.2]
    | false=>
     cases hs2:Za1 T[j] ZnH with
     | true=>
      obtain ⟨ea,eb,x1,p1,o1,r1,g1,B,e1⟩:=IH _ hn0 (adS x) (adI p) _ ad (fun j' e=>by cases e;exact Nat.le_refl _)
      obtain ⟨x2,p2,o2,t1,t2,r2,g2⟩:=ZgJ ok r1 Zqx
      refine ⟨ea,eb,x2,p2,o2,r2,fun j' e=> ?_,max B 200+1,fun k hk=> ?_⟩
      ·obtain ⟨j2,e3,h3⟩:=g2 j' e
       obtain ⟨h4,j3,e4,h5,h6⟩:=g1 j2 e3
       cases e4
       exact ⟨h4,j,rfl,by omega,by omega⟩
      ·obtain ⟨k,rfl⟩:∃n',k=n'+1:=⟨k-1,by omega⟩
       have q:=e1 k (by omega);dsimp only at q
       dsimp only
       constructor
       ·rw [sgood,hat];simp [k1,k2,k3,Zcu,hs1,hs2,q.1,t1]
       ·rw [igood];simp [k1,k2,k3,hs1,hs2,q.2,t2]
     | false=>
      refine bad fun k hk=>⟨?_, ?_⟩
      ·rw [sgood,hat];simp [k1,k2,k3,Zcu,hs1,hs2,f1]
      ·rw [igood];simp [k1,k2,k3,hs1,hs2,f2]
theorem Zph (ok:Zd9 T E) (m:Nat) (hA:∀m',m'≤m→AgN T E m' Z3 Zx):AgN T E m ZI Zv:=by
 intro x p o h hd
 obtain ⟨ea,eb,x1,p1,o1,r1,g1,B1,e1⟩:=hA m (Nat.le_refl _) x p o h hd
 obtain ⟨j0,hj0⟩:∃j0,∀j,o=some j→j=j0:=by
  cases o with
  | none=>exact ⟨0,by simp⟩
  | some j=>exact ⟨j,by simp⟩
 obtain ⟨es,ei,x2,p2,o2,r2,g2,B2,e2⟩:=Zmn ok m (fun m' hm'=>hA m' (by omega)) j0 m x1 p1 o1 ea eb r1
  (fun j e=>by obtain ⟨_,j2,e3,h3,_⟩:=g1 j e;have:=hd j2 e3;omega)
  (fun j e=>by obtain ⟨h2,j2,e3,h3,h4⟩:=g1 j e;have:=hj0 j2 e3;subst this;exact ⟨h2,h3,h4⟩)
 refine ⟨es,ei,x2,p2,o2,r2,fun j' e=> ?_,max B1 B2+1,fun k hk=> ?_⟩
 ·obtain ⟨h1,h2,h3⟩:=g2 j' e
  cases o with
  | some j=>have:=hj0 j rfl;subst this;exact ⟨h1,j,rfl,h2,h3⟩
  | none=>
   exfalso
   have ho1:o1=none:=by cases o1 with | none=>rfl| some j1=>obtain ⟨_,j2,e3,_⟩:=g1 j1 rfl;cases e3
   subst ho1
   have q:=(e2 (B2+1) (B2+1) (by omega) (by omega)).2
   have hb:=r1.bad ok
   rw [Zeo,UF (ZcL hb.2),ZgK] at q
   simp only [Option.bind_some,Bool.false_eq_true,if_false,Option.some.injEq,Prod.mk.injEq] at q
   rw [e,←q.2] at r2
   have:=r2.2.2
   rw [this] at hb;exact absurd hb.2 (by show ¬(0:Int)≤ -1;decide)
 ·obtain ⟨k,rfl⟩:∃n',k=n'+1:=⟨k-1,by omega⟩
  have q1:=e1 k (by omega);dsimp only at q1
  have q2:=e2 k k (by omega) (by omega);dsimp only at q2
  dsimp only
  exact ⟨by rw [ZqZ,q1.1];exact q2.1,by rw [Zri,q1.2];exact q2.2⟩
theorem ZqS (ok:Zd9 T E) (m:Nat) (hA:∀m',m'≤m→AgN T E m' ZI Zv):AgN T E m Xa ZU:=by
 intro x p o h hd
 obtain ⟨ea,eb,x1,p1,o1,r1,g1,B1,e1⟩:=hA m (Nat.le_refl _) x p o h hd
 obtain ⟨j0,hj0⟩:∃j0,∀j,o=some j→j=j0:=by
  cases o with
  | none=>exact ⟨0,by simp⟩
  | some j=>exact ⟨j,by simp⟩
 obtain ⟨es,ei,x2,p2,o2,r2,g2,B2,e2⟩:=Znr ok m (fun m' hm'=>hA m' (by omega)) j0 m x1 p1 o1 ea eb r1
  (fun j e=>by obtain ⟨_,j2,e3,h3,_⟩:=g1 j e;have:=hd j2 e3;omega)
  (fun j e=>by obtain ⟨h2,j2,e3,h3,h4⟩:=g1 j e;have:=hj0 j2 e3;subst this;exact ⟨h2,h3,h4⟩)
 refine ⟨es,ei,x2,p2,o2,r2,fun j' e=> ?_,max B1 B2+1,fun k hk=> ?_⟩
 ·obtain ⟨h1,h2,h3⟩:=g2 j' e
  cases o with
  | some j=>have:=hj0 j rfl;subst this;exact ⟨h1,j,rfl,h2,h3⟩
  | none=>
   exfalso
   have ho1:o1=none:=by cases o1 with | none=>rfl| some j1=>obtain ⟨_,j2,e3,_⟩:=g1 j1 rfl;cases e3
   subst ho1
   have q:=(e2 (B2+1) (B2+1) (by omega) (by omega)).2
   have hb:=r1.bad ok
   rw [Zhc,if_neg (by omega)] at q
   simp only [Option.some.injEq,Prod.mk.injEq] at q
   rw [e,←q.2] at r2
   have:=r2.2.2
   rw [this] at hb;exact absurd hb.2 (by show ¬(0:Int)≤ -1;decide)
 ·obtain ⟨k,rfl⟩:∃n',k=n'+1:=⟨k-1,by omega⟩
  have q1:=e1 k (by omega);dsimp only at q1
  have q2:=e2 k k (by omega) (by omega);dsimp only at q2
  dsimp only
  exact ⟨by rw [ZqY,q1.1];exact q2.1,by rw [Zrh,q1.2];exact q2.2⟩
end
end Go.Proofs.YtfapaeabfcogkaaGreatDoor
namespace Go.Proofs.YtfapaeabfcogkaaGreatDoor
open Go.RowKit Am
def iCL (r:Zf→Option (Zb×Zf)) (y:Zb×Zf) (n:Nat) (p:Zf) (i:Int):Option (Zb×Zf):=
 (Yd r y n p.list p.at_ p.bad i:Option (((List Zi)×Int×Int) ⊕ (Zb×Zf))).bind fun
  | .inl (a,b,c)=>some (y.1,⟨a,b,c⟩)
  | .inr z=>some z
theorem Zv9:J0 4=some ZmB:=by decide+kernel
theorem Zv8:J0 5=some Zmb:=by decide+kernel
theorem Ztj (r:Zf→Option (Zb×Zf)) (y:Zb×Zf) (n:Nat) (p:Zf):iCL r y (n+1) p 0=(Zk p ZmB).bind fun s=>if s.1=true then (r s.2).bind fun w=>some (opE 4 y.1 w.1,w.2) else iCL r y n s.2 1:=by
 unfold iCL
 rw [Yd]
 have h1:at? [(4:Int),5] 0=some 4:=rfl
 have h2:IntKind.i64.wrap (0+1)=1:=by decide
 simp only [h1,h2,Option.bind_some,Zv9,show (decide ((0:Int)<(([4,5]:List Nat).length:Int)))=true from rfl,if_true]
 rcases Zk p ZmB with _| ⟨b,q⟩
 ·rfl
 ·cases b
  ·simp only [Option.bind_some,Bool.false_eq_true,if_false]
  ·simp only [Option.bind_some,if_true]
   rcases r q with _| ⟨a,z⟩<;>rfl
theorem Zt3 (r:Zf→Option (Zb×Zf)) (y:Zb×Zf) (n:Nat) (p:Zf):iCL r y (n+2) p 1=(Zk p Zmb).bind fun s=>if s.1=true then (r s.2).bind fun w=>some (opE 5 y.1 w.1,w.2) else some (y.1,s.2):=by
 unfold iCL
 rw [Yd]
 have h1:at? [(4:Int),5] 1=some 5:=rfl
 have h2:IntKind.i64.wrap (1+1)=2:=by decide
 simp only [h1,h2,Option.bind_some,Zv8,show (decide ((1:Int)<(([4,5]:List Nat).length:Int)))=true from rfl,if_true]
 rcases Zk p Zmb with _| ⟨b,q⟩
 ·rfl
 ·cases b
  ·simp only [Option.bind_some,Bool.false_eq_true,if_false]
   rw [Yd]
   simp only [show (decide ((2:Int)<(([4,5]:List Nat).length:Int)))=false from rfl,Bool.false_eq_true,if_false,Option.bind_some]
  ·simp only [Option.bind_some,if_true]
   rcases r q with _| ⟨a,z⟩<;>rfl
theorem Zmg (k:Nat) (x:Zd):Qp (k+1) x=(Xa k x).bind fun y=>(Zt y.2 ZmB).bind fun u=>if u.1=true then (Xa k (adS u.2)).bind fun w=>some (opE 4 y.1 w.1,w.2) else (Zt u.2 Zmb).bind fun v=>if v.1=true then (Xa k (adS v.2)).bind fun w=>some (opE 5 y.1 w.1,w.2) else some (y.1,v.2):=by
 rw [Qp];rfl
theorem Zj5 (k:Nat) (x:Zd):Zy (k+1) x=(Zt x Zte).bind fun y=>
  if y.1=true then (XJ k (adS y.2)).bind fun n=>(ZC n.2 eqS).bind fun z=>(Zy k z).bind fun a=>(ZC a.2 kIn).bind fun u=>(Zy k u).bind fun b=>some (⟨7,0,n.1,[a.1,b.1]⟩,b.2)
  else (Zt y.2 kIf).bind fun y=>if y.1=true then (Zy k (adS y.2)).bind fun a=>(ZC a.2 ZmC).bind fun z=>(Zy k z).bind fun b=>(ZC b.2 ZmD).bind fun u=>(Zy k u).bind fun c=>some (⟨8,0,⟨#[]⟩,[a.1,b.1,c.1]⟩,c.2)
  else (Zt y.2 Ztf).bind fun y=>if y.1=true then (XJ k (adS y.2)).bind fun n=>(ZC n.2 kIn).bind fun z=>(Zy k z).bind fun a=>(ZC a.2 kDo).bind fun u=>(Zy k u).bind fun b=>some (⟨9,0,n.1,[a.1,b.1]⟩,b.2)
  else (Qp k y.2).bind fun z=>some (z.1,z.2):=by
 rw [Zy];rfl
theorem Zkh (k:Nat) (p:Zf) (t:Zi) (h:ZE p=some (t,p)) {b1 b2 b3:Bool} (h1:Yz t Zte=some b1) (h2:Yz t kIf=some b2) (h3:Yz t Ztf=some b3):Zm (k+1) p=
  if b1=true then (Ys k (adI p)).bind fun n=>(Zs n.2 eqS).bind fun z=>(Zm k z).bind fun a=>(Wq 56 ([]:List Zb) [a.1]).bind fun l=>(Zs a.2 kIn).bind fun u=>(Zm k u).bind fun b=>(Wq 56 l [b.1]).bind fun l2=>some (⟨7,0,n.1,l2⟩,b.2)
  else if b2=true then (Zm k (adI p)).bind fun a=>(Wq 56 ([]:List Zb) [a.1]).bind fun l=>(Zs a.2 ZmC).bind fun z=>(Zm k z).bind fun b=>(Wq 56 l [b.1]).bind fun l2=>(Zs b.2 ZmD).bind fun u=>(Zm k u).bind fun c=>(Wq 56 l2 [c.1]).bind fun l3=>some (⟨8,0,⟨#[]⟩,l3⟩,c.2)
  else if b3=true then (Ys k (adI p)).bind fun n=>(Zs n.2 kIn).bind fun z=>(Zm k z).bind fun a=>(Wq 56 ([]:List Zb) [a.1]).bind fun l=>(Zs a.2 kDo).bind fun u=>(Zm k u).bind fun b=>(Wq 56 l [b.1]).bind fun l2=>some (⟨9,0,n.1,l2⟩,b.2)
  else (ZU k p).bind fun y=>iCL (ZU k) y k y.2 0:=by
 have g1:Yz t ⟨#[108,101,116]⟩=some b1:=h1
 have g2:Yz t ⟨#[105,102]⟩=some b2:=h2
 have g3:Yz t ⟨#[102,111,114]⟩=some b3:=h3
 rw [Zm]
 simp only [h,Option.bind_some,g1,g2,g3]
 cases b1
 ·cases b2
  ·cases b3
   ·rfl
   ·rfl
  ·rfl
 ·rfl
section
variable {T:List Zi} {E:Int}
theorem ZrF (ok:Zd9 T E) (m:Nat) (hS:∀m',m'≤m→AgN T E m' Xa ZU):AgN T E m Qp (fun k p=>(ZU k p).bind fun y=>iCL (ZU k) y k y.2 0):=by
 intro x p o h hd
 obtain ⟨ea,eb,x1,p1,o1,r1,g1,B1,e1⟩:=hS m (Nat.le_refl _) x p o h hd
 obtain ⟨b,s1,s2,s3⟩:=Ki ok r1 (s:=ZmB) ⟨60,[],rfl,by decide⟩
 cases b with
 | true=>
  obtain ⟨j1,rfl,hl,r2⟩:=s3 rfl
  obtain ⟨rfl,j,rfl,h2,h3⟩:=g1 j1 rfl
  have hj:=hd j rfl
  obtain ⟨fa,fb,x2,p2,o2,r3,g3,B2,e2⟩:=hS (T.length-(j1+1)) (by omega) _ _ _ r2 (fun j' e=>by cases e;exact Nat.le_refl _)
  refine ⟨opE 4 ea fa,opE 4 ea fb,x2,p2,o2,r3,fun j' e=> ?_,max B1 B2+2,fun k hk=> ?_⟩
  ·obtain ⟨rfl,j2,e3,h4,h5⟩:=g3 j' e
   cases e3
   exact ⟨rfl,j,rfl,by omega,by rw [Zmp];omega⟩
  ·obtain ⟨k,rfl⟩:∃n',k=n'+1:=⟨k-1,by omega⟩
   have q1:=e1 k (by omega);dsimp only at q1
   have q2:=e2 k (by omega);dsimp only at q2
   have q1':=e1 (k+1) (by omega);dsimp only at q1'
   have q2':=e2 (k+1) (by omega);dsimp only at q2'
   dsimp only
   exact ⟨by rw [Zmg,q1.1];simp only [Option.bind_some,s1,if_true,q2.1],by rw [q1'.2];simp only [Option.bind_some];rw [Ztj,s2];simp only [Option.bind_some,if_true,q2'.2]⟩
 | false=>
  obtain ⟨c,t1,t2,t3⟩:=Ki ok r1 (s:=Zmb) ⟨61,[61],rfl,by decide⟩
  cases c with
  | true=>
   obtain ⟨j1,rfl,hl,r2⟩:=t3 rfl
   obtain ⟨rfl,j,rfl,h2,h3⟩:=g1 j1 rfl
   have hj:=hd j rfl
   obtain ⟨fa,fb,x2,p2,o2,r3,g3,B2,e2⟩:=hS (T.length-(j1+1)) (by omega) _ _ _ r2 (fun j' e=>by cases e;exact Nat.le_refl _)
   refine ⟨opE 5 ea fa,opE 5 ea fb,x2,p2,o2,r3,fun j' e=> ?_,max B1 B2+4,fun k hk=> ?_⟩
   ·obtain ⟨rfl,j2,e3,h4,h5⟩:=g3 j' e
    cases e3
    exact ⟨rfl,j,rfl,by omega,by rw [Zmp];omega⟩
   ·obtain ⟨k,rfl⟩:∃n',k=n'+3:=⟨k-3,by omega⟩
    have q1:=e1 (k+2) (by omega);dsimp only at q1
    have q2:=e2 (k+2) (by omega);dsimp only at q2
    have q1':=e1 (k+3) (by omega);dsimp only at q1'
    have q2':=e2 (k+3) (by omega);dsimp only at q2'
    dsimp only
    exact ⟨by rw [Zmg,q1.1];simp only [Option.bind_some,s1,Bool.false_eq_true,if_false,t1,if_true,q2.1],by rw [q1'.2];simp only [Option.bind_some];rw [Ztj,s2];simp only [Option.bind_some,Bool.false_eq_true,if_false];rw [Zt3,t2];simp only [Option.bind_some,if_true,q2'.2]⟩
  | false=>
   refine ⟨ea,eb,x1,p1,o1,r1,g1,B1+4,fun k hk=> ?_⟩
   obtain ⟨k,rfl⟩:∃n',k=n'+3:=⟨k-3,by omega⟩
   have q1:=e1 (k+2) (by omega);dsimp only at q1
   have q1':=e1 (k+3) (by omega);dsimp only at q1'
   dsimp only
   exact ⟨by rw [Zmg,q1.1];simp only [Option.bind_some,s1,Bool.false_eq_true,if_false,t1],by rw [q1'.2];simp only [Option.bind_some];rw [Ztj,s2];simp only [Option.bind_some,Bool.false_eq_true,if_false];rw [Zt3,t2];simp only [Option.bind_some,Bool.false_eq_true,if_false]⟩
theorem ZuO (a b:Zb):Wq 56 [a] [b]=some [a,b]:=Zm0 [a] b (by simp)
theorem ZuP (a:Zb):Wq 56 ([]:List Zb) [a]=some [a]:=Zm0 [] a (by simp)
theorem ZwC (a b c:Zb):Wq 56 [a,b] [c]=some [a,b,c]:=Zm0 [a,b] c (by simp)
theorem lw2 (a b:Zb):lw [a,b]=(a.bk+1)+(b.bk+1):=by simp [lw]
theorem lw3 (a b c:Zb):lw [a,b,c]=(a.bk+1)+(b.bk+1)+(c.bk+1):=by simp [lw];omega
theorem ZmW (ok:Zd9 T E) (m:Nat) (IH:∀m',m'<m→AgN T E m' Zy Zm) {x:Zd} {p:Zf} {j:Nat} (hj:T.length-j≤m) (hl:j<T.length) (r0:Rl T E x p (some (j+1))) (c1 c2:ByteArray) (kd:Int):
  Ag T E (some j) (fun k=>(XJ k x).bind fun n=>(ZC n.2 c1).bind fun z=>(Zy k z).bind fun a=>(ZC a.2 c2).bind fun u=>(Zy k u).bind fun b=>some (⟨kd,0,n.1,[a.1,b.1]⟩,b.2))
   (fun k=>(Ys k p).bind fun n=>(Zs n.2 c1).bind fun z=>(Zm k z).bind fun a=>(Wq 56 ([]:List Zb) [a.1]).bind fun l=>(Zs a.2 c2).bind fun u=>(Zm k u).bind fun b=>(Wq 56 l [b.1]).bind fun l2=>some (⟨kd,0,n.1,l2⟩,b.2)):=by
 obtain ⟨ns,ni,x1,p1,o1,r1,g1,v1⟩:=names ok r0
 obtain ⟨x2,p2,o2,t1,t2,r2,g2⟩:=ZgJ ok r1 c1
 obtain ⟨ea,eb,x3,p3,o3,r3,g3,B3,e3⟩:=IH (T.length-(j+1)) (by omega) _ _ _ r2 (fun j' e=>by obtain ⟨j2,e2,h2⟩:=g2 j' e;obtain ⟨_,_,j3,e4,h3⟩:=g1 j2 e2;cases e4;omega)
 obtain ⟨x4,p4,o4,u1,u2,r4,g4⟩:=ZgJ ok r3 c2
 obtain ⟨fa,fb,x5,p5,o5,r5,g5,B5,e5⟩:=IH (T.length-(j+1)) (by omega) _ _ _ r4 (fun j' e=>by
  obtain ⟨j2,e2,h2⟩:=g4 j' e;obtain ⟨_,j3,e4,h3,_⟩:=g3 j2 e2;obtain ⟨j4,e6,h4⟩:=g2 j3 e4;obtain ⟨_,_,j5,e7,h5⟩:=g1 j4 e6;cases e7;omega)
 refine ⟨⟨kd,0,ns,[ea,fa]⟩,⟨kd,0,ni,[eb,fb]⟩,x5,p5,o5,r5,fun j' e=> ?_,max B3 B5+200,fun k hk=> ?_⟩
 ·obtain ⟨rfl,j1,a1,a2,a3⟩:=g5 j' e
  obtain ⟨j2,b1,b2⟩:=g4 j1 a1
  obtain ⟨rfl,j3,c1,c2,c3⟩:=g3 j2 b1
  obtain ⟨j4,d1,d2⟩:=g2 j3 c1
  obtain ⟨rfl,f1,j5,f2,f3⟩:=g1 j4 d1
  cases f2
  exact ⟨rfl,j,rfl,by omega,by rw [Ziq,lw2];omega⟩
 ·have q1:=v1 k (by omega)
  have q3:=e3 k (by omega);dsimp only at q3
  have q5:=e5 k (by omega);dsimp only at q5
  dsimp only
  exact ⟨by simp only [q1.1,Option.bind_some,t1,q3.1,u1,q5.1],by simp only [q1.2,Option.bind_some,t2,q3.2,ZuP,u2,q5.2,ZuO]⟩
theorem Ztg (ok:Zd9 T E) (m:Nat) (IH:∀m',m'<m→AgN T E m' Zy Zm) {x:Zd} {p:Zf} {j:Nat} (hj:T.length-j≤m) (hl:j<T.length) (r0:Rl T E x p (some (j+1))):
  Ag T E (some j) (fun k=>(Zy k x).bind fun a=>(ZC a.2 ZmC).bind fun z=>(Zy k z).bind fun b=>(ZC b.2 ZmD).bind fun u=>(Zy k u).bind fun c=>some (⟨8,0,⟨#[]⟩,[a.1,b.1,c.1]⟩,c.2))
   (fun k=>(Zm k p).bind fun a=>(Wq 56 ([]:List Zb) [a.1]).bind fun l=>(Zs a.2 ZmC).bind fun z=>(Zm k z).bind fun b=>(Wq 56 l [b.1]).bind fun l2=>(Zs b.2 ZmD).bind fun u=>(Zm k u).bind fun c=>(Wq 56 l2 [c.1]).bind fun l3=>some (⟨8,0,⟨#[]⟩,l3⟩,c.2)):=by
 obtain ⟨ea,eb,x1,p1,o1,r1,g1,B1,e1⟩:=IH (T.length-(j+1)) (by omega) _ _ _ r0 (fun j' e=>by cases e;exact Nat.le_refl _)
 obtain ⟨x2,p2,o2,t1,t2,r2,g2⟩:=ZgJ ok r1 ZmC
 obtain ⟨fa,fb,x3,p3,o3,r3,g3,B3,e3⟩:=IH (T.length-(j+1)) (by omega) _ _ _ r2 (fun j' e=>by obtain ⟨j2,e2,h2⟩:=g2 j' e;obtain ⟨_,j3,e4,h3,_⟩:=g1 j2 e2;cases e4;omega)
 obtain ⟨x4,p4,o4,u1,u2,r4,g4⟩:=ZgJ ok r3 ZmD
 obtain ⟨ga,gb,x5,p5,o5,r5,g5,B5,e5⟩:=IH (T.length-(j+1)) (by omega) _ _ _ r4 (fun j' e=>by
  obtain ⟨j2,e2,h2⟩:=g4 j' e;obtain ⟨_,j3,e4,h3,_⟩:=g3 j2 e2;obtain ⟨j4,e6,h4⟩:=g2 j3 e4;obtain ⟨_,j5,e7,h5,_⟩:=g1 j4 e6;cases e7;omega)
 refine ⟨⟨8,0,⟨#[]⟩,[ea,fa,ga]⟩,⟨8,0,⟨#[]⟩,[eb,fb,gb]⟩,x5,p5,o5,r5,fun j' e=> ?_,max B1 (max B3 B5),fun k hk=> ?_⟩
 ·obtain ⟨rfl,j1,a1,a2,a3⟩:=g5 j' e
  obtain ⟨j2,b1,b2⟩:=g4 j1 a1
  obtain ⟨rfl,j3,c1,c2,c3⟩:=g3 j2 b1
  obtain ⟨j4,d1,d2⟩:=g2 j3 c1
  obtain ⟨rfl,j5,f2,f3,f4⟩:=g1 j4 d1
  cases f2
  have h0:(⟨#[]⟩:ByteArray).size=0:=rfl
  exact ⟨rfl,j,rfl,by omega,by rw [Ziq,lw3];omega⟩
 ·have q1:=e1 k (by omega);dsimp only at q1
  have q3:=e3 k (by omega);dsimp only at q3
  have q5:=e5 k (by omega);dsimp only at q5
  dsimp only
  exact ⟨by simp only [q1.1,Option.bind_some,t1,q3.1,u1,q5.1],by simp only [q1.2,Option.bind_some,t2,q3.2,ZuP,u2,q5.2,ZuO,ZwC]⟩
theorem Ag.next {o:Option Nat} {s s':Nat→Option (Zb×Zd)} {i i':Nat→Option (Zb×Zf)} (h:Ag T E o s i) (hs:∀k,s' (k+1)=s k) (hi:∀k,i' (k+1)=i k):Ag T E o s' i':=by
 obtain ⟨ea,eb,x1,p1,o1,r1,g1,B1,e1⟩:=h
 refine ⟨ea,eb,x1,p1,o1,r1,g1,B1+1,fun k hk=> ?_⟩
 obtain ⟨k,rfl⟩:∃n',k=n'+1:=⟨k-1,by omega⟩
 rw [hs,hi];exact e1 k (by omega)
theorem ZpX (ok:Zd9 T E) (m:Nat) (hS:∀m',m'≤m→AgN T E m' Xa ZU) (IH:∀m',m'<m→AgN T E m' Zy Zm):AgN T E m Zy Zm:=by
 intro x p o h hd
 obtain ⟨b1,t,a1,a2,a3,a4⟩:=Zi8 ok h (s:=Zte) ⟨108,[101,116],rfl,by decide⟩
 obtain ⟨b2,t',d1,d2,d3,d4⟩:=Zi8 ok h (s:=kIf) ⟨105,[102],rfl,by decide⟩
 obtain ⟨b3,t'',c1,c2,c3,c4⟩:=Zi8 ok h (s:=Ztf) ⟨102,[111,114],rfl,by decide⟩
 obtain rfl:t=t':=by rw [a2] at d2;simpa using d2
 obtain rfl:t=t'':=by rw [a2] at c2;simpa using c2
 cases b1 with
 | true=>
  obtain ⟨j,rfl,hl,r2⟩:=a4 rfl
  refine (ZmW ok m IH (hd j rfl) hl r2 eqS kIn 7).next (fun k=> ?_) (fun k=> ?_)
  ·rw [Zj5,a1];simp only [Option.bind_some,if_true]
  ·rw [Zkh k p t a2 a3 d3 c3];simp only [if_true]
 | false=>
  cases b2 with
  | true=>
   obtain ⟨j,rfl,hl,r2⟩:=d4 rfl
   refine (Ztg ok m IH (hd j rfl) hl r2).next (fun k=> ?_) (fun k=> ?_)
   ·rw [Zj5,a1];simp only [Option.bind_some,Bool.false_eq_true,if_false,d1,if_true]
   ·rw [Zkh k p t a2 a3 d3 c3];simp only [Bool.false_eq_true,if_false,if_true]
  | false=>
   cases b3 with
   | true=>
    obtain ⟨j,rfl,hl,r2⟩:=c4 rfl
    refine (ZmW ok m IH (hd j rfl) hl r2 kIn kDo 9).next (fun k=> ?_) (fun k=> ?_)
    ·rw [Zj5,a1];simp only [Option.bind_some,Bool.false_eq_true,if_false,d1,c1,if_true]
    ·rw [Zkh k p t a2 a3 d3 c3];simp only [Bool.false_eq_true,if_false,if_true]
   | false=>
    refine (ZrF ok m hS x p o h hd).next (fun k=> ?_) (fun k=> ?_)
    ·rw [Zj5,a1];simp only [Option.bind_some,Bool.false_eq_true,if_false,d1,c1]
     rcases Qp k x with _| ⟨a,z⟩<;>rfl
    ·rw [Zkh k p t a2 a3 d3 c3];simp only [Bool.false_eq_true,if_false]
theorem ZrR (ok:Zd9 T E):∀m,AgN T E m Zy Zm:=by
 intro m
 induction m using Nat.strongRecOn with
 | _ m IH=>
  have atoms:∀m',m'≤m→AgN T E m' Z3 Zx:=fun m' h=>Zqk ok m' fun m'' h2=>IH m'' (by omega)
  have prods:∀m',m'≤m→AgN T E m' ZI Zv:=fun m' h=>Zph ok m' fun m'' h2=>atoms m'' (by omega)
  have sums:∀m',m'≤m→AgN T E m' Xa ZU:=fun m' h=>ZqS ok m' fun m'' h2=>prods m'' (by omega)
  exact ZpX ok m sums IH
end
end Go.Proofs.YtfapaeabfcogkaaGreatDoor
namespace Go.Proofs.YtfapaeabfcogkaaGreatDoor
open Go.RowKit Am
def toB (l:List UInt8):ByteArray:=⟨l.toArray⟩
theorem ZlZ (l m:List UInt8):toB l++toB m=toB (l++m):=by
 apply ByteArray.ext
 rw [ByteArray.data_append]
 simp [toB]
theorem Zej (l:List UInt8):(toB l).size=l.length:=by unfold toB ByteArray.size;simp
theorem ZoQ {s t:ByteArray} (h:s.size+t.size≤1099511627776):Zqd s t=some (s++t):=by
 unfold Zqd
 rw [if_pos (by omega)]
def Zdq (u:Nat):List UInt8:=if u=0 then [] else Lib.decDigits u
theorem Zlf {u:Nat} (h:u≠0):Zdq u=Zdq (u/10)++[UInt8.ofNat (48+u%10)]:=by
 unfold Zdq
 rw [if_neg h,Lib.decDigits]
 by_cases g:u<10
 ·rw [dif_pos g,if_pos (by omega),show u%10=u by omega];rfl
 ·rw [dif_neg g,if_neg (by omega)]
theorem Zlg:∀(m:Nat) (x:Int) (l:List UInt8),x.natAbs<10^m→ -9223372036854775808≤x→x≤9223372036854775807→l.length+m≤10000→ZQ (m+1) x (toB l)=some (toB (Zdq x.natAbs++l)):=by
 intro m
 induction m with
 | zero=>
  intro x l h0 _ _ _
  have:x=0:=by simp at h0;exact h0
  subst this
  rw [ZQ];simp [Zdq]
 | succ m ih=>
  intro x l h0 h1 h2 h3
  rw [ZQ]
  by_cases hx:x=0
  ·subst hx;simp [Zdq]
  ·rw [if_pos (by simpa using hx)]
   have ht:x.tmod 10=if x<0 then-((x.natAbs%10:Nat):Int) else ((x.natAbs%10:Nat):Int):=by
    split
    ·obtain ⟨n,rfl⟩:∃n:Nat,x= -(n:Int):=⟨x.natAbs,by omega⟩
     rw [Int.neg_tmod];simp;rfl
    ·obtain ⟨n,rfl⟩:∃n:Nat,x=(n:Int):=⟨x.natAbs,by omega⟩
     rfl
   have hd:x.natAbs%10<10:=Nat.mod_lt _ (by omega)
   have e1:IntKind.i64.wrap (x.tmod 10)=x.tmod 10:=w64 (by rw [ht];split<;>omega) (by rw [ht];split<;>omega)
   have e2:(if decide (IntKind.i64.wrap (x.tmod 10)<0)=true then some (IntKind.i64.wrap (0-IntKind.i64.wrap (x.tmod 10))) else some (IntKind.i64.wrap (x.tmod 10)):Option Int)=some ((x.natAbs%10:Nat):Int):=by
    rw [e1,ht]
    by_cases hn:x<0
    ·simp only [if_pos hn]
     by_cases hz:x.natAbs%10=0
     ·simp [hz]
     ·rw [if_pos (by simp;omega),w64 (by omega) (by omega)];congr 1;omega
    ·simp only [if_neg hn]
     rw [if_neg (by simp;omega)]
   have e3:IntKind.i64.wrap (48+((x.natAbs%10:Nat):Int))=((48+x.natAbs%10:Nat):Int):=by rw [w64 (by omega) (by omega)];omega
   have e4:IntKind.u8.wrap ((48+x.natAbs%10:Nat):Int)=((48+x.natAbs%10:Nat):Int):=IntWalk.u8_in _ ⟨by omega,by omega⟩
   have e5:ZjC [((48+x.natAbs%10:Nat):Int)]=toB [UInt8.ofNat (48+x.natAbs%10)]:=by
    unfold ZjC toB
    simp only [List.foldl_cons,List.foldl_nil,Int.toNat_natCast]
    rfl
   have e6:(x.tdiv 10).natAbs=x.natAbs/10:=by rw [Int.natAbs_tdiv];rfl
   have hq: -9223372036854775808≤x.tdiv 10∧x.tdiv 10≤9223372036854775807:=by omega
   rw [e2,Option.bind_some,e3,e4,e5,ZoQ (by rw [Zej,Zej];simp;omega),Option.bind_some,ZlZ,w64 hq.1 hq.2,ih _ _ (by rw [e6];rw [Nat.pow_succ] at h0;omega) hq.1 hq.2 (by simp;omega),e6,Zlf (u:=x.natAbs) (by omega)]
   simp
theorem ZsA (n:Int) (h0: -9223372036854775808≤n) (h1:n≤9223372036854775807) {k:Nat} (hk:100<k):UO k n=some (toB (Lib.itoa n)):=by
 obtain ⟨k,rfl⟩:∃j,k=j+1:=⟨k-1,by omega⟩
 unfold UO
 by_cases hn:n=0
 ·subst hn
  have:Lib.itoa 0=[48]:=by
   unfold Lib.itoa
   rw [if_neg (by omega),Lib.decDigits,dif_pos (by decide)];rfl
  rw [if_pos (by simp),this];rfl
 ·rw [if_neg (by simpa using hn)]
  have hp:n.natAbs<10^20:=by have:(10:Nat)^20=100000000000000000000:=by decide
                             omega
  have key:ZQ (k+1) n (⟨#[]⟩:ByteArray)=some (toB (Zdq n.natAbs)):=by
   have mono:∀(m j:Nat) (x:Int) (acc r:ByteArray),ZQ m x acc=some r→ZQ (m+j) x acc=some r:=by
    intro m
    induction m with
    | zero=>intro j x acc r h;simp [ZQ] at h
    | succ m ih=>
     intro j x acc r h
     rw [show m+1+j=(m+j)+1 by omega,ZQ]
     rw [ZQ] at h
     split at h
     ·rename_i c
      rw [if_pos c]
      obtain ⟨a,ha,h⟩:=Option.bind_eq_some_iff.1 h
      obtain ⟨b,hb,h⟩:=Option.bind_eq_some_iff.1 h
      rw [ha,Option.bind_some,hb,Option.bind_some]
      exact ih j _ _ _ h
     ·rename_i c
      rw [if_neg c];exact h
   have h20:=Zlg 20 n [] hp h0 h1 (by simp)
   have:=mono 21 (k-20) _ _ _ h20
   rw [show 21+(k-20)=k+1 by omega,List.append_nil] at this
   exact this
  rw [key,Option.bind_some]
  by_cases g:n<0
  ·rw [if_pos (by simpa using g)]
   have hc:Zqd (⟨#[45]⟩:ByteArray) (toB (Zdq n.natAbs))=some (toB (45::Zdq n.natAbs)):=by
    have hl:=Lib.itoa_length_le n h0 h1
    unfold Lib.itoa at hl
    rw [if_pos g] at hl
    have e:(⟨#[45]⟩:ByteArray)=toB [45]:=rfl
    have e2:Zdq n.natAbs=Lib.decDigits n.natAbs:=by unfold Zdq;rw [if_neg (by omega)]
    rw [e,ZoQ (by rw [Zej,Zej,e2];simp at hl ⊢;omega),ZlZ];rfl
   rw [hc]
   unfold Lib.itoa Zdq
   rw [if_pos g,if_neg (by omega)];rfl
  ·rw [if_neg (by simpa using g)]
   unfold Lib.itoa Zdq
   rw [if_neg g,if_neg (by omega)]
   congr 3
   omega
end Go.Proofs.YtfapaeabfcogkaaGreatDoor
namespace Go.Proofs.YtfapaeabfcogkaaGreatDoor
open Go.RowKit Am
def ZbS (c:UInt8):Bool:=decide (48≤c.toNat)&&decide (c.toNat≤57)
def val (a:Nat) (l:List UInt8):Nat:=l.foldl (fun a c=>a*10+(c.toNat-48)) a
theorem ZeH (a:Nat):val a []=a:=by simp only [val,List.foldl_nil]
theorem Zcs (a:Nat) (c:UInt8) (r:List UInt8):val a (c::r)=val (a*10+(c.toNat-48)) r:=by simp only [val,List.foldl_cons]
theorem ZoY (l:List UInt8) (c:UInt8) (a:Nat):val a (l++[c])=val a l*10+(c.toNat-48):=by
 simp only [val,List.foldl_append,List.foldl_cons,List.foldl_nil]
theorem Zot:∀(l:List UInt8) (a:Nat),a≤val a l
 | [],a=>by rw [ZeH];exact Nat.le_refl _
 | c::r,a=>by rw [Zcs];have:=Zot r (a*10+(c.toNat-48));omega
theorem Zos:∀(l:List UInt8) (a m:Nat),a<10^m→(∀c∈l,ZbS c=true)→val a l<10^(m+l.length)
 | [],a,m,h,_=>by rw [ZeH];simpa using h
 | c::r,a,m,h,hd=>by
  rw [Zcs]
  have hc:=hd c (by simp)
  simp only [ZbS,Bool.and_eq_true,decide_eq_true_eq] at hc
  have:=Zos r (a*10+(c.toNat-48)) (m+1) (by rw [Nat.pow_succ];omega) (fun c hc=>hd c (by simp [hc]))
  rw [List.length_cons,show m+(r.length+1)=m+1+r.length by omega]
  exact this
theorem Zp6 (u:Nat):(UInt8.ofNat (48+u%10)).toNat=48+u%10:=by
 rw [UInt8.toNat_ofNat'];omega
theorem Zfq (u:Nat):Lib.decDigits u=if u<10 then [UInt8.ofNat (48+u%10)] else Lib.decDigits (u/10)++[UInt8.ofNat (48+u%10)]:=by
 conv=>lhs;rw [Lib.decDigits]
 split
 ·rename_i h;rw [Nat.mod_eq_of_lt h]
 ·rfl
theorem ZmN (u:Nat):∀c∈Lib.decDigits u,ZbS c=true:=by
 induction u using Nat.strongRecOn with
 | _ u ih=>
  intro c hc
  rw [Zfq] at hc
  have hlast:∀c,c=UInt8.ofNat (48+u%10)→ZbS c=true:=by
   rintro c rfl
   simp only [ZbS,Zp6];simp;omega
  split at hc
  ·exact hlast c (by simpa using hc)
  ·rcases List.mem_append.1 hc with h| h
   ·exact ih (u/10) (by omega) c h
   ·exact hlast c (by simpa using h)
theorem ZoO (u:Nat):val 0 (Lib.decDigits u)=u:=by
 induction u using Nat.strongRecOn with
 | _ u ih=>
  rw [Zfq]
  split
  ·rw [Zcs,ZeH,Zp6];omega
  ·rw [ZoY,ih (u/10) (by omega),Zp6];omega
theorem ZrB (u:Nat):1≤(Lib.decDigits u).length:=by
 rw [Zfq];split<;>simp
theorem ZoP:∀(m u:Nat),u<10^(m+1)→(Lib.decDigits u).length≤m+1
 | 0,u,h=>by rw [Zfq,if_pos (by simpa using h)];simp
 | m+1,u,h=>by
  rw [Zfq]
  split
  ·simp
  ·have:=ZoP m (u/10) (by rw [Nat.pow_succ] at h;omega)
   simp;omega
theorem Zi0:∀(l:List UInt8) (a:Nat),(∀c∈l,ZbS c=true)→val a l<18446744073709551616→Lib.parseUint10 a l= .ok (val a l)
 | [],a,_,_=>by rw [ZeH];rfl
 | c::r,a,hd,hv=>by
  have hc:=hd c (by simp)
  simp only [ZbS,Bool.and_eq_true,decide_eq_true_eq] at hc
  rw [Zcs] at hv ⊢
  have h1:=Zot r (a*10+(c.toNat-48))
  rw [Lib.parseUint10,if_pos hc,if_neg (by omega),if_neg (by omega)]
  exact Zi0 r _ (fun c hc=>hd c (by simp [hc])) hv
theorem ZmZ (n:Int) (h:n.natAbs<1000000000000):Lib.atoiAll (Lib.itoa n)= .ok n:=by
 have hne:=ZrB n.natAbs
 have hdg:=ZmN n.natAbs
 have hvl:=ZoO n.natAbs
 by_cases hn:n<0
 ·have e:Lib.itoa n=45::Lib.decDigits n.natAbs:=by unfold Lib.itoa;rw [if_pos hn]
  rw [e]
  unfold Lib.atoiAll Lib.parseMag
  have hnil:Lib.decDigits n.natAbs≠[]:=fun e=>by rw [e] at hne;simp at hne
  dsimp only
  rw [if_pos (show (45:UInt8).toNat=43∨(45:UInt8).toNat=45 from .inr rfl),if_neg hnil,Zi0 _ _ hdg (by rw [hvl];omega),hvl]
  have h45:(45:UInt8).toNat=45:=rfl
  simp only [h45]
  rw [if_neg (by omega),if_neg (by omega)]
  simp;omega
 ·have e:Lib.itoa n=Lib.decDigits n.natAbs:=by unfold Lib.itoa;rw [if_neg hn];congr 1;omega
  rw [e]
  cases hl:Lib.decDigits n.natAbs with
  | nil=>rw [hl] at hne;simp at hne
  | cons c r=>
   have hc:=hdg c (by rw [hl];simp)
   simp only [ZbS,Bool.and_eq_true,decide_eq_true_eq] at hc
   unfold Lib.atoiAll Lib.parseMag
   simp only [if_neg (show ¬(c.toNat=43∨c.toNat=45) by omega)]
   rw [if_neg (by simp),Zi0 _ _ (by rw [←hl];exact hdg) (by rw [←hl,hvl];omega),←hl,hvl]
   simp only
   rw [if_neg (by omega),if_neg (by omega),if_neg (by omega)]
   congr 1;omega
def Zj8 (x:ByteArray):Option Int:=match Lib.atoiAll x.data.toList with
 | .ok n=>if toB (Lib.itoa n)=x then some n else none
 | _=>none
theorem Zmo (x:ByteArray) (lo hi:Int):Xu x lo hi=match Zj8 x with
  | some n=>if lo≤n∧n≤hi then (n,true) else (0,false)
  | none=>(0,false):=by
 unfold Xu Zj8
 cases Lib.atoiAll x.data.toList with
 | ok n=>
  simp only
  by_cases h:toB (Lib.itoa n)=x
  ·simp only [h,if_true]
   have h':(⟨(Lib.itoa n).toArray⟩:ByteArray)=x:=h
   simp [h']
  ·simp only [h,if_false]
   have h':¬(⟨(Lib.itoa n).toArray⟩:ByteArray)=x:=h
   simp [h']
 | «syntax» =>rfl
 | range=>rfl
def V1 (x:ByteArray):Int×Bool:=match Zj8 x with
 | some n=>if n.natAbs<1000000000000 then (n,true) else (0,false)
 | none=>(0,false)
theorem ZjU (l:List UInt8):(toB l).data.toList=l:=by simp [toB]
theorem ZeZ {x:ByteArray} {n:Int} (h:Zj8 x=some n):Lib.itoa n=x.data.toList:=by
 unfold Zj8 at h
 split at h
 ·split at h
  ·rename_i e;cases h;rw [←e,ZjU]
  ·cases h
 ·cases h
theorem Zpq {x:ByteArray} {n:Int} (hn:n.natAbs<1000000000000) (h:toB (Lib.itoa n)=x):Zj8 x=some n:=by
 unfold Zj8
 have:x.data.toList=Lib.itoa n:=by rw [←h,ZjU]
 rw [this,ZmZ n hn]
 simp [h]
theorem Zmj (t:ByteArray) (l:List UInt8) (hl:t.data.toList=l) (h12:l.length≤12):∀(m i a:Nat) (n:Nat),i+m=l.length→a<10^i→m<n→XA t n (a:Int) (i:Int)=some (if (l.drop i).all ZbS=true then .inl (val a (l.drop i):Int) else .inr (0,false)):=by
 have hsz:t.size=l.length:=by rw [←hl,Array.length_toList];rfl
 intro m
 induction m with
 | zero=>
  intro i a n hi ha hn
  obtain ⟨n,rfl⟩:∃n',n=n'+1:=⟨n-1,by omega⟩
  have hd:l.drop i=[]:=List.drop_eq_nil_of_le (by omega)
  rw [XA,hd]
  simp [hsz,ZeH,show ¬((i:Int)<(l.length:Int)) by omega]
 | succ m ih=>
  intro i a n hi ha hn
  obtain ⟨n,rfl⟩:∃n',n=n'+1:=⟨n-1,by omega⟩
  have hlt:i<l.length:=by omega
  have hd:l.drop i=l[i]::l.drop (i+1):=List.drop_eq_getElem_cons hlt
  have hat:at? t.data.toList (i:Int)=some l[i]:=by rw [hl];exact Qe hlt
  have hp:(10:Nat)^i≤10^11:=Nat.pow_le_pow_right (by omega) (by omega)
  rw [XA,hsz,if_pos (Yp hlt),hat,hd]
  simp only [Option.bind_some]
  generalize l[i]=c
  have hc8:c.toNat<256:=c.toNat_lt
  cases hc:ZbS c with
  | false=>
   have hx:(if (decide ((c.toNat:Int)<48))=true then some true else some (decide (57<(c.toNat:Int))))=some true:=by
    simp only [ZbS,Bool.and_eq_false_iff,decide_eq_false_iff_not] at hc
    by_cases h1:(c.toNat:Int)<48
    ·simp [h1]
    ·simp only [h1,decide_false,Bool.false_eq_true,if_false,Option.some.injEq,decide_eq_true_eq];omega
   rw [hx]
   simp [hc]
  | true=>
   have hcd:=hc
   simp only [ZbS,Bool.and_eq_true,decide_eq_true_eq] at hcd
   have hx:(if (decide ((c.toNat:Int)<48))=true then some true else some (decide (57<(c.toNat:Int))))=some false:=by
    simp only [show ¬((c.toNat:Int)<48) by omega,decide_false,Bool.false_eq_true,if_false,Option.some.injEq,decide_eq_false_iff_not];omega
   rw [hx]
   simp only [Option.bind_some,Bool.false_eq_true,if_false]
   have e1:IntKind.u8.wrap ((c.toNat:Int)-48)=(c.toNat:Int)-48:=by
    unfold IntKind.wrap;simp [IntKind.bits,IntKind.signed];omega
   have hp2:(10:Nat)^11=100000000000:=by decide
   have e2:IntKind.i64.wrap (IntKind.i64.wrap (10*(a:Int))+IntKind.i64.wrap (IntKind.u8.wrap ((c.toNat:Int)-48)))=((a*10+(c.toNat-48):Nat):Int):=by
    rw [e1,w64 (n:=10*(a:Int)) (by omega) (by omega),w64 (n:=(c.toNat:Int)-48) (by omega) (by omega),w64 (by omega) (by omega)];omega
   rw [e2,wS i (by omega),ih (i+1) (a*10+(c.toNat-48)) n (by omega) (by rw [Nat.pow_succ];omega) (by omega)]
   simp [hc,Zcs]
theorem Zgc (n:Int):Lib.itoa n=if n<0 then 45::Lib.decDigits n.natAbs else Lib.decDigits n.natAbs:=by
 unfold Lib.itoa
 split
 ·rfl
 ·congr 1;omega
theorem ZqW (x:ByteArray) (hx:x.size≤1048576) {k:Nat} (hk:1000<k):Zcx k x 12=some (V1 x):=by
 have hsz:x.size=x.data.toList.length:=by rw [Array.length_toList];rfl
 have rep:∀n:Int,n.natAbs<1000000000000→Zj8 x=some n→x.data.toList=(if n<0 then 45::Lib.decDigits n.natAbs else Lib.decDigits n.natAbs)∧(Lib.decDigits n.natAbs).length≤12:=fun n hn h=>by
  rw [←Zgc];exact ⟨(ZeZ h).symm,ZoP 11 _ (by simpa using hn)⟩
 have no:(∀n:Int,n.natAbs<1000000000000→Zj8 x≠some n)→V1 x=(0,false):=fun h=>by
  unfold V1
  cases hv:Zj8 x with
  | none=>rfl
  | some n=>
   simp only
   rw [if_neg]
   intro hn;exact h n hn hv
 unfold Zcx
 obtain ⟨below,hbelow,hb2⟩:∃below:Bool,(if (decide (0<(x.size:Int)))=true then (at? x.data.toList 0).bind fun x2=>some (decide ((x2.toNat:Int)=45)) else some false)=some below∧(below=true↔∃r,x.data.toList=45::r):=by
  cases hl:x.data.toList with
  | nil=>exact ⟨false,by rw [hsz,hl];simp,by simp⟩
  | cons c r=>
   refine ⟨decide ((c.toNat:Int)=45),by rw [hsz,hl];simp [at?], ?_⟩
   simp only [decide_eq_true_eq,List.cons.injEq,exists_and_left,exists_eq',and_true]
   constructor
   ·intro h;exact UInt8.toNat_inj.1 (by show c.toNat=45;omega)
   ·rintro rfl;rfl
 rw [hbelow]
 simp only [Option.bind_some]
 obtain ⟨t,ht,htl⟩:∃t:ByteArray,(if below=true then (Ui x 1 (x.size:Int)).bind fun x4=>some x4 else some x)=some t∧x.data.toList=(if below=true then 45::t.data.toList else t.data.toList):=by
  cases below with
  | false=>exact ⟨x,rfl,rfl⟩
  | true=>
   obtain ⟨r,hr⟩:=hb2.1 rfl
   have h1:1≤x.size:=by rw [hsz,hr];simp
   refine ⟨x.extract 1 x.size, ?_, ?_⟩
   ·simp only [if_true]
    unfold Ui
    rw [if_pos ⟨by omega,by omega,by omega⟩];rfl
   ·simp only [if_true,ByteArray.data_extract,Array.toList_extract,List.extract_eq_take_drop]
    rw [hr];simp [hsz,hr]
 rw [ht]
 simp only [Option.bind_some]
 have hts:t.size=t.data.toList.length:=by rw [Array.length_toList];rfl
 have dig:∀n:Int,n.natAbs<1000000000000→Zj8 x=some n→t.data.toList=Lib.decDigits n.natAbs∧(below=true↔n<0):=by
  intro n hn h
  obtain ⟨h1,h2⟩:=rep n hn h
  by_cases hneg:n<0
  ·rw [if_pos hneg] at h1
   have hb:below=true:=hb2.2 ⟨_,h1⟩
   rw [htl,hb] at h1
   simp only [if_true,List.cons.injEq,true_and] at h1
   exact ⟨h1,by simp [hb,hneg]⟩
  ·rw [if_neg hneg] at h1
   have hb:below=false:=by
    cases hbb:below with
    | false=>rfl
    | true=>
     obtain ⟨r,hr⟩:=hb2.1 hbb
     have:=ZmN n.natAbs 45 (by rw [←h1,hr];simp)
     simp [ZbS] at this
   rw [htl,hb] at h1
   exact ⟨by simpa using h1,by simp [hb,hneg]⟩
 by_cases hlen:t.data.toList.length<1∨12<t.data.toList.length
 ·have e:(if (decide ((t.size:Int)<1))=true then some true else some (decide ((12:Int)<(t.size:Int))))=some true:=by
   rw [hts]
   by_cases h1:t.data.toList.length<1
   ·rw [if_pos (decide_eq_true (by omega))]
   ·rw [if_neg (by rw [decide_eq_true_eq];omega),decide_eq_true (by omega)]
  rw [e]
  simp only [Option.bind_some,if_true]
  rw [no]
  intro n hn hv
  obtain ⟨h1,_⟩:=dig n hn hv
  have h2:=ZrB n.natAbs
  have h3:=(rep n hn hv).2
  rw [h1] at hlen;omega
 ·have e:(if (decide ((t.size:Int)<1))=true then some true else some (decide ((12:Int)<(t.size:Int))))=some false:=by
   rw [hts]
   simp only [show ¬((t.data.toList.length:Int)<1) by omega,decide_false,Bool.false_eq_true,if_false,Option.some.injEq,decide_eq_false_iff_not];omega
  rw [e]
  simp only [Option.bind_some,Bool.false_eq_true,if_false]
  have hloop:=Zmj t _ rfl (by omega) t.data.toList.length 0 0 k (by omega) (by decide) (by omega)
  rw [show ((0:Nat):Int)=0 from rfl] at hloop
  rw [hloop,List.drop_zero]
  cases hall:t.data.toList.all ZbS with
  | false=>
   simp only [Bool.false_eq_true,if_false,Option.bind_some]
   rw [no]
   intro n hn hv
   obtain ⟨h1,_⟩:=dig n hn hv
   have:t.data.toList.all ZbS=true:=by rw [h1];exact List.all_eq_true.2 (ZmN n.natAbs)
   rw [hall] at this;cases this
  | true=>
   simp only [if_true,Option.bind_some]
   have hv:=Zos t.data.toList 0 0 (by decide) (List.all_eq_true.1 hall)
   have hp:(10:Nat)^(0+t.data.toList.length)≤10^12:=Nat.pow_le_pow_right (by omega) (by omega)
   have hp2:(10:Nat)^12=1000000000000:=by decide
   generalize hvv:val 0 t.data.toList=v at hv
   obtain ⟨n,hn,hna,hns⟩:∃n:Int,(if below=true then some (IntKind.i64.wrap (0-(v:Int))) else some (v:Int))=some n∧n.natAbs=v∧n=(if below=true then-(v:Int) else (v:Int)):=by
    cases below with
    | false=>exact ⟨v,rfl,by simp,rfl⟩
    | true=>exact ⟨-(v:Int),by simp only [if_true];rw [w64 (by omega) (by omega)];simp,by simp,rfl⟩
   rw [hn]
   simp only [Option.bind_some]
   rw [ZsA n (by omega) (by omega) (by omega)]
   simp only [Option.bind_some]
   by_cases he:toB (Lib.itoa n)=x
   ·have:Zj8 x=some n:=Zpq (by omega) he
    simp only [he,decide_true,Bool.not_true,Bool.false_eq_true,if_false]
    unfold V1
    rw [this]
    simp only
    rw [if_pos (by omega)]
   ·simp only [he,decide_false,Bool.not_false,if_true]
    rw [no]
    intro m hm hmv
    obtain ⟨h1,h2⟩:=dig m hm hmv
    have h3:v=m.natAbs:=by rw [←hvv,h1,ZoO]
    have h4:n=m:=by
     rw [hns]
     by_cases hb:below=true
     ·rw [if_pos hb];have:=h2.1 hb;omega
     ·rw [if_neg hb];have:¬m<0:=fun h=>hb (h2.2 h);omega
    apply he
    rw [h4,ZeZ hmv]
    apply ByteArray.ext;simp [toB]
theorem ZeV (x:ByteArray) (hx:x.size≤1048576) {k:Nat} (hk:1000<k):Wz k x=some (V1 x):=by
 unfold Wz
 rw [ZqW x hx hk];rfl
theorem Zf8 (x:ByteArray) (lo hi:Int) (h1: -999999999999≤lo) (h2:hi≤999999999999):Xu x lo hi=if (V1 x).2=true∧lo≤(V1 x).1∧(V1 x).1≤hi then ((V1 x).1,true) else (0,false):=by
 rw [Zmo]
 unfold V1
 cases Zj8 x with
 | none=>simp
 | some n=>
  simp only
  by_cases hn:n.natAbs<1000000000000
  ·simp [hn]
  ·rw [if_neg hn,if_neg (by omega)];simp
end Go.Proofs.YtfapaeabfcogkaaGreatDoor
namespace Go.Proofs.YtfapaeabfcogkaaGreatDoor
open Go.RowKit Am
def VR (c:UInt8):Bool:=decide ((c.toNat:Int)<32)||(decide (126<(c.toNat:Int))||decide ((c.toNat:Int)=34))
theorem Zcr (s:ByteArray) (hs:(s.size:Int)≤9223372036854775807) {k:Nat} (hk:s.size<k):XC k s=some (!(s.data.toList.any VR)&&decide ((s.size:Int)≤20))∧XH k s=some (!(s.data.toList.any VR)&&decide ((s.size:Int)≤20)):=by
 have hT:∀x∈s.data.toList,(fun c:UInt8=>(if (decide ((c.toNat:Int)<32))=true then some true else if (decide (126<(c.toNat:Int)))=true then some true else some (decide ((c.toNat:Int)=34)):Option Bool)) x=some (VR x):=by
  intro x _
  unfold VR
  simp only
  cases decide ((x.toNat:Int)<32)<;>cases decide (126<(x.toNat:Int))<;>simp
 constructor
 ·unfold XC
  rw [Xh s.data.toList VR _ false () (YN s) hT (fun n i=>by rw [YN,Qy];simp only [Option.bind_assoc]) (by rw [Qy];exact hs) (by rw [Qy];exact hk)]
  cases s.data.toList.any VR<;>simp
 ·unfold XH
  rw [Xh s.data.toList VR _ false () (YO s) hT (fun n i=>by rw [YO,Qy];simp only [Option.bind_assoc]) (by rw [Qy];exact hs) (by rw [Qy];exact hk)]
  cases s.data.toList.any VR<;>simp
end Go.Proofs.YtfapaeabfcogkaaGreatDoor
namespace Go.Proofs.YtfapaeabfcogkaaGreatDoor
open Go.RowKit Am
theorem ZjD (a:ByteArray):Z8 a=ZM a:=by unfold Z8 ZM;rfl
mutual
def Zb.cnt:Zb→Nat
 | ⟨_,_,_,args⟩=>1+Zb.Zsc args
def Zb.Zsc:List Zb→Nat
 | []=>0
 | x::xs=>Zb.cnt x+Zb.Zsc xs
end
theorem Zb.ZmR:∀xs:List Zb,Zb.Zsc xs=Xc Zb.cnt xs
 | []=>rfl
 | x::xs=>by rw [Zb.Zsc,Zb.ZmR xs];rfl
theorem Zb.ZkA (x:Zb):x.cnt=1+Xc Zb.cnt x.args:=by cases x;simp only [Zb.cnt,Zb.ZmR]
mutual
def Zb.nest:Zb→Nat
 | ⟨_,_,_,args⟩=>Zb.Ze0 0 args+1
def Zb.Ze0:Nat→List Zb→Nat
 | n,[]=>n
 | n,x::xs=>Zb.Ze0 (max n (Zb.nest x)) xs
end
theorem Zb.Zmr (x:Zb):x.nest=Zb.Ze0 0 x.args+1:=by cases x;simp only [Zb.nest]
theorem Zb.ZmS:∀x:Zb,x.cnt≤x.bk+1:=by
 refine Zb.ind fun x ih=> ?_
 rw [Zb.ZkA,Zb.ZZ]
 have:∀xs:List Zb,(∀y∈xs,y.cnt≤y.bk+1)→Xc Zb.cnt xs≤bkS Zb.bk xs:=by
  intro xs
  induction xs with
  | nil=>intro _;simp [Xc]
  | cons y ys ih2=>
   intro h
   have h1:=h y (by simp)
   have h2:=ih2 fun z hz=>h z (by simp [hz])
   simp only [Xc,bkS,List.map_cons,List.sum_cons,List.length_cons] at h2 ⊢
   omega
 have:=this x.args ih
 omega
theorem Zb.Zj9:∀x:Zb,x.nest≤x.cnt:=by
 refine Zb.ind fun x ih=> ?_
 rw [Zb.ZkA,Zb.Zmr]
 have:∀(xs:List Zb) (n m:Nat),(∀y∈xs,y.nest≤y.cnt)→n≤m→Zb.Ze0 n xs≤m+Xc Zb.cnt xs:=by
  intro xs
  induction xs with
  | nil=>intro n m _ h;simpa [Zb.Ze0,Xc] using h
  | cons y ys ih2=>
   intro n m h hn
   have h1:=h y (by simp)
   have h2:=ih2 (max n y.nest) (m+y.cnt) (fun z hz=>h z (by simp [hz])) (by omega)
   simp only [Zb.Ze0,Xc,List.map_cons,List.sum_cons] at h2 ⊢
   omega
 have:=this x.args 0 0 ih (by omega)
 omega
theorem Zb.Zkc (x:Zb):x.args.length≤x.bk:=by rw [Zb.ZZ];have:=YL (f:=Zb.bk) (xs:=x.args);omega
theorem Zb.Zo9 (x:Zb):x.text.size≤x.bk:=by rw [Zb.ZZ];omega
theorem Zb.ZkK {x y:Zb} (h:y∈x.args):y.bk≤x.bk:=by rw [Zb.ZZ x];have:=QF (f:=Zb.bk) h;omega
theorem Zh1:∀x:Zb,x.bk≤1048576→Ev fun k=>∀l:Int,0≤l→l≤1048576→X6 k x l=some (szR x.cnt l):=by
 refine Zb.ind fun x ih hb=> ?_
 refine ((Ev.all x.args fun y hy=>ih y hy (by have:=Zb.ZkK hy;omega)).and (Ev.ge (x.args.length+2))).pred ?_
 rintro k ⟨hx,hk⟩ l l0 l1
 have hlen:=x.Zkc
 rw [X6,w64 (by omega) (by omega)]
 have key:∀(m n i:Nat) (c:Int),i+m=x.args.length→m<n→ -1≤c→c≤1048576→QO (X6 k) x n c (i:Int)=some (if 0≤c then szR (Xc Zb.cnt (x.args.drop i)) c else-1):=by
  intro m
  induction m with
  | zero=>
   intro n i c hi hn c0 c1
   obtain ⟨n,rfl⟩:∃j,n=j+1:=⟨n-1,by omega⟩
   rw [QO,if_neg (Vi (by omega)),List.drop_of_length_le (by omega)]
   by_cases h:0≤c
   ·simp [Xc,szR,h]
   ·rw [if_neg h];simp;omega
  | succ m ih2=>
   intro n i c hi hn c0 c1
   obtain ⟨n,rfl⟩:∃j,n=j+1:=⟨n-1,by omega⟩
   have hil:i<x.args.length:=by omega
   rw [QO,if_pos (Yp hil),Option.bind_some]
   by_cases h:0≤c
   ·rw [if_pos (by simpa using h),Qe hil,Option.bind_some,hx _ (List.getElem_mem hil) c h c1,Option.bind_some,wS i (by omega),if_pos h,List.drop_eq_getElem_cons hil]
    have e:Xc Zb.cnt (x.args[i]::x.args.drop (i+1))=x.args[i].cnt+Xc Zb.cnt (x.args.drop (i+1)):=by unfold Xc;rw [List.map_cons,List.sum_cons]
    rw [e]
    rcases Vw (b:=x.args[i].cnt) (left:=c) c1 with ⟨z,e1,g1,q1,p1,r1⟩| ⟨e1,q1⟩
    ·rw [e1,ih2 n (i+1) z (by omega) (by omega) (by omega) r1,if_pos p1,q1]
     unfold szR
     by_cases h2:(Xc Zb.cnt (x.args.drop (i+1)):Int)≤c-x.args[i].cnt
     ·rw [if_pos h2,if_pos (by omega)];congr 1;omega
     ·rw [if_neg h2,if_neg (by omega)]
    ·rw [e1,ih2 n (i+1) (-1) (by omega) (by omega) (by omega) (by omega),if_neg (by omega)]
     unfold szR
     rw [if_neg (by omega)]
   ·rw [if_neg (by simpa using h),if_neg h];congr 1;omega
 have:=key x.args.length k 0 (l-1) (by omega) (by omega) (by omega) (by omega)
 rw [show ((0:Nat):Int)=0 from rfl] at this
 rw [this,Option.bind_some,x.ZkA,List.drop_zero]
 congr 1
 unfold szR
 by_cases h:0≤l-1
 ·rw [if_pos h]
  by_cases h2:(Xc Zb.cnt x.args:Int)≤l-1
  ·rw [if_pos h2,if_pos (by omega)];omega
  ·rw [if_neg h2,if_neg (by omega)]
 ·rw [if_neg h,if_neg (by omega)]
theorem ZfN:∀x:Zb,x.bk≤1048576→Ev fun k=>Qz k x=some (x.cnt:Int):=by
 refine Zb.ind fun x ih hb=> ?_
 refine ((Ev.all x.args fun y hy=>ih y hy (by have:=Zb.ZkK hy;omega)).and (Ev.ge (x.args.length+2))).pred ?_
 rintro k ⟨hx,hk⟩
 have hlen:=x.Zkc
 have hc:=x.ZmS
 have he:=x.ZkA
 rw [Qz]
 have key:∀(m n i:Nat) (c:Nat),i+m=x.args.length→m<n→c+Xc Zb.cnt (x.args.drop i)≤1048577→YW (Qz k) x n (c:Int) (i:Int)=some ((c+Xc Zb.cnt (x.args.drop i):Nat):Int):=by
  intro m
  induction m with
  | zero=>
   intro n i c hi hn hc
   obtain ⟨n,rfl⟩:∃j,n=j+1:=⟨n-1,by omega⟩
   rw [YW,if_neg (Vi (by omega)),List.drop_of_length_le (by omega)]
   simp [Xc]
  | succ m ih2=>
   intro n i c hi hn hc
   obtain ⟨n,rfl⟩:∃j,n=j+1:=⟨n-1,by omega⟩
   have hil:i<x.args.length:=by omega
   have e:Xc Zb.cnt (x.args.drop i)=x.args[i].cnt+Xc Zb.cnt (x.args.drop (i+1)):=by rw [List.drop_eq_getElem_cons hil];unfold Xc;rw [List.map_cons,List.sum_cons]
   rw [YW,if_pos (Yp hil),Qe hil,Option.bind_some,hx _ (List.getElem_mem hil),Option.bind_some,wS i (by omega),w64 (by omega) (by omega)]
   rw [show (c:Int)+(x.args[i].cnt:Int)=((c+x.args[i].cnt:Nat):Int) by omega,ih2 n (i+1) _ (by omega) (by omega) (by omega)]
   congr 2;omega
 have:=key x.args.length k 0 1 (by omega) (by omega) (by rw [List.drop_zero];omega)
 rw [show ((0:Nat):Int)=0 from rfl,show ((1:Nat):Int)=1 from rfl] at this
 rw [this,Option.bind_some,List.drop_zero,he]
theorem Zps (x:Zb) (hb:x.bk≤1048576):Ev fun k=>Y9 k x=some (x.nest:Int)∧Qa k x=some (x.nest:Int):=by
 revert hb
 refine Zb.ind (p:=fun x=>x.bk≤1048576→Ev fun k=>Y9 k x=some (x.nest:Int)∧Qa k x=some (x.nest:Int)) (fun x ih hb=> ?_) x
 refine ((Ev.all x.args fun y hy=>ih y hy (by have:=Zb.ZkK hy;omega)).and (Ev.ge (x.args.length+2))).pred ?_
 rintro k ⟨hx,hk⟩
 have hlen:=x.Zkc
 have hc:=x.ZmS
 have hn:=x.Zj9
 have he:=x.Zmr
 have key:∀(m n i:Nat) (c:Nat),i+m=x.args.length→m<n→YV (Y9 k) x n (c:Int) (i:Int)=some ((Zb.Ze0 c (x.args.drop i):Nat):Int)∧YX (Qa k) x n (c:Int) (i:Int)=some ((Zb.Ze0 c (x.args.drop i):Nat):Int):=by
  intro m
  induction m with
  | zero=>
   intro n i c hi hn
   obtain ⟨n,rfl⟩:∃j,n=j+1:=⟨n-1,by omega⟩
   rw [YV,YX,if_neg (Vi (by omega)),if_neg (Vi (by omega)),List.drop_of_length_le (by omega)]
   simp [Zb.Ze0]
  | succ m ih2=>
   intro n i c hi hn
   obtain ⟨n,rfl⟩:∃j,n=j+1:=⟨n-1,by omega⟩
   have hil:i<x.args.length:=by omega
   obtain ⟨h1,h2⟩:=hx _ (List.getElem_mem hil)
   have hm:Kk (c:Int) (x.args[i].nest:Int)=some ((max c x.args[i].nest:Nat):Int):=by
    unfold Kk
    by_cases h:(x.args[i].nest:Int)<c
    ·rw [if_pos (by simpa using h)];congr 1;omega
    ·rw [if_neg (by simpa using h)];congr 1;omega
   have hi2:(if (x.args[i].nest:Int)>(c:Int) then (x.args[i].nest:Int) else (c:Int))=((max c x.args[i].nest:Nat):Int):=by split<;>omega
   rw [YV,YX,if_pos (Yp hil),if_pos (Yp hil),Qe hil,Option.bind_some,Option.bind_some,h1,h2,Option.bind_some,Option.bind_some,hm,Option.bind_some,hi2,wS i (by omega),List.drop_eq_getElem_cons hil]
   simp only [Zb.Ze0]
   exact ih2 n (i+1) _ (by omega) (by omega)
 obtain ⟨k1,k2⟩:=key x.args.length k 0 0 (by omega) (by omega)
 rw [show ((0:Nat):Int)=0 from rfl,List.drop_zero] at k1 k2
 have hw:IntKind.i64.wrap ((Zb.Ze0 0 x.args:Nat)+1:Int)=(x.nest:Int):=by rw [w64 (by omega) (by omega)];omega
 constructor
 ·rw [Y9,k1,Option.bind_some,hw]
 ·rw [Qa,k2,Option.bind_some,hw]
theorem Zpr (x:Zb) (hs:(x.text.size:Int)≤9223372036854775807) {k:Nat} (hk:x.text.size<k) (hk2:24<k):∃b,UI k x=some b∧Kv k x=some b∧∀j,x.text.size<j→24<j→UI j x=some b∧Kv j x=some b:=by
 have key:∃b,∀j,x.text.size<j→24<j→UI j x=some b∧Kv j x=some b:=by
  have hac:∃z,Z8 x.text=some z∧ZM x.text=some z:=by
   rw [ZjD]
   obtain ⟨z,hz⟩:=Zc4 x.text
   exact ⟨z,hz,hz⟩
  obtain ⟨z,z1,z2⟩:=hac
  obtain ⟨tx,ht⟩:∃tx,tx=(!(x.text.data.toList.any VR)&&decide ((x.text.size:Int)≤20)):=⟨_,rfl⟩
  obtain ⟨nx,hn⟩:∃nx,nx=WN x.text:=⟨_,rfl⟩
  refine ⟨if x.kind=1 then decide ((x.args.length:Int)=0)&&decide (x.text=⟨#[]⟩)&&(decide (0≤x.n)&&decide (x.n≤1000000000)) else if x.kind=2 then decide ((x.args.length:Int)=0)&&decide (x.n=0)&&tx
   else if x.kind=3 then decide ((x.args.length:Int)=0)&&decide (x.n=0)&&nx else if x.kind=4 then decide (x.n=0)&&decide (x.text=⟨#[]⟩)&&decide ((x.args.length:Int)≤8)
   else if x.kind=5 then decide (x.n=0)&&decide ((x.args.length:Int)=z) else if x.kind=6 then decide (x.text=⟨#[]⟩)&&decide ((x.args.length:Int)=2)&&(decide (1≤x.n)&&decide (x.n≤5))
   else if x.kind=7 then decide (x.n=0)&&decide ((x.args.length:Int)=2)&&nx else if x.kind=9 then decide (x.n=0)&&decide ((x.args.length:Int)=2)&&nx else if x.kind=8 then decide (x.n=0)&&decide (x.text=⟨#[]⟩)&&decide ((x.args.length:Int)=3) else false,fun j hj hj2=> ?_⟩
  obtain ⟨t1,t2⟩:=Zcr x.text hs hj
  obtain ⟨n1,n2⟩:=UE x.text hs hj hj2
  rw [←ht] at t1 t2
  rw [←hn] at n1 n2
  unfold UI Kv
  rw [t1,t2,n1,n2,z1,z2]
  simp only [Zdo,JK,Option.bind_some]
  by_cases k1:x.kind=1
  ·simp only [k1,decide_true,if_true,if_pos]
   cases decide ((x.args.length:Int)=0)<;>cases decide (x.text=(⟨#[]⟩:ByteArray))<;>cases decide (0≤x.n)<;>cases decide (x.n≤1000000000)<;>simp
  by_cases k2:x.kind=2
  ·simp only [k2]
   cases decide ((x.args.length:Int)=0)<;>cases decide (x.n=0)<;>cases tx<;>simp
  by_cases k3:x.kind=3
  ·simp only [k3]
   cases decide ((x.args.length:Int)=0)<;>cases decide (x.n=0)<;>cases nx<;>simp
  by_cases k4:x.kind=4
  ·simp only [k4]
   cases decide (x.n=0)<;>cases decide (x.text=(⟨#[]⟩:ByteArray))<;>simp
  by_cases k5:x.kind=5
  ·simp only [k5]
   cases decide (x.n=0)<;>simp
  by_cases k6:x.kind=6
  ·simp only [k6]
   cases decide ((x.args.length:Int)=2)<;>cases decide (x.text=(⟨#[]⟩:ByteArray))<;>cases decide (1≤x.n)<;>cases decide (x.n≤5)<;>simp
  by_cases k7:x.kind=7
  ·simp only [k7]
   cases decide ((x.args.length:Int)=2)<;>cases decide (x.n=0)<;>cases nx<;>simp
  by_cases k9:x.kind=9
  ·simp only [k9]
   cases decide ((x.args.length:Int)=2)<;>cases decide (x.n=0)<;>cases nx<;>simp
  by_cases k8:x.kind=8
  ·simp only [k8]
   cases decide (x.n=0)<;>cases decide (x.text=(⟨#[]⟩:ByteArray))<;>simp
  simp [k1,k2,k3,k4,k5,k6,k7,k8,k9]
 obtain ⟨b,hb⟩:=key
 exact ⟨b,(hb k hk hk2).1,(hb k hk hk2).2,hb⟩
theorem Zb.ZqJ {x:Zb} (h:x.bk≤1048576):(x.text.size:Int)≤9223372036854775807:=by have:=x.Zo9;omega
theorem nodes (x:Zb) (hb:x.bk≤1048576):∃b,Ev fun k=>XT k x=some b∧Y8 k x=some b:=by
 revert hb
 refine Zb.ind (p:=fun x=>x.bk≤1048576→∃b,Ev fun k=>XT k x=some b∧Y8 k x=some b) (fun x ih hb=> ?_) x
 obtain ⟨f,hf⟩:=Kb (p:=fun y b=>Ev fun k=>XT k y=some b∧Y8 k y=some b) x.args fun y hy=>ih y hy (by have:=Zb.ZkK hy;omega)
 obtain ⟨b,_,_,hn⟩:=Zpr x (Zb.ZqJ hb) (k:=x.text.size+25) (by omega) (by omega)
 have hlen:=x.Zkc
 refine ⟨!(x.args.any fun y=>!f y)&&b, ?_⟩
 refine ((Ev.all x.args hf).and ((Ev.ge (x.args.length+2)).and (Ev.ge (x.text.size+25)))).pred ?_
 rintro k ⟨hx,hk,hk2⟩
 obtain ⟨n1,n2⟩:=hn k (by omega) (by omega)
 constructor
 ·rw [XT,Xh x.args (fun y=>!f y) (fun y=>(XT k y).bind fun z=>some (!z)) false () (X7 (XT k) x) (fun y hy=>by (try simp only);rw [(hx y hy).1];rfl)
   (fun n i=>by rw [X7];simp only [Option.bind_assoc,Option.bind_some]) (by omega) (by omega)]
  cases x.args.any fun y=>!f y<;>simp [n1]
 ·rw [Y8,Xh x.args (fun y=>!f y) (fun y=>(Y8 k y).bind fun z=>some (!z)) false () (QV (Y8 k) x) (fun y hy=>by (try simp only);rw [(hx y hy).2];rfl)
   (fun n i=>by rw [QV];simp only [Option.bind_assoc,Option.bind_some]) (by omega) (by omega)]
  cases x.args.any fun y=>!f y<;>simp [n2]
theorem ZlW (x:Zb) (hb:x.bk≤1048576):∃v,Ev fun k=>WA k x=some v∧WG k x=some v:=by
 obtain ⟨q,hq⟩:=nodes x hb
 have hc:=x.ZmS
 have hn:=x.Zj9
 refine ⟨decide (x.cnt≤40)&&decide (x.nest≤8)&&q, ?_⟩
 refine (hq.and ((Zps x hb).and ((Zh1 x hb).and (ZfN x hb)))).mono ?_
 rintro k ⟨⟨q1,q2⟩,⟨n1,n2⟩,l,c⟩
 constructor
 ·unfold WA
  rw [l 40 (by omega) (by omega),n1,q1]
  by_cases h:x.cnt≤40
  ·have e:szR x.cnt 40=40-x.cnt:=by unfold szR;rw [if_pos (by omega)]
   rw [e]
   simp only [Option.bind_some]
   rw [if_pos (by simp;omega)]
   by_cases h8:x.nest≤8
   ·rw [if_pos (by simp;omega)]
    simp [h,h8]
   ·rw [if_neg (by simp;omega)]
    simp [h8]
  ·have e:szR x.cnt 40= -1:=by unfold szR;rw [if_neg (by omega)]
   rw [e]
   simp [h]
 ·unfold WG
  rw [c,n2,q2]
  simp only [Option.bind_some]
  by_cases h:x.cnt≤40
  ·rw [if_pos (by simp;omega)]
   by_cases h8:x.nest≤8
   ·rw [if_pos (by simp;omega)]
    simp [h,h8]
   ·rw [if_neg (by simp;omega)]
    simp [h8]
  ·rw [if_neg (by simp;omega)]
   simp [h]
end Go.Proofs.YtfapaeabfcogkaaGreatDoor
