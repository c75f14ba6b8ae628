import Derived.Test.YtbkllghhcphkaaaGreatDoorJ7
set_option linter.unusedSimpArgs false
set_option linter.unusedVariables false
set_option linter.unusedSectionVars false
namespace Go.Proofs.YtbkllghhcphkaaaGreatDoor
open Go.RowKit Am
def Ev2 (p:Nat->Nat->Prop):Prop:=∃B,∀k n,B<=k->B<=n->p k n
theorem Ev2.of {p:Nat->Nat->Prop} (h:∀k n,p k (n+1)):Ev2 p:=⟨1,fun k n _ hn=>by cases n with | zero=>omega| succ n=>exact h k n⟩
structure ZfB (T:List Zi) (E:Int):Prop where
 nm:∀t∈T,t.kind=1->∃c r,t.text.data.toList=c::r/\Zi3 c=true
 sy:∀t∈T,t.kind=4->∃c r,t.text.data.toList=c::r/\Zi3 c=false
 at_:∀t∈T,0<=t.at_
 tx:∀t∈T,t.text.size<=120
 en:0<=E
 len:T.length<=60
def Zpf (T:List Zi) (E:Int) (b:Nat):Int:=match T[b]? with
 | some t=>t.at_
 | none=>E
theorem ZlR {T:List Zi} {E:Int} (ok:ZfB T E) (b:Nat):0<=Zpf T E b:=by
 unfold Zpf
 split
 ·rename_i t h;exact ok.at_ t (List.mem_of_getElem? h)
 ·exact ok.en
def Rl (T:List Zi) (E:Int) (x:Zf) (p:Zg):Option Nat->Prop
 | some j=>j<=T.length/\x=⟨T,j,E, -1⟩/\p=⟨T,j, -1⟩
 | none=>∃b:Nat,b<=T.length/\x.toks=T/\x.end_=E/\p.list=T/\p.bad=b/\x.bad=Zpf T E b
def adS (x:Zf):Zf:=⟨x.toks,IntKind.i64.wrap (x.i+1),x.end_,x.bad⟩
def adI (p:Zg):Zg:=⟨p.list,IntKind.i64.wrap (p.at_+1),p.bad⟩
def Zb7 (t:Zi) (s:ByteArray):Bool:=decide (t.kind=4)&&decide (t.text=s)
def Zi4 (t:Zi) (s:ByteArray):Bool:=decide (t.kind=1)&&decide (t.text=s)
theorem ZdM (t:Zi) (s:ByteArray):WW t s=some (Zb7 t s):=by unfold WW Zb7;by_cases h:t.kind=4<;>simp [h]
theorem Zl6 (t:Zi) (s:ByteArray):U0 t s=some (Zb7 t s):=by unfold U0 Zb7;by_cases h:t.kind=4<;>simp [h]
theorem Zpu (t:Zi) (s:ByteArray):Jn t s=some (Zi4 t s):=by unfold Jn Zi4;by_cases h:t.kind=1<;>simp [h]
theorem ZiH (t:Zi) (s:ByteArray):Yz t s=some (Zi4 t s):=by unfold Yz Zi4;by_cases h:t.kind=1<;>simp [h]
def zT:Zi:=⟨0,0,0,⟨#[]⟩⟩
theorem Zih (s:ByteArray):Zb7 zT s=false:=by simp [Zb7,zT]
theorem ZmW (s:ByteArray):Zi4 zT s=false:=by simp [Zi4,zT]
def ZcQ (T:List Zi) (j:Nat) (s:ByteArray):Bool:=match T[j]? with
 | some t=>Zb7 t s||Zi4 t s
 | none=>false
section
variable {T:List Zi} {E:Int}
theorem Zfh (ok:ZfB T E) {j:Nat} (hj:j<=T.length) (s:ByteArray):Zs ⟨T,j,E, -1⟩ s=some (ZcQ T j s,⟨T,j,E, -1⟩):=by
 unfold Zs ZcQ
 by_cases h:j<T.length
 ·simp only [Z3 h,if_true,YF h,Zyl,ZdM,Zpu,Zyt h];cases Zb7 T[j] s<;>simp
 ·simp [show ¬((j:Int)<(T.length:Int)) by omega,List.getElem?_eq_none (show T.length<=j by omega)]
theorem Zhu {x:Zf} (h:0<=x.bad) (s:ByteArray):Zs x s=some (false,x):=by
 unfold Zs;simp [show ¬x.bad<0 by omega]
theorem ZbI {j:Nat} (hj:j<=T.length):ZC ⟨T,j, -1⟩=some ((T[j]?).getD zT,⟨T,j, -1⟩):=by
 unfold ZC
 by_cases h:j<T.length
 ·simp only [Z3 h,if_true,YF h,Zyl,Zyt h];simp
 ·simp [show ¬((j:Int)<(T.length:Int)) by omega,List.getElem?_eq_none (show T.length<=j by omega),zT]
theorem Zd4 {p:Zg} (h:0<=p.bad):ZC p=some (zT,p):=by
 unfold ZC;simp [show ¬p.bad<0 by omega,zT]
theorem Jd {p:Zg} {t:Zi} (h:ZC p=some (t,p)) (s:ByteArray):Zl p s=some (Zb7 t s,if Zb7 t s=true then adI p else p):=by
 unfold Zl;rw [h];simp only [Zyl,Zl6];cases Zb7 t s<;>rfl
theorem Rl.bad {x:Zf} {p:Zg} (ok:ZfB T E) (h:Rl T E x p none):0<=x.bad/\0<=p.bad:=by
 obtain ⟨b,_,_,_,_,h1,h2⟩:=h;exact ⟨by rw [h2];exact ZlR ok b,by rw [h1];omega⟩
theorem Zuv (ok:ZfB T E) {j:Nat} (h:j<T.length):Rl T E (adS ⟨T,j,E, -1⟩) (adI ⟨T,j, -1⟩) (some (j+1)):=by
 have:=ok.len;refine ⟨by omega, ?_, ?_⟩
 ·simp only [adS,wS j (by omega)]
 ·simp only [adI,wS j (by omega)]
def Zph (s:ByteArray):Prop:=∃c r,s.data.toList=c::r/\Zi3 c=false
def KwS (s:ByteArray):Prop:=∃c r,s.data.toList=c::r/\Zi3 c=true
theorem ZtE (ok:ZfB T E) {t:Zi} (ht:t∈T) {s:ByteArray} (hs:Zph s):Zi4 t s=false:=by
 unfold Zi4
 by_cases h1:t.kind=1
 ·obtain ⟨c,r,e1,e2⟩:=ok.nm t ht h1;obtain ⟨c',r',e3,e4⟩:=hs;have:t.text≠s:=fun e=>by rw [e,e3] at e1;cases e1;rw [e2] at e4;cases e4
  simp [this]
 ·simp [h1]
theorem Zs3 (ok:ZfB T E) {t:Zi} (ht:t∈T) {s:ByteArray} (hs:KwS s):Zb7 t s=false:=by
 unfold Zb7
 by_cases h1:t.kind=4
 ·obtain ⟨c,r,e1,e2⟩:=ok.sy t ht h1;obtain ⟨c',r',e3,e4⟩:=hs;have:t.text≠s:=fun e=>by rw [e,e3] at e1;cases e1;rw [e2] at e4;cases e4
  simp [this]
 ·simp [h1]
theorem Zgf {j:Nat} {t:Zi} (h:T[j]? =some t) (s:ByteArray):ZcQ T j s=(Zb7 t s||Zi4 t s):=by unfold ZcQ;rw [h]
theorem ZeA {j:Nat} (h:T[j]? =none) (s:ByteArray):ZcQ T j s=false:=by unfold ZcQ;rw [h]
theorem Zaj (ok:ZfB T E) {x:Zf} {p:Zg} {o:Option Nat} (h:Rl T E x p o) {s:ByteArray} (hs:Zph s):
  ∃b:Bool,Zs x s=some (b,x)/\Zl p s=some (b,if b=true then adI p else p)/\(b=true->∃j,o=some j/\j<T.length/\Rl T E (adS x) (adI p) (some (j+1))):=by
 cases o with
 | none=>
  have hb:=h.bad ok;refine ⟨false,Zhu hb.1 s, ?_,by simp⟩;rw [Jd (Zd4 hb.2),Zih]
 | some j=>
  obtain ⟨hj,rfl,rfl⟩:=h;refine ⟨ZcQ T j s,Zfh ok hj s, ?_, ?_⟩
  ·rw [Jd (ZbI hj)];cases e:T[j]? with
   | none=>simp [ZeA e,Zih]
   | some t=>simp [Zgf e,ZtE ok (List.mem_of_getElem? e) hs]
  ·intro hb;cases e:T[j]? with
   | none=>rw [ZeA e] at hb;cases hb
   | some t=>have hl:=(List.getElem?_eq_some_iff.1 e).1;exact ⟨j,rfl,hl,Zuv ok hl⟩
theorem ZkH (ok:ZfB T E) {x:Zf} {p:Zg} {o:Option Nat} (h:Rl T E x p o) {s:ByteArray} (hs:KwS s):
  ∃(b:Bool) (t:Zi),Zs x s=some (b,x)/\ZC p=some (t,p)/\Yz t s=some b/\(b=true->∃j,o=some j/\j<T.length/\Rl T E (adS x) (adI p) (some (j+1))):=by
 cases o with
 | none=>
  have hb:=h.bad ok;exact ⟨false,zT,Zhu hb.1 s,Zd4 hb.2,by rw [ZiH,ZmW],by simp⟩
 | some j=>
  obtain ⟨hj,rfl,rfl⟩:=h;refine ⟨ZcQ T j s,_,Zfh ok hj s,ZbI hj, ?_, ?_⟩
  ·rw [ZiH];cases e:T[j]? with
   | none=>simp [ZeA e,ZmW]
   | some t=>simp [Zgf e,Zs3 ok (List.mem_of_getElem? e) hs]
  ·intro hb;cases e:T[j]? with
   | none=>rw [ZeA e] at hb;cases hb
   | some t=>have hl:=(List.getElem?_eq_some_iff.1 e).1;exact ⟨j,rfl,hl,Zuv ok hl⟩
def zE:Zb:=⟨0,0,⟨#[]⟩,[]⟩
theorem Zp2 (ok:ZfB T E) {x:Zf} {p:Zg} {o:Option Nat} (h:Rl T E x p o):∃x' p',Y3 x=some (zE,x')/\Yr p=some (zE,p')/\Rl T E x' p' none:=by
 cases o with
 | none=>
  have hb:=h.bad ok;obtain ⟨b,h0,h1,h2,h3,h4,h5⟩:=h;refine ⟨x,p, ?_, ?_,⟨b,h0,h1,h2,h3,h4,h5⟩⟩
  ·unfold Y3;simp [show ¬x.bad<0 by omega,zE]
  ·unfold Yr;simp [show ¬p.bad<0 by omega,zE]
 | some j=>
  obtain ⟨hj,rfl,rfl⟩:=h;refine ⟨⟨T,j,E,Zpf T E j⟩,⟨T,j,j⟩, ?_, ?_,⟨j,hj,rfl,rfl,rfl,rfl,rfl⟩⟩
  ·unfold Y3 Zpf
   by_cases hl:j<T.length
   ·simp only [Z3 hl,if_true,YF hl,Zyl,Zyt hl];simp [zE]
   ·simp [show ¬((j:Int)<(T.length:Int)) by omega,List.getElem?_eq_none (show T.length<=j by omega),zE]
  ·unfold Yr;simp [zE]
theorem Zrc (ok:ZfB T E) {j:Nat} (hj:j<=T.length) (s:ByteArray):(Zb7 ((T[j]?).getD zT) s||Zi4 ((T[j]?).getD zT) s)=ZcQ T j s:=by
 cases e:T[j]? with
 | none=>simp [ZeA e,Zih,ZmW]
 | some t=>simp [Zgf e]
theorem ZcX {p:Zg} {t:Zi} (h:ZC p=some (t,p)) (s:ByteArray):Zr p s=if (Zi4 t s||Zb7 t s)=true then some (adI p) else (Yr p).bind fun y=>some y.2:=by
 unfold Zr;rw [h];simp only [Zyl,ZiH,h,Zl6];cases Zi4 t s<;>cases Zb7 t s<;>simp [adI]
theorem Zig (ok:ZfB T E) {x:Zf} {p:Zg} {o:Option Nat} (h:Rl T E x p o) (s:ByteArray):
  ∃x' p' o',ZA x s=some x'/\Zr p s=some p'/\Rl T E x' p' o'/\∀j',o'=some j'->∃j,o=some j/\j'=j+1:=by
 obtain ⟨xf,pf,f1,f2,f3⟩:=Zp2 ok h;cases o with
 | none=>
  have hb:=h.bad ok;refine ⟨xf,pf,none, ?_, ?_,f3,by simp⟩
  ·unfold ZA;rw [Zhu hb.1];simp [f1]
  ·rw [ZcX (Zd4 hb.2),Zih,ZmW,f2];rfl
 | some j=>
  obtain ⟨hj,rfl,rfl⟩:=h;have e1:(Zi4 ((T[j]?).getD zT) s||Zb7 ((T[j]?).getD zT) s)=ZcQ T j s:=by rw [Bool.or_comm];exact Zrc ok hj s
  cases hb:ZcQ T j s with
  | false=>
   refine ⟨xf,pf,none, ?_, ?_,f3,by simp⟩
   ·unfold ZA;rw [Zfh ok hj,hb];simp [f1]
   ·rw [ZcX (ZbI hj),e1,hb,f2];rfl
  | true=>
   have hl:j<T.length:=by
    cases e:T[j]? with
    | none=>rw [ZeA e] at hb;cases hb
    | some t=>exact (List.getElem?_eq_some_iff.1 e).1
   refine ⟨adS ⟨T,j,E, -1⟩,adI ⟨T,j, -1⟩,some (j+1), ?_, ?_,Zuv ok hl,fun j' h=>⟨j,rfl,by cases h;rfl⟩⟩
   ·unfold ZA;rw [Zfh ok hj,hb];rfl
   ·rw [ZcX (ZbI hj),e1,hb];rfl
theorem names (ok:ZfB T E) {x:Zf} {p:Zg} {o:Option Nat} (h:Rl T E x p o):
  ∃ns ni x' p' o',Rl T E x' p' o'/\(∀j',o'=some j'->ns=ni/\ns.size<=120/\∃j,o=some j/\j'=j+1)/\∀k,200<=k->X9 k x=some (ns,x')/\Yq k p=some (ni,p'):=by
 obtain ⟨xf,pf,f1,f2,f3⟩:=Zp2 ok h;cases o with
 | none=>
  have hb:=h.bad ok;refine ⟨⟨#[]⟩,⟨#[]⟩,xf,pf,none,f3,by simp,fun k hk=>⟨?_, ?_⟩⟩
  ·unfold X9;simp [show 0<=x.bad from hb.1,f1]
  ·unfold Yq;rw [Zd4 hb.2];simp [zT,f2]
 | some j=>
  obtain ⟨hj,rfl,rfl⟩:=h;cases e:T[j]? with
  | none=>
   have hl:T.length<=j:=List.getElem?_eq_none_iff.1 e;refine ⟨⟨#[]⟩,⟨#[]⟩,xf,pf,none,f3,by simp,fun k hk=>⟨?_, ?_⟩⟩
   ·unfold X9;simp [show ((T.length:Int)<=(j:Int)) by omega,f1]
   ·unfold Yq;rw [ZbI hj,e];simp [zT,f2]
  | some t=>
   obtain ⟨hl,rfl⟩:=List.getElem?_eq_some_iff.1 e;have hm:=List.getElem_mem hl;have ht:=ok.tx _ hm;have hlen:=ok.len
   by_cases hn:T[j].kind=1/\WH T[j].text=true
   ·refine ⟨T[j].text,T[j].text,adS ⟨T,j,E, -1⟩,adI ⟨T,j, -1⟩,some (j+1),Zuv ok hl,fun j' h=>⟨rfl,ht,j,rfl,by cases h;rfl⟩,fun k hk=>⟨?_, ?_⟩⟩
    ·obtain ⟨v1,v2⟩:=Ja T[j].text (by omega) (show T[j].text.size<k by omega) (by omega);unfold X9;have e2:IntKind.i64.wrap (IntKind.i64.wrap ((j:Int)+1)-1)=(j:Int):=by rw [wS j (by omega),w64 (by omega) (by omega)];omega
     simp only [show ¬((0:Int)<= -1) by omega,decide_false,Zys,if_false,show ¬((T.length:Int)<=(j:Int)) by omega,YF hl,Zyl,hn.1,decide_true,Bool.not_true,v1,hn.2,e2]
     rfl
    ·obtain ⟨v1,v2⟩:=Ja T[j].text (by omega) (show T[j].text.size<k by omega) (by omega);unfold Yq;rw [ZbI hj,e];simp only [Zyl,Option.getD_some,hn.1,decide_true,Bool.not_true,Zys,if_false,v2,hn.2]
     rfl
   ·refine ⟨⟨#[]⟩,⟨#[]⟩,xf,pf,none,f3,by simp,fun k hk=> ?_⟩;obtain ⟨v1,v2⟩:=Ja T[j].text (by omega) (show T[j].text.size<k by omega) (by omega);constructor
    ·unfold X9
     by_cases h1:T[j].kind=1
     ·have h2:WH T[j].text=false:=by simpa [h1] using hn
      simp [show ¬((T.length:Int)<=(j:Int)) by omega,YF hl,h1,v1,h2,f1]
     ·simp [show ¬((T.length:Int)<=(j:Int)) by omega,YF hl,h1,f1]
    ·unfold Yq;rw [ZbI hj,e]
     by_cases h1:T[j].kind=1
     ·have h2:WH T[j].text=false:=by simpa [h1] using hn
      simp [h1,v2,h2,f2]
     ·simp [h1,f2]
end
def star:ByteArray:=⟨#[42]⟩
def plus:ByteArray:=⟨#[43]⟩
def minus:ByteArray:=⟨#[45]⟩
def ZbU:ByteArray:=⟨#[44]⟩
def opE (n:Int) (a b:Zb):Zb:=⟨6,n,⟨#[]⟩,[a,b]⟩
def sPL (r:Zf->Option (Zb×Zf)) (n:Nat) (x:Zf) (e:Zb):Option (Zb×Zf):=
 (YU r n x.toks x.i x.end_ x.bad e.kind e.n e.text e.args).map fun y=>(⟨y.1,y.2.1,y.2.2.1,y.2.2.2.1⟩,⟨y.2.2.2.2.1,y.2.2.2.2.2.1,y.2.2.2.2.2.2.1,y.2.2.2.2.2.2.2⟩)
def iPL (r:Zg->Option (Zb×Zg)) (n:Nat) (x:Zg) (e:Zb):Option (Zb×Zg):=
 (Z1 r n x.list x.at_ x.bad e.kind e.n e.text e.args).map fun y=>(⟨y.1,y.2.1,y.2.2.1,y.2.2.2.1⟩,⟨y.2.2.2.2.1,y.2.2.2.2.2.1,y.2.2.2.2.2.2⟩)
def sSL (r:Zf->Option (Zb×Zf)) (n:Nat) (x:Zf) (e:Zb):Option (Zb×Zf):=
 (X1 r n x.toks x.i x.end_ x.bad e.kind e.n e.text e.args).map fun y=>(⟨y.1,y.2.1,y.2.2.1,y.2.2.2.1⟩,⟨y.2.2.2.2.1,y.2.2.2.2.2.1,y.2.2.2.2.2.2.1,y.2.2.2.2.2.2.2⟩)
def iSL (r:Zg->Option (Zb×Zg)) (n:Nat) (x:Zg) (e:Zb):Option (Zb×Zg):=
 (YW r n x.list x.at_ x.bad e.kind e.n e.text e.args).map fun y=>(⟨y.1,y.2.1,y.2.2.1,y.2.2.2.1⟩,⟨y.2.2.2.2.1,y.2.2.2.2.2.1,y.2.2.2.2.2.2⟩)
def sAL (r:Zf->Option (Zb×Zf)) (n:Nat) (x:Zf) (out:List Zb):Option (List Zb×Zf):=
 (Xf r n x.toks x.i x.end_ x.bad out).map fun y=>(y.2.2.2.2,⟨y.1,y.2.1,y.2.2.1,y.2.2.2.1⟩)
def iAL (r:Zg->Option (Zb×Zg)) (c:ByteArray) (n:Nat) (x:Zg) (out:List Zb):Option (List Zb×Zg):=
 (Yi r c n x.list x.at_ x.bad out).map fun y=>(y.1,⟨y.2.1,y.2.2.1,y.2.2.2⟩)
theorem Zir (r:Zf->Option (Zb×Zf)) (n:Nat) (x:Zf) (e:Zb):sPL r (n+1) x e=(Zs x star).bind fun y=>if y.1=true then (r (adS y.2)).bind fun z=>sPL r n z.2 (opE 3 e z.1) else some (e,y.2):=by
 obtain ⟨e1,e2,e3,e4⟩:=e;unfold sPL;rw [YU];show Option.map _ ((Zs x star).bind _)=_;rcases Zs x star with _| ⟨b,y⟩
 ·simp
 ·cases b
  ·simp
  ·simp only [Zyl,if_true];show Option.map _ ((r (adS y)).bind _)=_;rcases r (adS y) with _| ⟨a,z⟩<;>simp [Zaq,opE]
theorem ZfW (r:Zg->Option (Zb×Zg)) (n:Nat) (x:Zg) (e:Zb):iPL r (n+1) x e=(Zl x star).bind fun y=>if y.1=true then (r y.2).bind fun z=>iPL r n z.2 (opE 3 e z.1) else some (e,y.2):=by
 obtain ⟨e1,e2,e3,e4⟩:=e;unfold iPL;rw [Z1];show Option.map _ ((Zl x star).bind _)=_;rcases Zl x star with _| ⟨b,y⟩
 ·simp
 ·cases b
  ·simp
  ·simp only [Zyl,if_true];rcases r y with _| ⟨a,z⟩<;>simp [opE]
theorem ZlL (r:Zf->Option (Zb×Zf)) (n:Nat) (x:Zf) (e:Zb):sSL r (n+1) x e=(Zs x plus).bind fun y=>(if y.1=true then some (true,y.2) else Zs y.2 minus).bind fun u=>if u.1=true then (Zs u.2 minus).bind fun v=>(r (adS v.2)).bind fun w=>sSL r n w.2 (opE (if v.1=true then 2 else 1) e w.1) else some (e,u.2):=by
 obtain ⟨e1,e2,e3,e4⟩:=e;unfold sSL;rw [X1];show Option.map _ (((Zs x plus).bind _).bind _)=_;rcases Zs x plus with _| ⟨b,y⟩
 ·simp
 ·cases b
  ·simp only [Zyl,Zys,if_false];show Option.map _ (((Zs y minus).bind _).bind _)=_;rcases Zs y minus with _| ⟨c,u⟩
   ·simp
   ·cases c
    ·simp
    ·simp only [Zyl,if_true];show Option.map _ (((Zs u minus).bind _).bind _)=_;rcases Zs u minus with _| ⟨d,v⟩
     ·simp
     ·cases d<;>simp only [Zyl,Zys,if_true,if_false]<;>show Option.map _ ((r (adS v)).bind _)=_<;>rcases r (adS v) with _| ⟨a,z⟩<;>simp [Zaq,opE]
  ·simp only [Zyl,if_true];show Option.map _ (((Zs y minus).bind _).bind _)=_;rcases Zs y minus with _| ⟨d,v⟩
   ·simp
   ·cases d<;>simp only [Zyl,Zys,if_true,if_false]<;>show Option.map _ ((r (adS v)).bind _)=_<;>rcases r (adS v) with _| ⟨a,z⟩<;>simp [Zaq,opE]
theorem ZiJ (r:Zg->Option (Zb×Zg)) (n:Nat) (x:Zg) (e:Zb):iSL r (n+1) x e=if x.bad<0 then (Zl x plus).bind fun y=>if y.1=true then (r y.2).bind fun w=>iSL r n w.2 (opE 1 e w.1) else (Zl y.2 minus).bind fun z=>if z.1=true then (r z.2).bind fun w=>iSL r n w.2 (opE 2 e w.1) else some (e,z.2) else some (e,x):=by
 obtain ⟨e1,e2,e3,e4⟩:=e;unfold iSL;rw [YW]
 by_cases hb:x.bad<0
 ·simp only [hb,decide_true,if_true];show Option.map _ (((Zl x plus).bind _).bind _)=_;rcases Zl x plus with _| ⟨b,y⟩
  ·simp
  ·cases b
   ·simp only [Zyl,Bool.not_false,if_true,Zys,if_false];show Option.map _ (((Zl y minus).bind _).bind _)=_;rcases Zl y minus with _| ⟨c,z⟩
    ·simp
    ·cases c
     ·simp
     ·simp only [Zyl,Bool.not_true,Zys,if_true,if_false];show Option.map _ ((r z).bind _)=_;rcases r z with _| ⟨a,w⟩<;>simp [opE]
   ·simp only [Zyl,Bool.not_true,Zys,if_true,if_false];show Option.map _ ((r y).bind _)=_;rcases r y with _| ⟨a,w⟩<;>simp [opE]
 ·simp [hb]
theorem ZdX (r:Zf->Option (Zb×Zf)) (n:Nat) (x:Zf) (out:List Zb):sAL r (n+1) x out=if x.bad<0 then (r x).bind fun y=>(Yv 56 out [y.1]).bind fun o=>(Zs y.2 ZbU).bind fun z=>if z.1=true then sAL r n (adS z.2) o else some (o,z.2) else some (out,x):=by
 unfold sAL;rw [Xf]
 by_cases hb:x.bad<0
 ·simp only [hb,decide_true,if_true];show Option.map _ ((r x).bind _)=_;rcases r x with _| ⟨a,y⟩
  ·simp
  ·simp only [Zyl];rcases Yv 56 out [a] with _| o
   ·simp
   ·simp only [Zyl];show Option.map _ ((Zs y ZbU).bind _)=_;rcases Zs y ZbU with _| ⟨b,z⟩
    ·simp
    ·cases b<;>simp [adS]
 ·simp [hb]
theorem J5 (r:Zg->Option (Zb×Zg)) (c:ByteArray) (n:Nat) (x:Zg) (out:List Zb):iAL r c (n+1) x out=if x.bad<0 then (r x).bind fun y=>(Yv 56 out [y.1]).bind fun o=>(Zl y.2 c).bind fun z=>if z.1=true then some (o,z.2) else (Zr z.2 ZbU).bind fun u=>iAL r c n u o else some (out,x):=by
 unfold iAL;rw [Yi]
 by_cases hb:x.bad<0
 ·simp only [hb,decide_true,if_true];show Option.map _ ((r x).bind _)=_;rcases r x with _| ⟨a,y⟩
  ·simp
  ·simp only [Zyl];rcases Yv 56 out [a] with _| o
   ·simp
   ·simp only [Zyl];rcases Zl y c with _| ⟨b,z⟩
    ·simp
    ·cases b
     ·simp only [Zyl,Zys,if_false];show Option.map _ ((Zr z ZbU).bind _)=_;rcases Zr z ZbU with _| u<;>simp
     ·simp
 ·simp [hb]
theorem Zth (k:Nat) (x:Zf):ZJ (k+1) x=(Z7 k x).bind fun y=>sPL (Z7 k) k y.2 y.1:=by
 rw [ZJ];rcases Z7 k x with _| ⟨a,y⟩
 ·simp
 ·simp only [Zyl,sPL];cases YU (Z7 k) k y.toks y.i y.end_ y.bad a.kind a.n a.text a.args<;>simp
theorem ZtK (k:Nat) (x:Zg):Zu (k+1) x=(Zy k x).bind fun y=>iPL (Zy k) k y.2 y.1:=by
 rw [Zu];rcases Zy k x with _| ⟨a,y⟩
 ·simp
 ·simp only [Zyl,iPL];cases Z1 (Zy k) k y.list y.at_ y.bad a.kind a.n a.text a.args<;>simp
theorem Ztg (k:Nat) (x:Zf):X2 (k+1) x=(ZJ k x).bind fun y=>sSL (ZJ k) k y.2 y.1:=by
 rw [X2];rcases ZJ k x with _| ⟨a,y⟩
 ·simp
 ·simp only [Zyl,sSL];cases X1 (ZJ k) k y.toks y.i y.end_ y.bad a.kind a.n a.text a.args<;>simp
theorem ZtJ (k:Nat) (x:Zg):ZZ (k+1) x=(Zu k x).bind fun y=>iSL (Zu k) k y.2 y.1:=by
 rw [ZZ];rcases Zu k x with _| ⟨a,y⟩
 ·simp
 ·simp only [Zyl,iSL];cases YW (Zu k) k y.list y.at_ y.bad a.kind a.n a.text a.args<;>simp
theorem Zqs (k:Nat) (x:Zf) (c:ByteArray):W6 (k+1) x c=(Zs x c).bind fun y=>if y.1=true then some ([],adS y.2) else (sAL (Zx k) k y.2 []).bind fun z=>(ZA z.2 c).bind fun u=>some (z.1,u):=by
 rw [W6];rcases Zs x c with _| ⟨b,y⟩
 ·simp
 ·cases b
  ·simp only [Zyl,Zys,if_false,sAL];cases Xf (Zx k) k y.toks y.i y.end_ y.bad []<;>simp
  ·simp [adS]
theorem ZqI (k:Nat) (x:Zg) (c:ByteArray):YL (k+1) x c=(Zl x c).bind fun y=>if y.1=true then some ([],y.2) else iAL (Zm k) c k y.2 []:=by
 rw [YL];rcases Zl x c with _| ⟨b,y⟩
 ·simp
 ·cases b
  ·simp only [Zyl,Zys,if_false,iAL];cases Yi (Zm k) c k y.list y.at_ y.bad []<;>simp
  ·simp
def gE (o o':Option Nat) (es ei:Zb):Prop:=∀j',o'=some j'->es=ei/\∃j,o=some j/\j<j'/\es.bk+1<=200*(j'-j)
def Ag (T:List Zi) (E:Int) (o:Option Nat) (sX:Nat->Option (Zb×Zf)) (iX:Nat->Option (Zb×Zg)):Prop:=
 ∃es ei x' p' o',Rl T E x' p' o'/\gE o o' es ei/\Ev fun k=>sX k=some (es,x')/\iX k=some (ei,p')
def AgN (T:List Zi) (E:Int) (m:Nat) (sX:Nat->Zf->Option (Zb×Zf)) (iX:Nat->Zg->Option (Zb×Zg)):Prop:=
 ∀x p o,Rl T E x p o->(∀j,o=some j->T.length-j<=m)->Ag T E o (fun k=>sX k x) (fun k=>iX k p)
def go (j0:Nat) (o:Option Nat) (es ei:Zb):Prop:=∀j,o=some j->es=ei/\j0<j/\es.bk+1<=200*(j-j0)
theorem Zob (n:Int) (a b:Zb):(opE n a b).bk=2+(a.bk+b.bk):=by
 rw [Zb.ZH];simp [opE,bkS,Qx];try rfl
theorem ZtU {o1:Option Nat} {j0 j:Nat} {es ei ea eb:Zb} (n:Int) (h:go j0 (some j) es ei) (h1:gE (some (j+1)) o1 ea eb):go j0 o1 (opE n es ea) (opE n ei eb):=by
 intro j1 e1;obtain ⟨rfl,j',e2,h2,h3⟩:=h1 j1 e1;cases e2;obtain ⟨rfl,h4,h5⟩:=h j rfl;rw [Zob];exact ⟨rfl,by omega,by omega⟩
section
variable {T:List Zi} {E:Int}
theorem ZlB:Zph star:=⟨42,[],rfl,by decide⟩
theorem ZlC:Zph plus:=⟨43,[],rfl,by decide⟩
theorem Zjt:Zph minus:=⟨45,[],rfl,by decide⟩
theorem Zju:Zph ZbU:=⟨44,[],rfl,by decide⟩
theorem Zn7 (ok:ZfB T E) (m:Nat) (hA:∀m',m'<m->AgN T E m' Z7 Zy) (j0:Nat):∀(d:Nat) (x:Zf) (p:Zg) (o:Option Nat) (es ei:Zb),Rl T E x p o->(∀j,o=some j->T.length-j<=d/\T.length-j<=m)->go j0 o es ei->
  ∃es' ei' x' p' o',Rl T E x' p' o'/\go j0 o' es' ei'/\Ev2 fun k n=>sPL (Z7 k) n x es=some (es',x')/\iPL (Zy k) n p ei=some (ei',p'):=by
 intro d
 induction d with
 | zero=>
  intro x p o es ei h hd hg;obtain ⟨b,h1,h2,h3⟩:=Zaj ok h ZlB
  have hb:b=false:=by
   cases b with
   | false=>rfl
   | true=>obtain ⟨j,e,hl,_⟩:=h3 rfl;have:=(hd j e).1;omega
  subst hb;exact ⟨es,ei,x,p,o,h,hg,.of fun k n=>⟨by rw [Zir,h1];rfl,by rw [ZfW,h2];rfl⟩⟩
 | succ d ih=>
  intro x p o es ei h hd hg;obtain ⟨b,h1,h2,h3⟩:=Zaj ok h ZlB;cases b with
  | false=>exact ⟨es,ei,x,p,o,h,hg,.of fun k n=>⟨by rw [Zir,h1];rfl,by rw [ZfW,h2];rfl⟩⟩
  | true=>
   obtain ⟨j,rfl,hl,h4⟩:=h3 rfl;have hdj:=hd j rfl;obtain ⟨ea,eb,x1,p1,o1,r1,g1,B1,e1⟩:=hA (T.length-(j+1)) (by omega) _ _ _ h4 (fun j' e=>by cases e;omega);obtain ⟨es',ei',x',p',o',r2,g2,B2,e2⟩:=ih x1 p1 o1 (opE 3 es ea) (opE 3 ei eb) r1 (fun j' e=>by obtain ⟨_,j2,e3,h5,_⟩:=g1 j' e;cases e3;omega) (ZtU (o1:=o1) 3 hg g1);refine ⟨es',ei',x',p',o',r2,g2,max B1 (B2+1),fun k n hk hn=> ?_⟩;obtain ⟨n,rfl⟩:∃n',n=n'+1:=⟨n-1,by omega⟩;have q1:=e1 k (by omega);have q2:=e2 k n (by omega) (by omega);exact ⟨by rw [Zir,h1];simp only [Zyl,if_true,q1.1,q2.1],by rw [ZfW,h2];simp only [Zyl,if_true,q1.2,q2.2]⟩
theorem Zpr (ok:ZfB T E) (m:Nat) (hA:∀m',m'<m->AgN T E m' ZJ Zu) (j0:Nat):∀(d:Nat) (x:Zf) (p:Zg) (o:Option Nat) (es ei:Zb),Rl T E x p o->(∀j,o=some j->T.length-j<=d/\T.length-j<=m)->go j0 o es ei->
  ∃es' ei' x' p' o',Rl T E x' p' o'/\go j0 o' es' ei'/\Ev2 fun k n=>sSL (ZJ k) n x es=some (es',x')/\iSL (Zu k) n p ei=some (ei',p'):=by
 have stop:∀(x:Zf) (p:Zg) (o:Option Nat) (es ei:Zb),Rl T E x p o->go j0 o es ei->Zs x plus=some (false,x)->Zl p plus=some (false,p)->Zs x minus=some (false,x)->Zl p minus=some (false,p)->
   ∃es' ei' x' p' o',Rl T E x' p' o'/\go j0 o' es' ei'/\Ev2 fun k n=>sSL (ZJ k) n x es=some (es',x')/\iSL (Zu k) n p ei=some (ei',p'):=by
  intro x p o es ei h hg h1 h2 h3 h4;refine ⟨es,ei,x,p,o,h,hg,.of fun k n=>⟨by rw [ZlL,h1];simp [h3], ?_⟩⟩;rw [ZiJ,h2]
  split
  ·simp [h4]
  ·rfl
 have step:∀(d:Nat) (x:Zf) (p:Zg) (j:Nat) (es ei:Zb) (c:Bool),j<T.length->T.length-j<=d+1->T.length-j<=m->p.bad<0->Rl T E (adS x) (adI p) (some (j+1))->go j0 (some j) es ei->
   (∀(x:Zf) (p:Zg) (o:Option Nat) (es ei:Zb),Rl T E x p o->(∀j,o=some j->T.length-j<=d/\T.length-j<=m)->go j0 o es ei->
    ∃es' ei' x' p' o',Rl T E x' p' o'/\go j0 o' es' ei'/\Ev2 fun k n=>sSL (ZJ k) n x es=some (es',x')/\iSL (Zu k) n p ei=some (ei',p'))->
   Zs x plus=some (!c,x)->Zs x minus=some (c,x)->Zl p plus=some (!c,if (!c)=true then adI p else p)->Zl p minus=some (c,if c=true then adI p else p)->
   ∃es' ei' x' p' o',Rl T E x' p' o'/\go j0 o' es' ei'/\Ev2 fun k n=>sSL (ZJ k) n x es=some (es',x')/\iSL (Zu k) n p ei=some (ei',p'):=by
  intro d x p j es ei c hl hd hm hb h4 hg ih a1 a2 a3 a4;obtain ⟨ea,eb,x1,p1,o1,r1,g1,B1,e1⟩:=hA (T.length-(j+1)) (by omega) _ _ _ h4 (fun j' e=>by cases e;omega);obtain ⟨es',ei',x',p',o',r2,g2,B2,e2⟩:=ih x1 p1 o1 (opE (if c=true then 2 else 1) es ea) (opE (if c=true then 2 else 1) ei eb) r1 (fun j' e=>by obtain ⟨_,j2,e3,h5,_⟩:=g1 j' e;cases e3;omega) (ZtU _ hg g1);refine ⟨es',ei',x',p',o',r2,g2,max B1 (B2+1),fun k n hk hn=> ?_⟩;obtain ⟨n,rfl⟩:∃n',n=n'+1:=⟨n-1,by omega⟩;have q1:=e1 k (by omega);have q2:=e2 k n (by omega) (by omega);constructor
  ·rw [ZlL,a1];cases c
   ·simp only [Bool.not_false,Zyl,if_true,a2,q1.1];exact q2.1
   ·simp only [Bool.not_true,Zyl,Zys,if_false,a2,if_true,q1.1];exact q2.1
  ·rw [ZiJ,if_pos hb,a3];cases c
   ·simp only [Bool.not_false,Zyl,if_true,q1.2];exact q2.2
   ·simp only [Bool.not_true,Zyl,Zys,if_false,a4,if_true,q1.2];exact q2.2
 have no_both:∀{x:Zf} {j:Nat},x=⟨T,j,E, -1⟩->j<T.length->Zs x plus=some (true,x)->Zs x minus=some (false,x):=by
  rintro x j rfl hl h;rw [Zfh ok (by omega)] at h ⊢;have h1:ZcQ T j plus=true:=by simpa using h
  have e:T[j]? =some T[j]:=Zyt hl;rw [Zgf e] at h1 ⊢;have hp:T[j].text=plus:=by simp only [Zb7,Zi4] at h1;simp at h1;rcases h1 with h1| h1<;>exact h1.2
  simp [Zb7,Zi4,hp,plus,minus]
 intro d
 induction d with
 | zero=>
  intro x p o es ei h hd hg;obtain ⟨b,h1,h2,h3⟩:=Zaj ok h ZlC;obtain ⟨c,i1,i2,i3⟩:=Zaj ok h Zjt
  have hb:b=false:=by
   cases b with
   | false=>rfl
   | true=>obtain ⟨j,e,hl,_⟩:=h3 rfl;have:=(hd j e).1;omega
  have hc:c=false:=by
   cases c with
   | false=>rfl
   | true=>obtain ⟨j,e,hl,_⟩:=i3 rfl;have:=(hd j e).1;omega
  subst hb hc;exact stop x p o es ei h hg h1 h2 i1 i2
 | succ d ih=>
  intro x p o es ei h hd hg;obtain ⟨b,h1,h2,h3⟩:=Zaj ok h ZlC;obtain ⟨c,i1,i2,i3⟩:=Zaj ok h Zjt;cases b with
  | true=>
   obtain ⟨j,rfl,hl,h4⟩:=h3 rfl;obtain ⟨hj,hx,hp⟩:=h
   have hc:c=false:=by
    have:=no_both hx hl h1;rw [i1] at this;simpa using this
   subst hc;exact step d x p j es ei false hl (hd j rfl).1 (hd j rfl).2 (by rw [hp];show (-1:Int)<0;decide) h4 hg ih h1 i1 h2 i2
  | false=>
   cases c with
   | false=>exact stop x p o es ei h hg h1 h2 i1 i2
   | true=>
    obtain ⟨j,rfl,hl,h4⟩:=i3 rfl;obtain ⟨hj,hx,hp⟩:=h;exact step d x p j es ei true hl (hd j rfl).1 (hd j rfl).2 (by rw [hp];show (-1:Int)<0;decide) h4 hg ih h1 i1 h2 i2
end
def lw (l:List Zb):Nat:=(l.map fun e=>e.bk+1).sum
theorem ZqB (l:List Zb) (e:Zb):lw (l++[e])=lw l+(e.bk+1):=by simp [lw]
theorem ZvW (l:List Zb):bkS Zb.bk l=lw l:=by
 unfold bkS lw Qx
 induction l with
 | nil=>rfl
 | cons e l ih=>simp only [List.length_cons,List.map_cons,List.sum_cons] at ih ⊢;omega
theorem Zj3 (k n:Int) (t:ByteArray) (l:List Zb):(Zb.mk k n t l).bk=t.size+lw l:=by
 rw [Zb.ZH,<-ZvW];try rfl
theorem Zo0 (out:List Zb) (e:Zb) (h:out.length<=100):Yv 56 out [e]=some (out++[e]):=WS (by simp;omega) (by omega)
section
variable {T:List Zi} {E:Int}
def goL (j0:Nat) (o:Option Nat) (ls li:List Zb):Prop:=∀j,o=some j->ls=li/\j0<=j/\lw ls<=200*(j-j0)/\ls.length<=j
def ZxJ (j0:Nat) (o:Option Nat) (ls li:List Zb):Prop:=∀j,o=some j->ls=li/\j0<j/\lw ls<=200*(j-j0-1)
theorem ZnK {x:Zf} {p:Zg} {o:Option Nat} (ok:ZfB T E) (h:Rl T E x p o) {s:ByteArray} (hs:Zph s):∃b,Zl p s=some (b,if b=true then adI p else p)/\Zs x s=some (b,x)/\
  (b=true->∃j,o=some j/\j<T.length/\Rl T E (adS x) (adI p) (some (j+1))/\∀s',Zph s'->s'≠s->Zs x s'=some (false,x)):=by
 obtain ⟨b,h1,h2,h3⟩:=Zaj ok h hs;refine ⟨b,h2,h1,fun hb=> ?_⟩;obtain ⟨j,e,hl,h4⟩:=h3 hb;refine ⟨j,e,hl,h4,fun s' hs' hne=> ?_⟩;subst e hb;obtain ⟨hj,rfl,rfl⟩:=h;have ej:T[j]? =some T[j]:=Zyt hl;rw [Zfh ok hj] at h1 ⊢;have h5:ZcQ T j s=true:=by simpa using h1
 rw [Zgf ej] at h5 ⊢;have hp:T[j].text=s:=by simp only [Zb7,Zi4] at h5;simp at h5;rcases h5 with h5| h5<;>exact h5.2
 simp [Zb7,Zi4,hp,Ne.symm hne]
theorem Zop (ok:ZfB T E) (m:Nat) (hA:∀m',m'<=m->AgN T E m' Zx Zm) (c:ByteArray) (hc:Zph c) (hcc:c≠ZbU) (j0:Nat):∀(d:Nat) (x:Zf) (p:Zg) (o:Option Nat) (ls li:List Zb),Rl T E x p o->(∀j,o=some j->T.length-j<=d/\T.length-j<=m)->goL j0 o ls li->
  ∃ls' li' x' p' o',Rl T E x' p' o'/\ZxJ j0 o' ls' li'/\Ev2 fun k n=>((sAL (Zx k) n x ls).bind fun z=>(ZA z.2 c).bind fun u=>some (z.1,u))=some (ls',x')/\iAL (Zm k) c n p li=some (li',p'):=by
 intro d
 induction d with
 | zero=>
  intro x p o ls li h hd hg;cases o with
  | none=>
   have hb:=h.bad ok;obtain ⟨xf,pf,o',t1,t2,t3,t4⟩:=Zig ok h c;have ho:o'=none:=by cases o' with | none=>rfl| some j'=>obtain ⟨j,e,_⟩:=t4 j' rfl;cases e
   subst ho
   have hpf:Rl T E xf p none:=by
    obtain ⟨b,h0,h1,h2,h3,h4,h5⟩:=h;obtain ⟨b',k0,k1,k2,k3,k4,k5⟩:=t3;have:ZA x c=some x\/True:=.inr trivial;unfold ZA at t1;rw [Zhu hb.1] at t1;simp only [Zyl,Bool.not_false,if_true] at t1;have e1:Y3 x=some (zE,x):=by unfold Y3;simp [show ¬x.bad<0 by omega,zE]
    rw [e1] at t1;obtain rfl:x=xf:=by simpa using t1
    exact ⟨b,h0,h1,h2,h3,h4,h5⟩
   refine ⟨ls,li,xf,p,none,hpf,(by intro j e;cases e),.of fun k n=>⟨?_, ?_⟩⟩
   ·rw [ZdX,if_neg (by omega)];simp [t1]
   ·rw [J5,if_neg (by omega)]
  | some j=>
   obtain ⟨hj,hx,hp⟩:=id h;have hjl:j=T.length:=by have:=(hd j rfl).1;omega
   obtain ⟨ea,eb,x1,p1,o1,r1,g1,B1,e1⟩:=hA _ (hd j rfl).2 x p (some j) h (fun j' e=>by cases e;exact Zyr _)
   have ho1:o1=none:=by
    cases o1 with
    | none=>rfl
    | some j1=>obtain ⟨_,j2,e2,h2,_⟩:=g1 j1 rfl;cases e2;have:=r1.1;omega
   subst ho1;have hb:=r1.bad ok;have hlen:=ok.len;obtain ⟨hl1,hl2,hl3,hl4⟩:=hg j rfl;subst hl1;obtain ⟨xf,pf,o',t1,t2,t3,t4⟩:=Zig ok r1 c;have ho:o'=none:=by cases o' with | none=>rfl| some j'=>obtain ⟨j,e,_⟩:=t4 j' rfl;cases e
   subst ho;obtain ⟨xg,pg,o'',u1,u2,u3,u4⟩:=Zig ok r1 ZbU;have ho:o''=none:=by cases o'' with | none=>rfl| some j'=>obtain ⟨j,e,_⟩:=u4 j' rfl;cases e
   subst ho;have hbg:=u3.bad ok;have hxg:Y3 x1=some (zE,x1):=by unfold Y3;simp [show ¬x1.bad<0 by omega,zE]
   have hx1:x1=xf:=by unfold ZA at t1;rw [Zhu hb.1] at t1;simpa [hxg] using t1
   have hpg:Yr p1=some (zE,p1):=by unfold Yr;simp [show ¬p1.bad<0 by omega,zE]
   have hp1:p1=pg:=by rw [ZcX (Zd4 hb.2),Zih,ZmW,hpg] at u2;simpa using u2
   subst hx1 hp1;refine ⟨ls++[ea],ls++[eb],x1,p1,none,r1,(by intro j e;cases e),B1+2,fun k n hk hn=> ?_⟩;obtain ⟨n,rfl⟩:∃n',n=n'+2:=⟨n-2,by omega⟩;have q1:=e1 k (by omega);dsimp only at q1;constructor
   ·rw [ZdX,if_pos (by rw [hx];show (-1:Int)<0;decide),q1.1];simp only [Zyl];rw [Zo0 _ _ (by omega)];simp only [Zyl,Zhu hb.1,Zys,if_false,t1]
   ·rw [J5,if_pos (by rw [hp];show (-1:Int)<0;decide),q1.2];simp only [Zyl];rw [Zo0 _ _ (by omega)];simp only [Zyl,Jd (Zd4 hb.2),Zih,Zys,if_false,u2];rw [J5,if_neg (by omega)]
 | succ d ih=>
  intro x p o ls li h hd hg;cases o with
  | none=>exact ih x p none ls li h (by intro j e;cases e) (by intro j e;cases e)
  | some j=>
   obtain ⟨hj,hx,hp⟩:=id h;obtain ⟨ea,eb,x1,p1,o1,r1,g1,B1,e1⟩:=hA _ (hd j rfl).2 x p (some j) h (fun j' e=>by cases e;exact Zyr _);have hlen:=ok.len;obtain ⟨hl1,hl2,hl3,hl4⟩:=hg j rfl;subst hl1;have sx:x.bad<0:=by rw [hx];show (-1:Int)<0;decide
   have sp:p.bad<0:=by rw [hp];show (-1:Int)<0;decide
   obtain ⟨bc,c1,c2,c3⟩:=ZnK ok r1 hc;obtain ⟨bm,m1,m2,m3⟩:=ZnK ok r1 Zju;cases bc with
   | true=>
    obtain ⟨j1,rfl,hl,r2,c4⟩:=c3 rfl;obtain ⟨rfl,j2,ej,g2,g3⟩:=g1 j1 rfl;cases ej;have hm:=c4 ZbU Zju (Ne.symm hcc);have t1:ZA x1 c=some (adS x1):=by unfold ZA;rw [c2];rfl
    refine ⟨ls++[ea],ls++[ea],adS x1,adI p1,some (j1+1),r2,fun j' e=> ?_,B1+2,fun k n hk hn=> ?_⟩
    ·cases e;refine ⟨rfl,by omega, ?_⟩;rw [ZqB];omega
    ·obtain ⟨n,rfl⟩:∃n',n=n'+2:=⟨n-2,by omega⟩;have q1:=e1 k (by omega);dsimp only at q1;constructor
     ·rw [ZdX,if_pos sx,q1.1];simp only [Zyl];rw [Zo0 _ _ (by omega)];simp only [Zyl,hm,Zys,if_false,t1]
     ·rw [J5,if_pos sp,q1.2];simp only [Zyl];rw [Zo0 _ _ (by omega)];simp only [Zyl,c1,if_true]
   | false=>
    cases bm with
    | true=>
     obtain ⟨j1,rfl,hl,r2,m4⟩:=m3 rfl;obtain ⟨rfl,j2,ej,g2,g3⟩:=g1 j1 rfl;cases ej
     have n1:Zr p1 ZbU=some (adI p1):=by
      obtain ⟨hj1,hx1,hp1⟩:=r1;subst hp1 hx1;rw [ZcX (ZbI hj1)];have:=Zrc ok hj1 ZbU;rw [Zfh ok hj1] at m2;have h5:ZcQ T j1 ZbU=true:=by simpa using m2
      rw [Bool.or_comm,this,h5];rfl
     obtain ⟨ls',li',x',p',o',r3,g4,B2,e2⟩:=ih (adS x1) (adI p1) (some (j1+1)) (ls++[ea]) (ls++[ea]) r2 (fun j' e=>by cases e;have:=hd j rfl;omega) (fun j' e=>by
      cases e;refine ⟨rfl,by omega, ?_,by simp;omega⟩;rw [ZqB];omega)
     refine ⟨ls',li',x',p',o',r3,g4,max B1 B2+2,fun k n hk hn=> ?_⟩;obtain ⟨n,rfl⟩:∃n',n=n'+1:=⟨n-1,by omega⟩;have q1:=e1 k (by omega);dsimp only at q1;have q2:=e2 k n (by omega) (by omega);constructor
     ·rw [ZdX,if_pos sx,q1.1];simp only [Zyl];rw [Zo0 _ _ (by omega)];simp only [Zyl,m2,if_true];exact q2.1
     ·rw [J5,if_pos sp,q1.2];simp only [Zyl];rw [Zo0 _ _ (by omega)];simp only [Zyl,c1,Zys,if_false,n1];exact q2.2
    | false=>
     obtain ⟨xf,pf,f1,f2,f3⟩:=Zp2 ok r1;have t1:ZA x1 c=some xf:=by unfold ZA;rw [c2];simp [f1]
     have n1:Zr p1 ZbU=some pf:=by
      cases o1 with
      | none=>rw [ZcX (Zd4 (r1.bad ok).2),Zih,ZmW,f2];rfl
      | some j1=>
       obtain ⟨hj1,hx1,hp1⟩:=r1;subst hp1 hx1;rw [ZcX (ZbI hj1)];have:=Zrc ok hj1 ZbU;rw [Zfh ok hj1] at m2;have h5:ZcQ T j1 ZbU=false:=by simpa using m2
       rw [Bool.or_comm,this,h5,f2];rfl
     have hb:=f3.bad ok;refine ⟨ls++[ea],ls++[eb],xf,pf,none,f3,(by intro j e;cases e),B1+2,fun k n hk hn=> ?_⟩;obtain ⟨n,rfl⟩:∃n',n=n'+2:=⟨n-2,by omega⟩;have q1:=e1 k (by omega);dsimp only at q1;constructor
     ·rw [ZdX,if_pos sx,q1.1];simp only [Zyl];rw [Zo0 _ _ (by omega)];simp only [Zyl,m2,Zys,if_false,t1]
     ·rw [J5,if_pos sp,q1.2];simp only [Zyl];rw [Zo0 _ _ (by omega)];simp only [Zyl,c1,Zys,if_false,n1];rw [J5,if_neg (by omega)]
theorem lists (ok:ZfB T E) (m:Nat) (hA:∀m',m'<=m->AgN T E m' Zx Zm) (c:ByteArray) (hc:Zph c) (hcc:c≠ZbU) (x:Zf) (p:Zg) (o:Option Nat) (h:Rl T E x p o) (hd:∀j,o=some j->T.length-j<=m):
  ∃ls li x' p' o',Rl T E x' p' o'/\(∀j',o'=some j'->ls=li/\∃j,o=some j/\j<j'/\lw ls<=200*(j'-j-1))/\Ev fun k=>W6 k x c=some (ls,x')/\YL k p c=some (li,p'):=by
 obtain ⟨bc,c1,c2,c3⟩:=ZnK ok h hc;cases bc with
 | true=>
  obtain ⟨j,rfl,hl,r2,_⟩:=c3 rfl;refine ⟨[],[],adS x,adI p,some (j+1),r2,fun j' e=>⟨rfl,j,rfl,by cases e;omega,by simp [lw]⟩,1,fun k hk=> ?_⟩;obtain ⟨k,rfl⟩:∃n',k=n'+1:=⟨k-1,by omega⟩;exact ⟨by rw [Zqs,c2];rfl,by rw [ZqI,c1];rfl⟩
 | false=>
  obtain ⟨j0,hj0⟩:∃j0,∀j,o=some j->j=j0:=by
   cases o with
   | none=>exact ⟨0,by simp⟩
   | some j=>exact ⟨j,by simp⟩
  obtain ⟨ls,li,x',p',o',r1,g1,B,e1⟩:=Zop ok m hA c hc hcc j0 m x p o [] [] h (fun j e=>⟨hd j e,hd j e⟩) (fun j e=>⟨rfl,by rw [hj0 j e];exact Zyr _,by simp [lw],by simp⟩);refine ⟨ls,li,x',p',o',r1,fun j' e=> ?_,B+1,fun k hk=> ?_⟩
  ·obtain ⟨h1,h2,h3⟩:=g1 j' e;cases o with
   | some j=>have:=hj0 j rfl;subst this;exact ⟨h1,j,rfl,h2,h3⟩
   | none=>
    exfalso
    have q:=(e1 (B+1) (B+1) (by omega) (by omega)).2;have hb:=h.bad ok;rw [J5,if_neg (by omega)] at q;have:p=p':=by simpa using congrArg (fun y=>y.map Prod.snd) q
    subst this;rw [e] at r1;have:=r1.2.2;rw [this] at hb;exact absurd hb.2 (by show ¬(0:Int)<= -1;decide)
  ·obtain ⟨k,rfl⟩:∃n',k=n'+1:=⟨k-1,by omega⟩;have q:=e1 k k (by omega) (by omega);exact ⟨by rw [Zqs,c2];simp only [Zyl,Zys,if_false];exact q.1,by rw [ZqI,c1];simp only [Zyl,Zys,if_false];exact q.2⟩
end
def ZpF:ByteArray:=⟨#[40]⟩
def ZsK:ByteArray:=⟨#[41]⟩
def ZsO:ByteArray:=⟨#[91]⟩
def ZwA:ByteArray:=⟨#[93]⟩
def eqS:ByteArray:=⟨#[61]⟩
def Zor:ByteArray:=⟨#[60]⟩
def ZnV:ByteArray:=⟨#[61,61]⟩
def ZvZ:ByteArray:=⟨#[108,101,116]⟩
def kIn:ByteArray:=⟨#[105,110]⟩
def kIf:ByteArray:=⟨#[105,102]⟩
def Zou:ByteArray:=⟨#[116,104,101,110]⟩
def Zov:ByteArray:=⟨#[101,108,115,101]⟩
def Zv0:ByteArray:=⟨#[102,111,114]⟩
def kDo:ByteArray:=⟨#[100,111]⟩
theorem ZxO (t:ByteArray):∃z,Ya t=some z/\ZM t=some z:=by
 obtain ⟨z,h⟩:=Zeu t;exact ⟨z,by rw [show Ya t=ZM t by unfold Ya ZM;rfl,h],h⟩
section
variable {T:List Zi} {E:Int}
theorem ZsB (ok:ZfB T E) (m:Nat) (IH:∀m',m'<m->AgN T E m' Zx Zm):AgN T E m Z7 Zy:=by
 intro x p o h hd;obtain ⟨xf,pf,f1,f2,f3⟩:=Zp2 ok h;have hlen:=ok.len
 have bad:(∀k,200<=k->Z7 (k+1) x=some (zE,xf)/\Zy (k+1) p=some (zE,pf))->Ag T E o (fun k=>Z7 k x) (fun k=>Zy k p):=by
  intro hk;refine ⟨zE,zE,xf,pf,none,f3,(by intro j e;cases e),201,fun k hk2=> ?_⟩;obtain ⟨k,rfl⟩:∃n',k=n'+1:=⟨k-1,by omega⟩;exact hk k (by omega)
 have symz:∀s,ZC p=some (zT,p)->Zl p s=some (false,p):=fun s hn=>by rw [Jd hn,Zih];rfl
 have badI:∀k,ZC p=some (zT,p)->Zy (k+1) p=some (zE,pf):=by
  intro k hn;rw [Zy,hn];simp only [Zyl];simp [zT,symz _ hn,f2]
 cases o with
 | none=>
  have hb:=h.bad ok;refine bad fun k hk=>⟨?_,badI k (Zd4 hb.2)⟩;rw [Z7];simp [show 0<=x.bad from hb.1,f1]
 | some j=>
  obtain ⟨hj,hx,hp⟩:=id h;cases e:T[j]? with
  | none=>
   have hl:T.length<=j:=List.getElem?_eq_none_iff.1 e;refine bad fun k hk=>⟨?_,badI k (by rw [hp,ZbI hj,e];rfl)⟩;rw [Z7,hx];rw [hx] at f1;simp [show ((T.length:Int)<=(j:Int)) by omega,f1]
  | some t=>
   obtain ⟨hl,rfl⟩:=List.getElem?_eq_some_iff.1 e;have hm:=List.getElem_mem hl;have htx:=ok.tx _ hm;have ad:=Zuv ok hl;rw [<-hx,<-hp] at ad;have hnx:ZC p=some (T[j],p):=by rw [hp,ZbI hj,e];rfl
   have sgood:∀k,Z7 (k+1) x=(at? T (j:Int)).bind fun x3=>
     if (decide (x3.kind=2))=true then (ZdR x3.n).bind fun x4=>some (x4,adS x)
     else if (decide (x3.kind=3))=true then some ((Zb.mk 2 0 x3.text []),adS x)
     else (if (decide (x3.kind=1))=true then (Z0 k x3.text).bind fun x6=>some x6 else some false).bind fun x5=>
      if x5=true then (ZbD x3.text).bind fun x7=>some (x7,adS x)
      else (if (decide (x3.kind=1))=true then (Ya x3.text).bind fun x9=>some (decide (0<=x9)) else some false).bind fun x8=>
       if x8=true then (ZA (adS x) ZpF).bind fun x10=>(W6 k x10 ZsK).bind fun x11=>some ((Zb.mk 5 0 x3.text x11.1),x11.2)
       else (WW x3 ZsO).bind fun x12=>if x12=true then (W6 k (adS x) ZwA).bind fun x13=>some ((Zb.mk 4 0 (⟨#[]⟩:ByteArray) x13.1),x13.2)
        else (WW x3 ZpF).bind fun x14=>if x14=true then (Zx k (adS x)).bind fun x15=>(ZA x15.2 ZsK).bind fun x16=>some (x15.1,x16)
         else (Y3 x).bind fun x17=>some (x17.1,x17.2):=by
    intro k;rw [Z7,hx];simp only [show ¬((0:Int)<= -1) by omega,decide_false,Zys,if_false,show ¬((T.length:Int)<=(j:Int)) by omega,Zyl]
    rfl
   have igood:∀k,Zy (k+1) p=
     if (decide (T[j].kind=2))=true then some ((Zb.mk 1 T[j].n (⟨#[]⟩:ByteArray) []),adI p)
     else if (decide (T[j].kind=3))=true then some ((Zb.mk 2 0 T[j].text []),adI p)
     else (if (decide (T[j].kind=1))=true then (Z2 k T[j].text).bind fun x3=>some x3 else some false).bind fun x2=>
      if x2=true then some ((Zb.mk 3 0 T[j].text []),adI p)
      else (if (decide (T[j].kind=1))=true then (ZM T[j].text).bind fun x5=>some (decide (0<=x5)) else some false).bind fun x4=>
       if x4=true then (Zr (adI p) ZpF).bind fun x6=>(YL k x6 ZsK).bind fun x7=>some ((Zb.mk 5 0 T[j].text x7.1),x7.2)
       else if Zb7 T[j] ZsO=true then (YL k (adI p) ZwA).bind fun x9=>some ((Zb.mk 4 0 (⟨#[]⟩:ByteArray) x9.1),x9.2)
        else if Zb7 T[j] ZpF=true then (Zm k (adI p)).bind fun x11=>(Zr x11.2 ZsK).bind fun x12=>some (x11.1,x12)
         else (Yr p).bind fun x13=>some (x13.1,x13.2):=by
    intro k;rw [Zy,hnx];simp only [Zyl];have s1:Zl p (⟨#[91]⟩:ByteArray)=some (Zb7 T[j] ZsO,if Zb7 T[j] ZsO=true then adI p else p):=Jd hnx _;have s2:Zl p (⟨#[40]⟩:ByteArray)=some (Zb7 T[j] ZpF,if Zb7 T[j] ZpF=true then adI p else p):=Jd hnx _;rw [s1];simp only [Zyl];cases hb1:Zb7 T[j] ZsO
    ·simp only [Zys,if_false];rw [s2];cases hb2:Zb7 T[j] ZpF<;>rfl
    ·rfl
   have done:∀(ex:Zb),ex.bk+1<=200->(∀k,200<=k->Z7 (k+1) x=some (ex,adS x)/\Zy (k+1) p=some (ex,adI p))->Ag T E (some j) (fun k=>Z7 k x) (fun k=>Zy k p):=by
    intro ex hbk hk;refine ⟨ex,ex,adS x,adI p,some (j+1),ad,fun j' e=>⟨rfl,j,rfl,by cases e;omega,by cases e;omega⟩,201,fun k hk2=> ?_⟩;obtain ⟨k,rfl⟩:∃n',k=n'+1:=⟨k-1,by omega⟩;exact hk k (by omega)
   have hat:at? T (j:Int)=some T[j]:=YF hl;have hn0:T.length-(j+1)<m:=by have:=hd j rfl;omega
   obtain ⟨z,z1,z2⟩:=ZxO T[j].text;have vn:∀k,200<=k->Z0 k T[j].text=some (WH T[j].text)/\Z2 k T[j].text=some (WH T[j].text):=fun k hk=>Ja _ (by omega) (by omega) (by omega)
   by_cases k2:T[j].kind=2
   ·refine done ⟨1,T[j].n,⟨#[]⟩,[]⟩ (by rw [Zj3];simp [lw];try decide) fun k hk=>⟨?_, ?_⟩
    ·rw [sgood,hat];simp only [Zyl,k2,decide_true,if_true,ZdR]
    ·rw [igood];simp only [k2,decide_true,if_true]
   by_cases k3:T[j].kind=3
   ·refine done ⟨2,0,T[j].text,[]⟩ (by rw [Zj3];simp [lw];omega) fun k hk=>⟨?_, ?_⟩
    ·rw [sgood,hat];simp [k3]
    ·rw [igood];simp [k3]
   by_cases k1:T[j].kind=1
   ·have nosym:∀s,Zb7 T[j] s=false:=fun s=>by simp [Zb7,k1]
    cases hv:WH T[j].text with
    | true=>
     refine done ⟨3,0,T[j].text,[]⟩ (by rw [Zj3];simp [lw];omega) fun k hk=>⟨?_, ?_⟩
     ·rw [sgood,hat];simp [k1,(vn k hk).1,hv,ZbD]
     ·rw [igood];simp [k1,(vn k hk).2,hv]
    | false=>
     by_cases hz:0<=z
     ·obtain ⟨x1,p1,o1,t1,t2,r1,g1⟩:=Zig ok ad ZpF;obtain ⟨ls,li,x2,p2,o2,r2,g2,B,e2⟩:=lists ok (m-1) (fun m' hm'=>IH m' (by omega)) ZsK ⟨41,[],rfl,by decide⟩ (by decide) x1 p1 o1 r1 (fun j' e=>by obtain ⟨j2,e2,h2⟩:=g1 j' e;cases e2;omega);refine ⟨⟨5,0,T[j].text,ls⟩,⟨5,0,T[j].text,li⟩,x2,p2,o2,r2,fun j' e=> ?_,max B 200+1,fun k hk=> ?_⟩
      ·obtain ⟨rfl,j2,e3,h3,h4⟩:=g2 j' e;obtain ⟨j3,e4,h5⟩:=g1 j2 e3;cases e4;refine ⟨rfl,j,rfl,by omega, ?_⟩;rw [Zj3];omega
      ·obtain ⟨k,rfl⟩:∃n',k=n'+1:=⟨k-1,by omega⟩;have q:=e2 k (by omega);dsimp only at q;have v:=vn k (by omega);dsimp only;constructor
       ·rw [sgood,hat];simp [k1,v.1,hv,z1,hz,t1,q.1]
       ·rw [igood];simp [k1,v.2,hv,z2,hz,t2,q.2]
     ·refine bad fun k hk=>⟨?_, ?_⟩
      ·rw [sgood,hat];simp [k1,(vn k hk).1,hv,z1,hz,ZdM,nosym,f1]
      ·rw [igood];simp [k1,(vn k hk).2,hv,z2,hz,nosym,f2]
   ·cases hs1:Zb7 T[j] ZsO with
    | true=>
     obtain ⟨ls,li,x2,p2,o2,r2,g2,B,e2⟩:=lists ok (m-1) (fun m' hm'=>IH m' (by omega)) ZwA ⟨93,[],rfl,by decide⟩ (by decide) (adS x) (adI p) _ ad (fun j' e=>by cases e;omega);refine ⟨⟨4,0,⟨#[]⟩,ls⟩,⟨4,0,⟨#[]⟩,li⟩,x2,p2,o2,r2,fun j' e=> ?_,max B 200+1,fun k hk=> ?_⟩
     ·obtain ⟨rfl,j2,e3,h3,h4⟩:=g2 j' e;cases e3;refine ⟨rfl,j,rfl,by omega, ?_⟩;rw [Zj3];have h0:(⟨#[]⟩:ByteArray).size=0:=rfl;omega
     ·obtain ⟨k,rfl⟩:∃n',k=n'+1:=⟨k-1,by omega⟩;have q:=e2 k (by omega);dsimp only at q;dsimp only;constructor
      ·rw [sgood,hat];simp [k1,k2,k3,ZdM,hs1,q.1]
      ·rw [igood];simp [k1,k2,k3,hs1,q.2]
    | false=>
     cases hs2:Zb7 T[j] ZpF with
     | true=>
      obtain ⟨ea,eb,x1,p1,o1,r1,g1,B,e1⟩:=IH _ hn0 (adS x) (adI p) _ ad (fun j' e=>by cases e;exact Zyr _);obtain ⟨x2,p2,o2,t1,t2,r2,g2⟩:=Zig ok r1 ZsK;refine ⟨ea,eb,x2,p2,o2,r2,fun j' e=> ?_,max B 200+1,fun k hk=> ?_⟩
      ·obtain ⟨j2,e3,h3⟩:=g2 j' e;obtain ⟨h4,j3,e4,h5,h6⟩:=g1 j2 e3;cases e4;exact ⟨h4,j,rfl,by omega,by omega⟩
      ·obtain ⟨k,rfl⟩:∃n',k=n'+1:=⟨k-1,by omega⟩;have q:=e1 k (by omega);dsimp only at q;dsimp only;constructor
       ·rw [sgood,hat];simp [k1,k2,k3,ZdM,hs1,hs2,q.1,t1]
       ·rw [igood];simp [k1,k2,k3,hs1,hs2,q.2,t2]
     | false=>
      refine bad fun k hk=>⟨?_, ?_⟩
      ·rw [sgood,hat];simp [k1,k2,k3,ZdM,hs1,hs2,f1]
      ·rw [igood];simp [k1,k2,k3,hs1,hs2,f2]
theorem Zri (ok:ZfB T E) (m:Nat) (hA:∀m',m'<=m->AgN T E m' Z7 Zy):AgN T E m ZJ Zu:=by
 intro x p o h hd;obtain ⟨ea,eb,x1,p1,o1,r1,g1,B1,e1⟩:=hA m (Zyr _) x p o h hd
 obtain ⟨j0,hj0⟩:∃j0,∀j,o=some j->j=j0:=by
  cases o with
  | none=>exact ⟨0,by simp⟩
  | some j=>exact ⟨j,by simp⟩
 obtain ⟨es,ei,x2,p2,o2,r2,g2,B2,e2⟩:=Zn7 ok m (fun m' hm'=>hA m' (by omega)) j0 m x1 p1 o1 ea eb r1
  (fun j e=>by obtain ⟨_,j2,e3,h3,_⟩:=g1 j e;have:=hd j2 e3;omega)
  (fun j e=>by obtain ⟨h2,j2,e3,h3,h4⟩:=g1 j e;have:=hj0 j2 e3;subst this;exact ⟨h2,h3,h4⟩)
 refine ⟨es,ei,x2,p2,o2,r2,fun j' e=> ?_,max B1 B2+1,fun k hk=> ?_⟩
 ·obtain ⟨h1,h2,h3⟩:=g2 j' e;cases o with
  | some j=>have:=hj0 j rfl;subst this;exact ⟨h1,j,rfl,h2,h3⟩
  | none=>
   exfalso
   have ho1:o1=none:=by cases o1 with | none=>rfl| some j1=>obtain ⟨_,j2,e3,_⟩:=g1 j1 rfl;cases e3
   subst ho1;have q:=(e2 (B2+1) (B2+1) (by omega) (by omega)).2;have hb:=r1.bad ok;rw [ZfW,Jd (Zd4 hb.2),Zih] at q;simp only [Zyl,Zys,if_false,Zyo,Zyp] at q;rw [e,<-q.2] at r2;have:=r2.2.2;rw [this] at hb;exact absurd hb.2 (by show ¬(0:Int)<= -1;decide)
 ·obtain ⟨k,rfl⟩:∃n',k=n'+1:=⟨k-1,by omega⟩;have q1:=e1 k (by omega);dsimp only at q1;have q2:=e2 k k (by omega) (by omega);dsimp only at q2;dsimp only;exact ⟨by rw [Zth,q1.1];exact q2.1,by rw [ZtK,q1.2];exact q2.2⟩
theorem Zs5 (ok:ZfB T E) (m:Nat) (hA:∀m',m'<=m->AgN T E m' ZJ Zu):AgN T E m X2 ZZ:=by
 intro x p o h hd;obtain ⟨ea,eb,x1,p1,o1,r1,g1,B1,e1⟩:=hA m (Zyr _) x p o h hd
 obtain ⟨j0,hj0⟩:∃j0,∀j,o=some j->j=j0:=by
  cases o with
  | none=>exact ⟨0,by simp⟩
  | some j=>exact ⟨j,by simp⟩
 obtain ⟨es,ei,x2,p2,o2,r2,g2,B2,e2⟩:=Zpr ok m (fun m' hm'=>hA m' (by omega)) j0 m x1 p1 o1 ea eb r1
  (fun j e=>by obtain ⟨_,j2,e3,h3,_⟩:=g1 j e;have:=hd j2 e3;omega)
  (fun j e=>by obtain ⟨h2,j2,e3,h3,h4⟩:=g1 j e;have:=hj0 j2 e3;subst this;exact ⟨h2,h3,h4⟩)
 refine ⟨es,ei,x2,p2,o2,r2,fun j' e=> ?_,max B1 B2+1,fun k hk=> ?_⟩
 ·obtain ⟨h1,h2,h3⟩:=g2 j' e;cases o with
  | some j=>have:=hj0 j rfl;subst this;exact ⟨h1,j,rfl,h2,h3⟩
  | none=>
   exfalso
   have ho1:o1=none:=by cases o1 with | none=>rfl| some j1=>obtain ⟨_,j2,e3,_⟩:=g1 j1 rfl;cases e3
   subst ho1;have q:=(e2 (B2+1) (B2+1) (by omega) (by omega)).2;have hb:=r1.bad ok;rw [ZiJ,if_neg (by omega)] at q;simp only [Zyo,Zyp] at q;rw [e,<-q.2] at r2;have:=r2.2.2;rw [this] at hb;exact absurd hb.2 (by show ¬(0:Int)<= -1;decide)
 ·obtain ⟨k,rfl⟩:∃n',k=n'+1:=⟨k-1,by omega⟩;have q1:=e1 k (by omega);dsimp only at q1;have q2:=e2 k k (by omega) (by omega);dsimp only at q2;dsimp only;exact ⟨by rw [Ztg,q1.1];exact q2.1,by rw [ZtJ,q1.2];exact q2.2⟩
end
def iCL (r:Zg->Option (Zb×Zg)) (y:Zb×Zg) (n:Nat) (p:Zg) (i:Int):Option (Zb×Zg):=
 (Ye r y n p.list p.at_ p.bad i:Option (((List Zi)×Int×Int) ⊕ (Zb×Zg))).bind fun
  | .inl (a,b,c)=>some (y.1,⟨a,b,c⟩)
  | .inr z=>some z
theorem ZxB:KP 4=some Zor:=by decide+kernel
theorem ZxA:KP 5=some ZnV:=by decide+kernel
theorem Zv2 (r:Zg->Option (Zb×Zg)) (y:Zb×Zg) (n:Nat) (p:Zg):iCL r y (n+1) p 0=(Zl p Zor).bind fun s=>if s.1=true then (r s.2).bind fun w=>some (opE 4 y.1 w.1,w.2) else iCL r y n s.2 1:=by
 unfold iCL;rw [Ye];have h1:at? [(4:Int),5] 0=some 4:=rfl;have h2:IntKind.i64.wrap (0+1)=1:=by decide
 simp only [h1,h2,Zyl,ZxB,show (decide ((0:Int)<(([4,5]:List Nat).length:Int)))=true from rfl,if_true];rcases Zl p Zor with _| ⟨b,q⟩
 ·rfl
 ·cases b
  ·simp only [Zyl,Zys,if_false]
  ·simp only [Zyl,if_true];rcases r q with _| ⟨a,z⟩<;>rfl
theorem ZwX (r:Zg->Option (Zb×Zg)) (y:Zb×Zg) (n:Nat) (p:Zg):iCL r y (n+2) p 1=(Zl p ZnV).bind fun s=>if s.1=true then (r s.2).bind fun w=>some (opE 5 y.1 w.1,w.2) else some (y.1,s.2):=by
 unfold iCL;rw [Ye];have h1:at? [(4:Int),5] 1=some 5:=rfl;have h2:IntKind.i64.wrap (1+1)=2:=by decide
 simp only [h1,h2,Zyl,ZxA,show (decide ((1:Int)<(([4,5]:List Nat).length:Int)))=true from rfl,if_true];rcases Zl p ZnV with _| ⟨b,q⟩
 ·rfl
 ·cases b
  ·simp only [Zyl,Zys,if_false];rw [Ye];simp only [show (decide ((2:Int)<(([4,5]:List Nat).length:Int)))=false from rfl,Zys,if_false,Zyl]
  ·simp only [Zyl,if_true];rcases r q with _| ⟨a,z⟩<;>rfl
theorem Zn1 (k:Nat) (x:Zf):Xe (k+1) x=(X2 k x).bind fun y=>(Zs y.2 Zor).bind fun u=>if u.1=true then (X2 k (adS u.2)).bind fun w=>some (opE 4 y.1 w.1,w.2) else (Zs u.2 ZnV).bind fun v=>if v.1=true then (X2 k (adS v.2)).bind fun w=>some (opE 5 y.1 w.1,w.2) else some (y.1,v.2):=by
 rw [Xe];rfl
theorem ZlN (k:Nat) (x:Zf):Zx (k+1) x=(Zs x ZvZ).bind fun y=>
  if y.1=true then (X9 k (adS y.2)).bind fun n=>(ZA n.2 eqS).bind fun z=>(Zx k z).bind fun a=>(ZA a.2 kIn).bind fun u=>(Zx k u).bind fun b=>some (⟨7,0,n.1,[a.1,b.1]⟩,b.2)
  else (Zs y.2 kIf).bind fun y=>if y.1=true then (Zx k (adS y.2)).bind fun a=>(ZA a.2 Zou).bind fun z=>(Zx k z).bind fun b=>(ZA b.2 Zov).bind fun u=>(Zx k u).bind fun c=>some (⟨8,0,⟨#[]⟩,[a.1,b.1,c.1]⟩,c.2)
  else (Zs y.2 Zv0).bind fun y=>if y.1=true then (X9 k (adS y.2)).bind fun n=>(ZA n.2 kIn).bind fun z=>(Zx k z).bind fun a=>(ZA a.2 kDo).bind fun u=>(Zx k u).bind fun b=>some (⟨9,0,n.1,[a.1,b.1]⟩,b.2)
  else (Xe k y.2).bind fun z=>some (z.1,z.2):=by
 rw [Zx];rfl
theorem Zl7 (k:Nat) (p:Zg) (t:Zi) (h:ZC p=some (t,p)) {b1 b2 b3:Bool} (h1:Yz t ZvZ=some b1) (h2:Yz t kIf=some b2) (h3:Yz t Zv0=some b3):Zm (k+1) p=
  if b1=true then (Yq k (adI p)).bind fun n=>(Zr n.2 eqS).bind fun z=>(Zm k z).bind fun a=>(Yv 56 ([]:List Zb) [a.1]).bind fun l=>(Zr a.2 kIn).bind fun u=>(Zm k u).bind fun b=>(Yv 56 l [b.1]).bind fun l2=>some (⟨7,0,n.1,l2⟩,b.2)
  else if b2=true then (Zm k (adI p)).bind fun a=>(Yv 56 ([]:List Zb) [a.1]).bind fun l=>(Zr a.2 Zou).bind fun z=>(Zm k z).bind fun b=>(Yv 56 l [b.1]).bind fun l2=>(Zr b.2 Zov).bind fun u=>(Zm k u).bind fun c=>(Yv 56 l2 [c.1]).bind fun l3=>some (⟨8,0,⟨#[]⟩,l3⟩,c.2)
  else if b3=true then (Yq k (adI p)).bind fun n=>(Zr n.2 kIn).bind fun z=>(Zm k z).bind fun a=>(Yv 56 ([]:List Zb) [a.1]).bind fun l=>(Zr a.2 kDo).bind fun u=>(Zm k u).bind fun b=>(Yv 56 l [b.1]).bind fun l2=>some (⟨9,0,n.1,l2⟩,b.2)
  else (ZZ k p).bind fun y=>iCL (ZZ k) y k y.2 0:=by
 have g1:Yz t ⟨#[108,101,116]⟩=some b1:=h1;have g2:Yz t ⟨#[105,102]⟩=some b2:=h2;have g3:Yz t ⟨#[102,111,114]⟩=some b3:=h3;rw [Zm];simp only [h,Zyl,g1,g2,g3];cases b1
 ·cases b2
  ·cases b3
   ·rfl
   ·rfl
  ·rfl
 ·rfl
section
variable {T:List Zi} {E:Int}
theorem Zub (ok:ZfB T E) (m:Nat) (hS:∀m',m'<=m->AgN T E m' X2 ZZ):AgN T E m Xe (fun k p=>(ZZ k p).bind fun y=>iCL (ZZ k) y k y.2 0):=by
 intro x p o h hd;obtain ⟨ea,eb,x1,p1,o1,r1,g1,B1,e1⟩:=hS m (Zyr _) x p o h hd;obtain ⟨b,s1,s2,s3⟩:=Zaj ok r1 (s:=Zor) ⟨60,[],rfl,by decide⟩;cases b with
 | true=>
  obtain ⟨j1,rfl,hl,r2⟩:=s3 rfl;obtain ⟨rfl,j,rfl,h2,h3⟩:=g1 j1 rfl;have hj:=hd j rfl;obtain ⟨fa,fb,x2,p2,o2,r3,g3,B2,e2⟩:=hS (T.length-(j1+1)) (by omega) _ _ _ r2 (fun j' e=>by cases e;exact Zyr _);refine ⟨opE 4 ea fa,opE 4 ea fb,x2,p2,o2,r3,fun j' e=> ?_,max B1 B2+2,fun k hk=> ?_⟩
  ·obtain ⟨rfl,j2,e3,h4,h5⟩:=g3 j' e;cases e3;exact ⟨rfl,j,rfl,by omega,by rw [Zob];omega⟩
  ·obtain ⟨k,rfl⟩:∃n',k=n'+1:=⟨k-1,by omega⟩;have q1:=e1 k (by omega);dsimp only at q1;have q2:=e2 k (by omega);dsimp only at q2;have q1':=e1 (k+1) (by omega);dsimp only at q1';have q2':=e2 (k+1) (by omega);dsimp only at q2';dsimp only;exact ⟨by rw [Zn1,q1.1];simp only [Zyl,s1,if_true,q2.1],by rw [q1'.2];simp only [Zyl];rw [Zv2,s2];simp only [Zyl,if_true,q2'.2]⟩
 | false=>
  obtain ⟨c,t1,t2,t3⟩:=Zaj ok r1 (s:=ZnV) ⟨61,[61],rfl,by decide⟩;cases c with
  | true=>
   obtain ⟨j1,rfl,hl,r2⟩:=t3 rfl;obtain ⟨rfl,j,rfl,h2,h3⟩:=g1 j1 rfl;have hj:=hd j rfl;obtain ⟨fa,fb,x2,p2,o2,r3,g3,B2,e2⟩:=hS (T.length-(j1+1)) (by omega) _ _ _ r2 (fun j' e=>by cases e;exact Zyr _);refine ⟨opE 5 ea fa,opE 5 ea fb,x2,p2,o2,r3,fun j' e=> ?_,max B1 B2+4,fun k hk=> ?_⟩
   ·obtain ⟨rfl,j2,e3,h4,h5⟩:=g3 j' e;cases e3;exact ⟨rfl,j,rfl,by omega,by rw [Zob];omega⟩
   ·obtain ⟨k,rfl⟩:∃n',k=n'+3:=⟨k-3,by omega⟩;have q1:=e1 (k+2) (by omega);dsimp only at q1;have q2:=e2 (k+2) (by omega);dsimp only at q2;have q1':=e1 (k+3) (by omega);dsimp only at q1';have q2':=e2 (k+3) (by omega);dsimp only at q2';dsimp only;exact ⟨by rw [Zn1,q1.1];simp only [Zyl,s1,Zys,if_false,t1,if_true,q2.1],by rw [q1'.2];simp only [Zyl];rw [Zv2,s2];simp only [Zyl,Zys,if_false];rw [ZwX,t2];simp only [Zyl,if_true,q2'.2]⟩
  | false=>
   refine ⟨ea,eb,x1,p1,o1,r1,g1,B1+4,fun k hk=> ?_⟩;obtain ⟨k,rfl⟩:∃n',k=n'+3:=⟨k-3,by omega⟩;have q1:=e1 (k+2) (by omega);dsimp only at q1;have q1':=e1 (k+3) (by omega);dsimp only at q1';dsimp only;exact ⟨by rw [Zn1,q1.1];simp only [Zyl,s1,Zys,if_false,t1],by rw [q1'.2];simp only [Zyl];rw [Zv2,s2];simp only [Zyl,Zys,if_false];rw [ZwX,t2];simp only [Zyl,Zys,if_false]⟩
theorem Zw2 (a b:Zb):Yv 56 [a] [b]=some [a,b]:=Zo0 [a] b (by simp)
theorem Zw3 (a:Zb):Yv 56 ([]:List Zb) [a]=some [a]:=Zo0 [] a (by simp)
theorem ZxP (a b c:Zb):Yv 56 [a,b] [c]=some [a,b,c]:=Zo0 [a,b] c (by simp)
theorem lw2 (a b:Zb):lw [a,b]=(a.bk+1)+(b.bk+1):=by simp [lw]
theorem lw3 (a b c:Zb):lw [a,b,c]=(a.bk+1)+(b.bk+1)+(c.bk+1):=by simp [lw];omega
theorem ZoU (ok:ZfB T E) (m:Nat) (IH:∀m',m'<m->AgN T E m' Zx Zm) {x:Zf} {p:Zg} {j:Nat} (hj:T.length-j<=m) (hl:j<T.length) (r0:Rl T E x p (some (j+1))) (c1 c2:ByteArray) (kd:Int):
  Ag T E (some j) (fun k=>(X9 k x).bind fun n=>(ZA n.2 c1).bind fun z=>(Zx k z).bind fun a=>(ZA a.2 c2).bind fun u=>(Zx k u).bind fun b=>some (⟨kd,0,n.1,[a.1,b.1]⟩,b.2))
   (fun k=>(Yq k p).bind fun n=>(Zr n.2 c1).bind fun z=>(Zm k z).bind fun a=>(Yv 56 ([]:List Zb) [a.1]).bind fun l=>(Zr a.2 c2).bind fun u=>(Zm k u).bind fun b=>(Yv 56 l [b.1]).bind fun l2=>some (⟨kd,0,n.1,l2⟩,b.2)):=by
 obtain ⟨ns,ni,x1,p1,o1,r1,g1,v1⟩:=names ok r0;obtain ⟨x2,p2,o2,t1,t2,r2,g2⟩:=Zig ok r1 c1;obtain ⟨ea,eb,x3,p3,o3,r3,g3,B3,e3⟩:=IH (T.length-(j+1)) (by omega) _ _ _ r2 (fun j' e=>by obtain ⟨j2,e2,h2⟩:=g2 j' e;obtain ⟨_,_,j3,e4,h3⟩:=g1 j2 e2;cases e4;omega);obtain ⟨x4,p4,o4,u1,u2,r4,g4⟩:=Zig ok r3 c2
 obtain ⟨fa,fb,x5,p5,o5,r5,g5,B5,e5⟩:=IH (T.length-(j+1)) (by omega) _ _ _ r4 (fun j' e=>by
  obtain ⟨j2,e2,h2⟩:=g4 j' e;obtain ⟨_,j3,e4,h3,_⟩:=g3 j2 e2;obtain ⟨j4,e6,h4⟩:=g2 j3 e4;obtain ⟨_,_,j5,e7,h5⟩:=g1 j4 e6;cases e7;omega)
 refine ⟨⟨kd,0,ns,[ea,fa]⟩,⟨kd,0,ni,[eb,fb]⟩,x5,p5,o5,r5,fun j' e=> ?_,max B3 B5+200,fun k hk=> ?_⟩
 ·obtain ⟨rfl,j1,a1,a2,a3⟩:=g5 j' e;obtain ⟨j2,b1,b2⟩:=g4 j1 a1;obtain ⟨rfl,j3,c1,c2,c3⟩:=g3 j2 b1;obtain ⟨j4,d1,d2⟩:=g2 j3 c1;obtain ⟨rfl,f1,j5,f2,f3⟩:=g1 j4 d1;cases f2;exact ⟨rfl,j,rfl,by omega,by rw [Zj3,lw2];omega⟩
 ·have q1:=v1 k (by omega);have q3:=e3 k (by omega);dsimp only at q3;have q5:=e5 k (by omega);dsimp only at q5;dsimp only;exact ⟨by simp only [q1.1,Zyl,t1,q3.1,u1,q5.1],by simp only [q1.2,Zyl,t2,q3.2,Zw3,u2,q5.2,Zw2]⟩
theorem Zv1 (ok:ZfB T E) (m:Nat) (IH:∀m',m'<m->AgN T E m' Zx Zm) {x:Zf} {p:Zg} {j:Nat} (hj:T.length-j<=m) (hl:j<T.length) (r0:Rl T E x p (some (j+1))):
  Ag T E (some j) (fun k=>(Zx k x).bind fun a=>(ZA a.2 Zou).bind fun z=>(Zx k z).bind fun b=>(ZA b.2 Zov).bind fun u=>(Zx k u).bind fun c=>some (⟨8,0,⟨#[]⟩,[a.1,b.1,c.1]⟩,c.2))
   (fun k=>(Zm k p).bind fun a=>(Yv 56 ([]:List Zb) [a.1]).bind fun l=>(Zr a.2 Zou).bind fun z=>(Zm k z).bind fun b=>(Yv 56 l [b.1]).bind fun l2=>(Zr b.2 Zov).bind fun u=>(Zm k u).bind fun c=>(Yv 56 l2 [c.1]).bind fun l3=>some (⟨8,0,⟨#[]⟩,l3⟩,c.2)):=by
 obtain ⟨ea,eb,x1,p1,o1,r1,g1,B1,e1⟩:=IH (T.length-(j+1)) (by omega) _ _ _ r0 (fun j' e=>by cases e;exact Zyr _);obtain ⟨x2,p2,o2,t1,t2,r2,g2⟩:=Zig ok r1 Zou;obtain ⟨fa,fb,x3,p3,o3,r3,g3,B3,e3⟩:=IH (T.length-(j+1)) (by omega) _ _ _ r2 (fun j' e=>by obtain ⟨j2,e2,h2⟩:=g2 j' e;obtain ⟨_,j3,e4,h3,_⟩:=g1 j2 e2;cases e4;omega);obtain ⟨x4,p4,o4,u1,u2,r4,g4⟩:=Zig ok r3 Zov
 obtain ⟨ga,gb,x5,p5,o5,r5,g5,B5,e5⟩:=IH (T.length-(j+1)) (by omega) _ _ _ r4 (fun j' e=>by
  obtain ⟨j2,e2,h2⟩:=g4 j' e;obtain ⟨_,j3,e4,h3,_⟩:=g3 j2 e2;obtain ⟨j4,e6,h4⟩:=g2 j3 e4;obtain ⟨_,j5,e7,h5,_⟩:=g1 j4 e6;cases e7;omega)
 refine ⟨⟨8,0,⟨#[]⟩,[ea,fa,ga]⟩,⟨8,0,⟨#[]⟩,[eb,fb,gb]⟩,x5,p5,o5,r5,fun j' e=> ?_,max B1 (max B3 B5),fun k hk=> ?_⟩
 ·obtain ⟨rfl,j1,a1,a2,a3⟩:=g5 j' e;obtain ⟨j2,b1,b2⟩:=g4 j1 a1;obtain ⟨rfl,j3,c1,c2,c3⟩:=g3 j2 b1;obtain ⟨j4,d1,d2⟩:=g2 j3 c1;obtain ⟨rfl,j5,f2,f3,f4⟩:=g1 j4 d1;cases f2;have h0:(⟨#[]⟩:ByteArray).size=0:=rfl;exact ⟨rfl,j,rfl,by omega,by rw [Zj3,lw3];omega⟩
 ·have q1:=e1 k (by omega);dsimp only at q1;have q3:=e3 k (by omega);dsimp only at q3;have q5:=e5 k (by omega);dsimp only at q5;dsimp only;exact ⟨by simp only [q1.1,Zyl,t1,q3.1,u1,q5.1],by simp only [q1.2,Zyl,t2,q3.2,Zw3,u2,q5.2,Zw2,ZxP]⟩
theorem Ag.next {o:Option Nat} {s s':Nat->Option (Zb×Zf)} {i i':Nat->Option (Zb×Zg)} (h:Ag T E o s i) (hs:∀k,s' (k+1)=s k) (hi:∀k,i' (k+1)=i k):Ag T E o s' i':=by
 obtain ⟨ea,eb,x1,p1,o1,r1,g1,B1,e1⟩:=h;refine ⟨ea,eb,x1,p1,o1,r1,g1,B1+1,fun k hk=> ?_⟩;obtain ⟨k,rfl⟩:∃n',k=n'+1:=⟨k-1,by omega⟩;rw [hs,hi];exact e1 k (by omega)
theorem Zr4 (ok:ZfB T E) (m:Nat) (hS:∀m',m'<=m->AgN T E m' X2 ZZ) (IH:∀m',m'<m->AgN T E m' Zx Zm):AgN T E m Zx Zm:=by
 intro x p o h hd;obtain ⟨b1,t,a1,a2,a3,a4⟩:=ZkH ok h (s:=ZvZ) ⟨108,[101,116],rfl,by decide⟩;obtain ⟨b2,t',d1,d2,d3,d4⟩:=ZkH ok h (s:=kIf) ⟨105,[102],rfl,by decide⟩;obtain ⟨b3,t'',c1,c2,c3,c4⟩:=ZkH ok h (s:=Zv0) ⟨102,[111,114],rfl,by decide⟩;obtain rfl:t=t':=by rw [a2] at d2;simpa using d2
 obtain rfl:t=t'':=by rw [a2] at c2;simpa using c2
 cases b1 with
 | true=>
  obtain ⟨j,rfl,hl,r2⟩:=a4 rfl;refine (ZoU ok m IH (hd j rfl) hl r2 eqS kIn 7).next (fun k=> ?_) (fun k=> ?_)
  ·rw [ZlN,a1];simp only [Zyl,if_true]
  ·rw [Zl7 k p t a2 a3 d3 c3];simp only [if_true]
 | false=>
  cases b2 with
  | true=>
   obtain ⟨j,rfl,hl,r2⟩:=d4 rfl;refine (Zv1 ok m IH (hd j rfl) hl r2).next (fun k=> ?_) (fun k=> ?_)
   ·rw [ZlN,a1];simp only [Zyl,Zys,if_false,d1,if_true]
   ·rw [Zl7 k p t a2 a3 d3 c3];simp only [Zys,if_false,if_true]
  | false=>
   cases b3 with
   | true=>
    obtain ⟨j,rfl,hl,r2⟩:=c4 rfl;refine (ZoU ok m IH (hd j rfl) hl r2 kIn kDo 9).next (fun k=> ?_) (fun k=> ?_)
    ·rw [ZlN,a1];simp only [Zyl,Zys,if_false,d1,c1,if_true]
    ·rw [Zl7 k p t a2 a3 d3 c3];simp only [Zys,if_false,if_true]
   | false=>
    refine (Zub ok m hS x p o h hd).next (fun k=> ?_) (fun k=> ?_)
    ·rw [ZlN,a1];simp only [Zyl,Zys,if_false,d1,c1];rcases Xe k x with _| ⟨a,z⟩<;>rfl
    ·rw [Zl7 k p t a2 a3 d3 c3];simp only [Zys,if_false]
theorem Zus (ok:ZfB T E):∀m,AgN T E m Zx Zm:=by
 intro m
 induction m using Nat.strongRecOn with
 | _ m IH=>
  have atoms:∀m',m'<=m->AgN T E m' Z7 Zy:=fun m' h=>ZsB ok m' fun m'' h2=>IH m'' (by omega);have prods:∀m',m'<=m->AgN T E m' ZJ Zu:=fun m' h=>Zri ok m' fun m'' h2=>atoms m'' (by omega);have sums:∀m',m'<=m->AgN T E m' X2 ZZ:=fun m' h=>Zs5 ok m' fun m'' h2=>prods m'' (by omega);exact Zr4 ok m sums IH
end
def toB (l:List UInt8):ByteArray:=⟨l.toArray⟩
theorem ZnH (l m:List UInt8):toB l++toB m=toB (l++m):=by
 apply ByteArray.ext;rw [ByteArray.data_append];simp [toB]
theorem ZfN (l:List UInt8):(toB l).size=l.length:=by unfold toB ByteArray.size;simp
theorem ZqN {s t:ByteArray} (h:s.size+t.size<=1099511627776):Zsm s t=some (s++t):=by
 unfold Zsm;rw [if_pos (by omega)]
def ZeL (u:Nat):List UInt8:=if u=0 then [] else Lib.decDigits u
theorem ZmX {u:Nat} (h:u≠0):ZeL u=ZeL (u/10)++[UInt8.ofNat (48+u%10)]:=by
 unfold ZeL;rw [if_neg h,Lib.decDigits]
 by_cases g:u<10
 ·rw [dif_pos g,if_pos (by omega),show u%10=u by omega];rfl
 ·rw [dif_neg g,if_neg (by omega)]
theorem ZmY:∀(m:Nat) (x:Int) (l:List UInt8),x.natAbs<10^m-> -9223372036854775808<=x->x<=9223372036854775807->l.length+m<=10000->ZP (m+1) x (toB l)=some (toB (ZeL x.natAbs++l)):=by
 intro m
 induction m with
 | zero=>
  intro x l h0 _ _ _;have:x=0:=by simp at h0;exact h0
  subst this;rw [ZP];simp [ZeL]
 | succ m ih=>
  intro x l h0 h1 h2 h3;rw [ZP]
  by_cases hx:x=0
  ·subst hx;simp [ZeL]
  ·rw [if_pos (by simpa using hx)]
   have ht:x.tmod 10=if x<0 then-((x.natAbs%10:Nat):Int) else ((x.natAbs%10:Nat):Int):=by
    split
    ·obtain ⟨n,rfl⟩:∃n:Nat,x= -(n:Int):=⟨x.natAbs,by omega⟩;rw [Int.neg_tmod];simp;rfl
    ·obtain ⟨n,rfl⟩:∃n:Nat,x=(n:Int):=⟨x.natAbs,by omega⟩
     rfl
   have hd:x.natAbs%10<10:=Nat.mod_lt _ (by omega);have e1:IntKind.i64.wrap (x.tmod 10)=x.tmod 10:=w64 (by rw [ht];split<;>omega) (by rw [ht];split<;>omega)
   have e2:(if decide (IntKind.i64.wrap (x.tmod 10)<0)=true then some (IntKind.i64.wrap (0-IntKind.i64.wrap (x.tmod 10))) else some (IntKind.i64.wrap (x.tmod 10)):Option Int)=some ((x.natAbs%10:Nat):Int):=by
    rw [e1,ht]
    by_cases hn:x<0
    ·simp only [if_pos hn]
     by_cases hz:x.natAbs%10=0
     ·simp [hz]
     ·rw [if_pos (by simp;omega),w64 (by omega) (by omega)];congr 1;omega
    ·simp only [if_neg hn];rw [if_neg (by simp;omega)]
   have e3:IntKind.i64.wrap (48+((x.natAbs%10:Nat):Int))=((48+x.natAbs%10:Nat):Int):=by rw [w64 (by omega) (by omega)];omega
   have e4:IntKind.u8.wrap ((48+x.natAbs%10:Nat):Int)=((48+x.natAbs%10:Nat):Int):=IntWalk.u8_in _ ⟨by omega,by omega⟩
   have e5:Zlj [((48+x.natAbs%10:Nat):Int)]=toB [UInt8.ofNat (48+x.natAbs%10)]:=by
    unfold Zlj toB;simp only [List.foldl_cons,List.foldl_nil,Int.toNat_natCast]
    rfl
   have e6:(x.tdiv 10).natAbs=x.natAbs/10:=by rw [Int.natAbs_tdiv];rfl
   have hq: -9223372036854775808<=x.tdiv 10/\x.tdiv 10<=9223372036854775807:=by omega
   rw [e2,Zyl,e3,e4,e5,ZqN (by rw [ZfN,ZfN];simp;omega),Zyl,ZnH,w64 hq.1 hq.2,ih _ _ (by rw [e6];rw [Nat.pow_succ] at h0;omega) hq.1 hq.2 (by simp;omega),e6,ZmX (u:=x.natAbs) (by omega)];simp
theorem Zva (n:Int) (h0: -9223372036854775808<=n) (h1:n<=9223372036854775807) {k:Nat} (hk:100<k):Jo k n=some (toB (Lib.itoa n)):=by
 obtain ⟨k,rfl⟩:∃j,k=j+1:=⟨k-1,by omega⟩;unfold Jo
 by_cases hn:n=0
 ·subst hn
  have:Lib.itoa 0=[48]:=by
   unfold Lib.itoa;rw [if_neg (by omega),Lib.decDigits,dif_pos (by decide)];rfl
  rw [if_pos (by simp),this];rfl
 ·rw [if_neg (by simpa using hn)]
  have hp:n.natAbs<10^20:=by have:(10:Nat)^20=100000000000000000000:=by decide
                             omega
  have key:ZP (k+1) n (⟨#[]⟩:ByteArray)=some (toB (ZeL n.natAbs)):=by
   have mono:∀(m j:Nat) (x:Int) (acc r:ByteArray),ZP m x acc=some r->ZP (m+j) x acc=some r:=by
    intro m
    induction m with
    | zero=>intro j x acc r h;simp [ZP] at h
    | succ m ih=>
     intro j x acc r h;rw [show m+1+j=(m+j)+1 by omega,ZP];rw [ZP] at h
     split at h
     ·rename_i c;rw [if_pos c];obtain ⟨a,ha,h⟩:=Option.bind_eq_some_iff.1 h;obtain ⟨b,hb,h⟩:=Option.bind_eq_some_iff.1 h;rw [ha,Zyl,hb,Zyl];exact ih j _ _ _ h
     ·rename_i c;rw [if_neg c];exact h
   have h20:=ZmY 20 n [] hp h0 h1 (by simp);have:=mono 21 (k-20) _ _ _ h20;rw [show 21+(k-20)=k+1 by omega,List.append_nil] at this;exact this
  rw [key,Zyl]
  by_cases g:n<0
  ·rw [if_pos (by simpa using g)]
   have hc:Zsm (⟨#[45]⟩:ByteArray) (toB (ZeL n.natAbs))=some (toB (45::ZeL n.natAbs)):=by
    have hl:=Lib.itoa_length_le n h0 h1;unfold Lib.itoa at hl;rw [if_pos g] at hl;have e:(⟨#[45]⟩:ByteArray)=toB [45]:=rfl;have e2:ZeL n.natAbs=Lib.decDigits n.natAbs:=by unfold ZeL;rw [if_neg (by omega)]
    rw [e,ZqN (by rw [ZfN,ZfN,e2];simp at hl ⊢;omega),ZnH];rfl
   rw [hc];unfold Lib.itoa ZeL;rw [if_pos g,if_neg (by omega)];rfl
  ·rw [if_neg (by simpa using g)];unfold Lib.itoa ZeL;rw [if_neg g,if_neg (by omega)]
   congr 3
   omega
def ZcZ (c:UInt8):Bool:=decide (48<=c.toNat)&&decide (c.toNat<=57)
def val (a:Nat) (l:List UInt8):Nat:=l.foldl (fun a c=>a*10+(c.toNat-48)) a
theorem Zga (a:Nat):val a []=a:=by simp only [val,List.foldl_nil]
theorem ZdI (a:Nat) (c:UInt8) (r:List UInt8):val a (c::r)=val (a*10+(c.toNat-48)) r:=by simp only [val,List.foldl_cons]
theorem ZqV (l:List UInt8) (c:UInt8) (a:Nat):val a (l++[c])=val a l*10+(c.toNat-48):=by
 simp only [val,List.foldl_append,List.foldl_cons,List.foldl_nil]
theorem Zqp:∀(l:List UInt8) (a:Nat),a<=val a l
 | [],a=>by rw [Zga];exact Zyr _
 | c::r,a=>by rw [ZdI];have:=Zqp r (a*10+(c.toNat-48));omega
theorem Zqo:∀(l:List UInt8) (a m:Nat),a<10^m->(∀c∈l,ZcZ c=true)->val a l<10^(m+l.length)
 | [],a,m,h,_=>by rw [Zga];simpa using h
 | c::r,a,m,h,hd=>by
  rw [ZdI];have hc:=hd c (by simp);simp only [ZcZ,Zyq,decide_eq_true_eq] at hc;have:=Zqo r (a*10+(c.toNat-48)) (m+1) (by rw [Nat.pow_succ];omega) (fun c hc=>hd c (by simp [hc]));rw [List.length_cons,show m+(r.length+1)=m+1+r.length by omega];exact this
theorem Zsd (u:Nat):(UInt8.ofNat (48+u%10)).toNat=48+u%10:=by
 rw [UInt8.toNat_ofNat'];omega
theorem ZgL (u:Nat):Lib.decDigits u=if u<10 then [UInt8.ofNat (48+u%10)] else Lib.decDigits (u/10)++[UInt8.ofNat (48+u%10)]:=by
 conv=>lhs;rw [Lib.decDigits]
 split
 ·rename_i h;rw [Nat.mod_eq_of_lt h]
 ·rfl
theorem ZoL (u:Nat):∀c∈Lib.decDigits u,ZcZ c=true:=by
 induction u using Nat.strongRecOn with
 | _ u ih=>
  intro c hc;rw [ZgL] at hc
  have hlast:∀c,c=UInt8.ofNat (48+u%10)->ZcZ c=true:=by
   rintro c rfl;simp only [ZcZ,Zsd];simp;omega
  split at hc
  ·exact hlast c (by simpa using hc)
  ·rcases List.mem_append.1 hc with h| h
   ·exact ih (u/10) (by omega) c h
   ·exact hlast c (by simpa using h)
theorem ZqL (u:Nat):val 0 (Lib.decDigits u)=u:=by
 induction u using Nat.strongRecOn with
 | _ u ih=>
  rw [ZgL]
  split
  ·rw [ZdI,Zga,Zsd];omega
  ·rw [ZqV,ih (u/10) (by omega),Zsd];omega
theorem Zt7 (u:Nat):1<=(Lib.decDigits u).length:=by
 rw [ZgL];split<;>simp
theorem ZqM:∀(m u:Nat),u<10^(m+1)->(Lib.decDigits u).length<=m+1
 | 0,u,h=>by rw [ZgL,if_pos (by simpa using h)];simp
 | m+1,u,h=>by
  rw [ZgL]
  split
  ·simp
  ·have:=ZqM m (u/10) (by rw [Nat.pow_succ] at h;omega);simp;omega
theorem Zkw:∀(l:List UInt8) (a:Nat),(∀c∈l,ZcZ c=true)->val a l<18446744073709551616->Lib.parseUint10 a l= .ok (val a l)
 | [],a,_,_=>by rw [Zga];rfl
 | c::r,a,hd,hv=>by
  have hc:=hd c (by simp);simp only [ZcZ,Zyq,decide_eq_true_eq] at hc;rw [ZdI] at hv ⊢;have h1:=Zqp r (a*10+(c.toNat-48));rw [Lib.parseUint10,if_pos hc,if_neg (by omega),if_neg (by omega)];exact Zkw r _ (fun c hc=>hd c (by simp [hc])) hv
theorem ZoX (n:Int) (h:n.natAbs<1000000000000):Lib.atoiAll (Lib.itoa n)= .ok n:=by
 have hne:=Zt7 n.natAbs;have hdg:=ZoL n.natAbs;have hvl:=ZqL n.natAbs
 by_cases hn:n<0
 ·have e:Lib.itoa n=45::Lib.decDigits n.natAbs:=by unfold Lib.itoa;rw [if_pos hn]
  rw [e];unfold Lib.atoiAll Lib.parseMag;have hnil:Lib.decDigits n.natAbs≠[]:=fun e=>by rw [e] at hne;simp at hne
  dsimp only;rw [if_pos (show (45:UInt8).toNat=43\/(45:UInt8).toNat=45 from .inr rfl),if_neg hnil,Zkw _ _ hdg (by rw [hvl];omega),hvl];have h45:(45:UInt8).toNat=45:=rfl;simp only [h45];rw [if_neg (by omega),if_neg (by omega)];simp;omega
 ·have e:Lib.itoa n=Lib.decDigits n.natAbs:=by unfold Lib.itoa;rw [if_neg hn];congr 1;omega
  rw [e];cases hl:Lib.decDigits n.natAbs with
  | nil=>rw [hl] at hne;simp at hne
  | cons c r=>
   have hc:=hdg c (by rw [hl];simp);simp only [ZcZ,Zyq,decide_eq_true_eq] at hc;unfold Lib.atoiAll Lib.parseMag;simp only [if_neg (show ¬(c.toNat=43\/c.toNat=45) by omega)];rw [if_neg (by simp),Zkw _ _ (by rw [<-hl];exact hdg) (by rw [<-hl,hvl];omega),<-hl,hvl];simp only;rw [if_neg (by omega),if_neg (by omega),if_neg (by omega)]
   congr 1;omega
def ZlS (x:ByteArray):Option Int:=match Lib.atoiAll x.data.toList with
 | .ok n=>if toB (Lib.itoa n)=x then some n else none
 | _=>none
theorem Zn9 (x:ByteArray) (lo hi:Int):XT x lo hi=match ZlS x with
  | some n=>if lo<=n/\n<=hi then (n,true) else (0,false)
  | none=>(0,false):=by
 unfold XT ZlS;cases Lib.atoiAll x.data.toList with
 | ok n=>
  simp only
  by_cases h:toB (Lib.itoa n)=x
  ·simp only [h,if_true];have h':(⟨(Lib.itoa n).toArray⟩:ByteArray)=x:=h;simp [h']
  ·simp only [h,if_false];have h':¬(⟨(Lib.itoa n).toArray⟩:ByteArray)=x:=h;simp [h']
 | «syntax» =>rfl
 | range=>rfl
def Ut (x:ByteArray):Int×Bool:=match ZlS x with
 | some n=>if n.natAbs<1000000000000 then (n,true) else (0,false)
 | none=>(0,false)
theorem ZlA (l:List UInt8):(toB l).data.toList=l:=by simp [toB]
theorem Zgr {x:ByteArray} {n:Int} (h:ZlS x=some n):Lib.itoa n=x.data.toList:=by
 unfold ZlS at h
 split at h
 ·split at h
  ·rename_i e;cases h;rw [<-e,ZlA]
  ·cases h
 ·cases h
theorem Zrq {x:ByteArray} {n:Int} (hn:n.natAbs<1000000000000) (h:toB (Lib.itoa n)=x):ZlS x=some n:=by
 unfold ZlS;have:x.data.toList=Lib.itoa n:=by rw [<-h,ZlA]
 rw [this,ZoX n hn];simp [h]
theorem Zn4 (t:ByteArray) (l:List UInt8) (hl:t.data.toList=l) (h12:l.length<=12):∀(m i a:Nat) (n:Nat),i+m=l.length->a<10^i->m<n->X0 t n (a:Int) (i:Int)=some (if (l.drop i).all ZcZ=true then .inl (val a (l.drop i):Int) else .inr (0,false)):=by
 have hsz:t.size=l.length:=by rw [<-hl,Array.length_toList];rfl
 intro m
 induction m with
 | zero=>
  intro i a n hi ha hn;obtain ⟨n,rfl⟩:∃n',n=n'+1:=⟨n-1,by omega⟩;have hd:l.drop i=[]:=List.drop_eq_nil_of_le (by omega);rw [X0,hd];simp [hsz,Zga,show ¬((i:Int)<(l.length:Int)) by omega]
 | succ m ih=>
  intro i a n hi ha hn;obtain ⟨n,rfl⟩:∃n',n=n'+1:=⟨n-1,by omega⟩;have hlt:i<l.length:=by omega
  have hd:l.drop i=l[i]::l.drop (i+1):=List.drop_eq_getElem_cons hlt;have hat:at? t.data.toList (i:Int)=some l[i]:=by rw [hl];exact YF hlt
  have hp:(10:Nat)^i<=10^11:=Nat.pow_le_pow_right (by omega) (by omega);rw [X0,hsz,if_pos (Z3 hlt),hat,hd];simp only [Zyl];generalize l[i]=c;have hc8:c.toNat<256:=c.toNat_lt;cases hc:ZcZ c with
  | false=>
   have hx:(if (decide ((c.toNat:Int)<48))=true then some true else some (decide (57<(c.toNat:Int))))=some true:=by
    simp only [ZcZ,Bool.and_eq_false_iff,decide_eq_false_iff_not] at hc
    by_cases h1:(c.toNat:Int)<48
    ·simp [h1]
    ·simp only [h1,decide_false,Zys,if_false,Zyo,decide_eq_true_eq];omega
   rw [hx];simp [hc]
  | true=>
   have hcd:=hc;simp only [ZcZ,Zyq,decide_eq_true_eq] at hcd
   have hx:(if (decide ((c.toNat:Int)<48))=true then some true else some (decide (57<(c.toNat:Int))))=some false:=by
    simp only [show ¬((c.toNat:Int)<48) by omega,decide_false,Zys,if_false,Zyo,decide_eq_false_iff_not];omega
   rw [hx];simp only [Zyl,Zys,if_false]
   have e1:IntKind.u8.wrap ((c.toNat:Int)-48)=(c.toNat:Int)-48:=by
    unfold IntKind.wrap;simp [IntKind.bits,IntKind.signed];omega
   have hp2:(10:Nat)^11=100000000000:=by decide
   have e2:IntKind.i64.wrap (IntKind.i64.wrap (10*(a:Int))+IntKind.i64.wrap (IntKind.u8.wrap ((c.toNat:Int)-48)))=((a*10+(c.toNat-48):Nat):Int):=by
    rw [e1,w64 (n:=10*(a:Int)) (by omega) (by omega),w64 (n:=(c.toNat:Int)-48) (by omega) (by omega),w64 (by omega) (by omega)];omega
   rw [e2,wS i (by omega),ih (i+1) (a*10+(c.toNat-48)) n (by omega) (by rw [Nat.pow_succ];omega) (by omega)];simp [hc,ZdI]
theorem ZhC (n:Int):Lib.itoa n=if n<0 then 45::Lib.decDigits n.natAbs else Lib.decDigits n.natAbs:=by
 unfold Lib.itoa
 split
 ·rfl
 ·congr 1;omega
theorem Ztd (x:ByteArray) (hx:x.size<=1048576) {k:Nat} (hk:1000<k):ZdP k x 12=some (Ut x):=by
 have hsz:x.size=x.data.toList.length:=by rw [Array.length_toList];rfl
 have rep:∀n:Int,n.natAbs<1000000000000->ZlS x=some n->x.data.toList=(if n<0 then 45::Lib.decDigits n.natAbs else Lib.decDigits n.natAbs)/\(Lib.decDigits n.natAbs).length<=12:=fun n hn h=>by
  rw [<-ZhC];exact ⟨(Zgr h).symm,ZqM 11 _ (by simpa using hn)⟩
 have no:(∀n:Int,n.natAbs<1000000000000->ZlS x≠some n)->Ut x=(0,false):=fun h=>by
  unfold Ut;cases hv:ZlS x with
  | none=>rfl
  | some n=>
   simp only;rw [if_neg];intro hn;exact h n hn hv
 unfold ZdP
 obtain ⟨below,hbelow,hb2⟩:∃below:Bool,(if (decide (0<(x.size:Int)))=true then (at? x.data.toList 0).bind fun x2=>some (decide ((x2.toNat:Int)=45)) else some false)=some below/\(below=true↔∃r,x.data.toList=45::r):=by
  cases hl:x.data.toList with
  | nil=>exact ⟨false,by rw [hsz,hl];simp,by simp⟩
  | cons c r=>
   refine ⟨decide ((c.toNat:Int)=45),by rw [hsz,hl];simp [at?], ?_⟩;simp only [decide_eq_true_eq,List.cons.injEq,exists_and_left,exists_eq',and_true];constructor
   ·intro h;exact UInt8.toNat_inj.1 (by show c.toNat=45;omega)
   ·rintro rfl;rfl
 rw [hbelow];simp only [Zyl]
 obtain ⟨t,ht,htl⟩:∃t:ByteArray,(if below=true then (UH x 1 (x.size:Int)).bind fun x4=>some x4 else some x)=some t/\x.data.toList=(if below=true then 45::t.data.toList else t.data.toList):=by
  cases below with
  | false=>exact ⟨x,rfl,rfl⟩
  | true=>
   obtain ⟨r,hr⟩:=hb2.1 rfl;have h1:1<=x.size:=by rw [hsz,hr];simp
   refine ⟨x.extract 1 x.size, ?_, ?_⟩
   ·simp only [if_true];unfold UH;rw [if_pos ⟨by omega,by omega,by omega⟩];rfl
   ·simp only [if_true,ByteArray.data_extract,Array.toList_extract,List.extract_eq_take_drop];rw [hr];simp [hsz,hr]
 rw [ht];simp only [Zyl];have hts:t.size=t.data.toList.length:=by rw [Array.length_toList];rfl
 have dig:∀n:Int,n.natAbs<1000000000000->ZlS x=some n->t.data.toList=Lib.decDigits n.natAbs/\(below=true↔n<0):=by
  intro n hn h;obtain ⟨h1,h2⟩:=rep n hn h
  by_cases hneg:n<0
  ·rw [if_pos hneg] at h1;have hb:below=true:=hb2.2 ⟨_,h1⟩;rw [htl,hb] at h1;simp only [if_true,List.cons.injEq,true_and] at h1;exact ⟨h1,by simp [hb,hneg]⟩
  ·rw [if_neg hneg] at h1
   have hb:below=false:=by
    cases hbb:below with
    | false=>rfl
    | true=>
     obtain ⟨r,hr⟩:=hb2.1 hbb;have:=ZoL n.natAbs 45 (by rw [<-h1,hr];simp);simp [ZcZ] at this
   rw [htl,hb] at h1;exact ⟨by simpa using h1,by simp [hb,hneg]⟩
 by_cases hlen:t.data.toList.length<1\/12<t.data.toList.length
 ·have e:(if (decide ((t.size:Int)<1))=true then some true else some (decide ((12:Int)<(t.size:Int))))=some true:=by
   rw [hts]
   by_cases h1:t.data.toList.length<1
   ·rw [if_pos (decide_eq_true (by omega))]
   ·rw [if_neg (by rw [decide_eq_true_eq];omega),decide_eq_true (by omega)]
  rw [e];simp only [Zyl,if_true];rw [no];intro n hn hv;obtain ⟨h1,_⟩:=dig n hn hv;have h2:=Zt7 n.natAbs;have h3:=(rep n hn hv).2;rw [h1] at hlen;omega
 ·have e:(if (decide ((t.size:Int)<1))=true then some true else some (decide ((12:Int)<(t.size:Int))))=some false:=by
   rw [hts];simp only [show ¬((t.data.toList.length:Int)<1) by omega,decide_false,Zys,if_false,Zyo,decide_eq_false_iff_not];omega
  rw [e];simp only [Zyl,Zys,if_false];have hloop:=Zn4 t _ rfl (by omega) t.data.toList.length 0 0 k (by omega) (by decide) (by omega);rw [show ((0:Nat):Int)=0 from rfl] at hloop;rw [hloop,List.drop_zero];cases hall:t.data.toList.all ZcZ with
  | false=>
   simp only [Zys,if_false,Zyl];rw [no];intro n hn hv;obtain ⟨h1,_⟩:=dig n hn hv;have:t.data.toList.all ZcZ=true:=by rw [h1];exact List.all_eq_true.2 (ZoL n.natAbs)
   rw [hall] at this;cases this
  | true=>
   simp only [if_true,Zyl];have hv:=Zqo t.data.toList 0 0 (by decide) (List.all_eq_true.1 hall);have hp:(10:Nat)^(0+t.data.toList.length)<=10^12:=Nat.pow_le_pow_right (by omega) (by omega);have hp2:(10:Nat)^12=1000000000000:=by decide
   generalize hvv:val 0 t.data.toList=v at hv
   obtain ⟨n,hn,hna,hns⟩:∃n:Int,(if below=true then some (IntKind.i64.wrap (0-(v:Int))) else some (v:Int))=some n/\n.natAbs=v/\n=(if below=true then-(v:Int) else (v:Int)):=by
    cases below with
    | false=>exact ⟨v,rfl,by simp,rfl⟩
    | true=>exact ⟨-(v:Int),by simp only [if_true];rw [w64 (by omega) (by omega)];simp,by simp,rfl⟩
   rw [hn];simp only [Zyl];rw [Zva n (by omega) (by omega) (by omega)];simp only [Zyl]
   by_cases he:toB (Lib.itoa n)=x
   ·have:ZlS x=some n:=Zrq (by omega) he;simp only [he,decide_true,Bool.not_true,Zys,if_false];unfold Ut;rw [this];simp only;rw [if_pos (by omega)]
   ·simp only [he,decide_false,Bool.not_false,if_true];rw [no];intro m hm hmv;obtain ⟨h1,h2⟩:=dig m hm hmv;have h3:v=m.natAbs:=by rw [<-hvv,h1,ZqL]
    have h4:n=m:=by
     rw [hns]
     by_cases hb:below=true
     ·rw [if_pos hb];have:=h2.1 hb;omega
     ·rw [if_neg hb];have:¬m<0:=fun h=>hb (h2.2 h);omega
    apply he;rw [h4,Zgr hmv];apply ByteArray.ext;simp [toB]
theorem Zgo (x:ByteArray) (hx:x.size<=1048576) {k:Nat} (hk:1000<k):WU k x=some (Ut x):=by
 unfold WU;rw [Ztd x hx hk];rfl
theorem Zhz (x:ByteArray) (lo hi:Int) (h1: -999999999999<=lo) (h2:hi<=999999999999):XT x lo hi=if (Ut x).2=true/\lo<=(Ut x).1/\(Ut x).1<=hi then ((Ut x).1,true) else (0,false):=by
 rw [Zn9];unfold Ut;cases ZlS x with
 | none=>simp
 | some n=>
  simp only
  by_cases hn:n.natAbs<1000000000000
  ·simp [hn]
  ·rw [if_neg hn,if_neg (by omega)];simp
def sc (p:UInt8->Bool) (l:List UInt8) (i:Nat):Nat:=i+((l.drop i).takeWhile p).length
theorem ZeB {p:UInt8->Bool} {l:List UInt8} {i:Nat} (h:i<l.length):sc p l i=if p l[i]=true then sc p l (i+1) else i:=by
 unfold sc;rw [List.drop_eq_getElem_cons h,List.takeWhile_cons]
 split
 ·simp;omega
 ·simp
theorem ZnU {p:UInt8->Bool} {l:List UInt8} {i:Nat} (h:l.length<=i):sc p l i=i:=by
 unfold sc;rw [List.drop_eq_nil_of_le h];simp
theorem ZmL {p:UInt8->Bool} {l:List UInt8}:∀(m i:Nat),i+m=l.length->i<=sc p l i/\sc p l i<=l.length
 | 0,i,h=>by rw [ZnU (by omega)];omega
 | m+1,i,h=>by
  rw [ZeB (by omega)];have:=ZmL (p:=p) (l:=l) m (i+1) (by omega)
  split<;>omega
theorem Zbu (l:List UInt8) (p:UInt8->Bool) (N:Int) (hN:N=(l.length:Int)) (u:Nat->Int->Option Int) (hl:l.length<=1048576)
  (hu:∀n x,u (n+1) x=(if (decide (x<N))=true then (at? l x).bind fun c=>some (p c) else some false).bind fun b=>if b=true then u n (IntKind.i64.wrap (x+1)) else some x):
  ∀(m i n:Nat),i+m=l.length->m<n->u n (i:Int)=some ((sc p l i:Nat):Int):=by
 subst hN;intro m
 induction m with
 | zero=>
  intro i n hi hn;obtain ⟨n,rfl⟩:∃n',n=n'+1:=⟨n-1,by omega⟩;rw [hu,if_neg (X6 (by omega)),ZnU (by omega)];rfl
 | succ m ih=>
  intro i n hi hn;obtain ⟨n,rfl⟩:∃n',n=n'+1:=⟨n-1,by omega⟩;have hlt:i<l.length:=by omega
  rw [hu,if_pos (Z3 hlt),YF hlt,ZeB hlt];simp only [Zyl]
  split
  ·rw [wS i (by omega)];exact ih (i+1) n (by omega) (by omega)
  ·rfl
def word (c:UInt8):Bool:=Zi3 c||Zks c
def noQ (c:UInt8):Bool:=!decide ((c.toNat:Int)=34)
theorem Zbv (c:UInt8):VO (c.toNat:Int)=some (Zi3 c):=by unfold VO Zi3;by_cases h:(97:Int)<=(c.toNat:Int)<;>simp [h]
theorem ZcC (c:UInt8):Um (c.toNat:Int)=some (Zks c):=by unfold Um Zks;by_cases h:(48:Int)<=(c.toNat:Int)<;>simp [h]
theorem Zec (c:UInt8):(if (decide (97<=(c.toNat:Int)))=true then some (decide ((c.toNat:Int)<=122)) else some false)=some (Zi3 c):=by unfold Zi3;by_cases h:(97:Int)<=(c.toNat:Int)<;>simp [h]
theorem Zef (c:UInt8):(if (decide (48<=(c.toNat:Int)))=true then some (decide ((c.toNat:Int)<=57)) else some false)=some (Zks c):=by unfold Zks;by_cases h:(48:Int)<=(c.toNat:Int)<;>simp [h]
theorem ZtG (c:UInt8):(if (decide (97<=(c.toNat:Int)))=true then if (decide ((c.toNat:Int)<=122))=true then some true else if (decide (48<=(c.toNat:Int)))=true then some (decide ((c.toNat:Int)<=57)) else some false
  else if (decide (48<=(c.toNat:Int)))=true then some (decide ((c.toNat:Int)<=57)) else some false)=some (word c):=by
 rw [Zef];unfold word Zi3
 by_cases h:(97:Int)<=(c.toNat:Int)
 ·by_cases h2:(c.toNat:Int)<=122<;>simp [h,h2]
 ·simp [h]
section
variable (s:ByteArray) (hs:s.size<=120)
include hs
theorem Zpq:s.data.toList.length=s.size:=by rw [Array.length_toList];rfl
theorem iw (i:Nat) (hi:i<=s.size) {k:Nat} (hk:1000<k):QK s k (i:Int)=some ((sc word s.data.toList i:Nat):Int):=by
 have e:=Zpq s hs;refine Zbu s.data.toList word s.size (by rw [e]) (QK s) (by omega) (fun n x=> ?_) (s.size-i) i k (by omega) (by omega);rw [QK];simp only [ZtG]
theorem id_ (i:Nat) (hi:i<=s.size) {k:Nat} (hk:1000<k):QJ s k (i:Int)=some ((sc Zks s.data.toList i:Nat):Int):=by
 have e:=Zpq s hs;refine Zbu s.data.toList Zks s.size (by rw [e]) (QJ s) (by omega) (fun n x=> ?_) (s.size-i) i k (by omega) (by omega);rw [QJ];simp only [Zef]
theorem sw (i:Nat) (hi:i<=s.size) {k:Nat} (hk:1000<k):Xv s k (i:Int)=some ((sc word s.data.toList i:Nat):Int):=by
 have e:=Zpq s hs;refine Zbu s.data.toList word s.size (by rw [e]) (Xv s) (by omega) (fun n x=> ?_) (s.size-i) i k (by omega) (by omega);rw [Xv]
 have:∀c:UInt8,((VO (c.toNat:Int)).bind fun x11=>if x11=true then some true else (Um (c.toNat:Int)).bind fun x12=>some x12)=some (word c):=fun c=>by
  rw [Zbv,ZcC];unfold word;cases Zi3 c<;>simp
 simp only [this]
theorem sd (i:Nat) (hi:i<=s.size) {k:Nat} (hk:1000<k):Xu s k (i:Int)=some ((sc Zks s.data.toList i:Nat):Int):=by
 have e:=Zpq s hs;refine Zbu s.data.toList Zks s.size (by rw [e]) (Xu s) (by omega) (fun n x=> ?_) (s.size-i) i k (by omega) (by omega);rw [Xu];simp only [ZcC,Zyl]
theorem sq (i:Nat) (hi:i<=s.size) {k:Nat} (hk:1000<k):Xt s k (i:Int)=some ((sc noQ s.data.toList i:Nat):Int):=by
 have e:=Zpq s hs;refine Zbu s.data.toList noQ s.size (by rw [e]) (Xt s) (by omega) (fun n x=> ?_) (s.size-i) i k (by omega) (by omega);rw [Xt];rfl
theorem ZbT {a b:Nat} (h1:a<=b) (h2:b<=s.size):UH s (a:Int) (b:Int)=some (s.extract a b):=by
 unfold UH;rw [if_pos ⟨by omega,by omega,by omega⟩];simp
theorem ZfZ (a b:Nat):(s.extract a b).data.toList=(s.data.toList.drop a).take (b-a):=by
 rw [ByteArray.data_extract,Array.toList_extract,List.extract_eq_take_drop]
theorem ZiO {a b:Nat} (h1:a<b) (h2:b<=s.size):∃c r,s.data.toList[a]? =some c/\(s.extract a b).data.toList=c::r:=by
 have e:=Zpq s hs;have hl:a<s.data.toList.length:=by omega
 refine ⟨s.data.toList[a],(s.data.toList.drop (a+1)).take (b-a-1),Zyt hl, ?_⟩;rw [ZfZ s hs,List.drop_eq_getElem_cons hl];obtain ⟨m,hm⟩:∃m,b-a=m+1:=⟨b-a-1,by omega⟩;rw [hm];simp
theorem Zcn {a b:Nat} (h2:b<=s.size):(s.extract a b).size<=120:=by rw [ByteArray.size_extract];omega
end
theorem Zl4 (l:List UInt8):∀(m i:Nat),i+m=l.length->Lib.indexByte (l.drop i) 34=if sc noQ l i<l.length then ((sc noQ l i-i:Nat):Int) else-1
 | 0,i,h=>by rw [List.drop_eq_nil_of_le (by omega),ZnU (by omega),if_neg (by omega)];try rfl
 | m+1,i,h=>by
  have hlt:i<l.length:=by omega
  have ih:=Zl4 l m (i+1) (by omega);have hle:=ZmL (p:=noQ) (l:=l) m (i+1) (by omega);rw [List.drop_eq_getElem_cons hlt,Lib.indexByte,ZeB hlt,ih];generalize l[i]=c
  by_cases hc:c=34
  ·subst hc;have:noQ 34=false:=by decide
   simp [this,hlt]
  ·have hq:noQ c=true:=by
    unfold noQ;simp only [Bool.not_eq_true',decide_eq_false_iff_not];intro h;exact hc (UInt8.toNat_inj.1 (by show c.toNat=34;omega))
   have hb:(c==34)=false:=by simpa using hc
   simp only [hb,Zys,if_false,hq,if_true]
   by_cases h1:sc noQ l (i+1)<l.length
   ·simp only [h1,if_true];have hne:¬(((sc noQ l (i+1)-(i+1):Nat):Int)== -1)=true:=by simp
    rw [if_neg hne];omega
   ·simp [h1]
structure WFt (t:Zi):Prop where
 nm:t.kind=1->∃c r,t.text.data.toList=c::r/\Zi3 c=true
 sy:t.kind=4->∃c r,t.text.data.toList=c::r/\Zi3 c=false
 at_:0<=t.at_
 tx:t.text.size<=120
def Zs4:List UInt8:=[40,41,91,93,44,43,45,42,60,61]
theorem Zqu (c:UInt8) (l:List UInt8):(0<=Lib.indexByte l c)↔c∈l:=by
 induction l with
 | nil=>simp [Lib.indexByte]
 | cons b l ih=>
  unfold Lib.indexByte
  by_cases h:b=c
  ·simp [h]
  ·have hb:(b==c)=false:=by simpa using h
   have hne:¬c=b:=fun e=>h e.symm;simp only [hb,Zys,if_false,List.mem_cons,hne,false_or];have hg:=Lib.indexByte_ge l c;rw [<-ih]
   split
   ·rename_i h1;have h2:Lib.indexByte l c= -1:=by simpa using h1
    constructor<;>intro h<;>omega
   ·rename_i h1;have h2:Lib.indexByte l c≠ -1:=by simpa using h1
    constructor<;>intro h<;>omega
theorem Zvv (b z:Bool):(if b=true then some true else some z)=some (b||z):=by cases b<;>rfl
theorem u8i (c d:UInt8):decide ((c.toNat:Int)=(d.toNat:Int))=decide (c=d):=by
 have:((c.toNat:Int)=(d.toNat:Int))↔c=d:=⟨fun h=>UInt8.toNat_inj.1 (by omega),fun h=>by rw [h]⟩;simp [this]
theorem ZmI (s:ByteArray) (hs:s.size<=120) (a:Nat) (ha:a<s.size) (c:UInt8) (hat:at? s.data.toList (a:Int)=some c):
  ∃n:Int,UW s a=some n/\((n=2/\c=61/\a+1<s.size/\s.data.toList[a+1]? =some 61)\/(n=1/\c∈Zs4/\(c=61->s.data.toList[a+1]? ≠some 61))\/(n=0/\c∉Zs4)):=by
 have hsz:=Zpq s hs;have w1:IntKind.i64.wrap ((a:Int)+1)=((a+1:Nat):Int):=wS a (by omega);have h40:decide ((c.toNat:Int)=40)=decide (c=40):=u8i c 40;have h41:decide ((c.toNat:Int)=41)=decide (c=41):=u8i c 41;have h91:decide ((c.toNat:Int)=91)=decide (c=91):=u8i c 91;have h93:decide ((c.toNat:Int)=93)=decide (c=93):=u8i c 93;have h44:decide ((c.toNat:Int)=44)=decide (c=44):=u8i c 44;have h43:decide ((c.toNat:Int)=43)=decide (c=43):=u8i c 43;have h45:decide ((c.toNat:Int)=45)=decide (c=45):=u8i c 45;have h42:decide ((c.toNat:Int)=42)=decide (c=42):=u8i c 42;have h60:decide ((c.toNat:Int)=60)=decide (c=60):=u8i c 60;have h61:decide ((c.toNat:Int)=61)=decide (c=61):=u8i c 61
 have hv:UW s a=if (decide (c=40)||(decide (c=41)||(decide (c=91)||(decide (c=93)||(decide (c=44)||(decide (c=43)||(decide (c=45)||(decide (c=42)||decide (c=60)))))))))=true then some 1
   else if decide (c=61)=true then (if decide (((a+1:Nat):Int)<(s.size:Int))=true then (at? s.data.toList ((a+1:Nat):Int)).bind fun x=>some (decide ((x.toNat:Int)=61)) else some false).bind fun x3=>if x3=true then some 2 else some 1
   else some 0:=by
  unfold UW;rw [hat];simp only [Zyl,Zvv,h40,h41,h91,h93,h44,h43,h45,h42,h60,h61,w1]
 by_cases h9:c∈[40,41,91,93,44,43,45,42,60]
 ·have e:(decide (c=40)||(decide (c=41)||(decide (c=91)||(decide (c=93)||(decide (c=44)||(decide (c=43)||(decide (c=45)||(decide (c=42)||decide (c=60)))))))))=true:=by simpa using h9
  refine ⟨1,by rw [hv,if_pos e],.inr (.inl ⟨rfl,List.mem_append_left [61] h9, ?_⟩)⟩;rintro rfl;simp at h9
 ·have e:¬(decide (c=40)||(decide (c=41)||(decide (c=91)||(decide (c=93)||(decide (c=44)||(decide (c=43)||(decide (c=45)||(decide (c=42)||decide (c=60)))))))))=true:=by simpa using h9
  by_cases hc:c=61
  ·rw [if_neg e,if_pos (decide_eq_true hc)] at hv
   by_cases hl:a+1<s.size
   ·have hl2:a+1<s.data.toList.length:=by omega
    have hat2:at? s.data.toList ((a+1:Nat):Int)=some s.data.toList[a+1]:=YF hl2;have hge:=Zyt hl2;generalize s.data.toList[a+1]=d at hat2 hge;rw [if_pos (Z3 hl),hat2,Zyl,show decide ((d.toNat:Int)=61)=decide (d=61) from u8i d 61,Zyl] at hv
    by_cases h2:d=61
    ·exact ⟨2,by rw [hv,if_pos (decide_eq_true h2)],.inl ⟨rfl,hc,hl,by rw [hge,h2]⟩⟩
    ·exact ⟨1,by rw [hv,if_neg (by simpa using h2)],.inr (.inl ⟨rfl,by rw [hc];decide,fun _ e=>h2 (Zym (hge.symm.trans e))⟩)⟩
   ·rw [if_neg (X6 (by omega)),Zyl] at hv;refine ⟨1,by rw [hv];rfl,.inr (.inl ⟨rfl,by rw [hc];decide,fun _ e=> ?_⟩)⟩;have:=(List.getElem?_eq_some_iff.1 e).1;omega
  ·refine ⟨0,by rw [hv,if_neg e,if_neg (by simpa using hc)],.inr (.inr ⟨rfl,fun h=> ?_⟩)⟩;rcases List.mem_append.1 (show c∈[40,41,91,93,44,43,45,42,60]++[61] from h) with h| h
   ·exact h9 h
   ·exact hc (by simpa using h)
theorem Zs1 (s:ByteArray) (hs:s.size<=120) (a:Nat) (ha:a<s.size):
  (∃(t:Zi) (e:Nat),a<e/\e<=s.size/\WFt t/\∀k,2000<=k->Xz k s a=some (t,((e-a:Nat):Int))/\Qy k s a=some (t,(e:Int),true))\/
  (∃(t t':Zi) (e:Int),∀k,2000<=k->Xz k s a=some (t,0)/\Qy k s a=some (t',e,false)):=by
 have hsz:=Zpq s hs;have hla:a<s.data.toList.length:=by omega
 have hat:at? s.data.toList (a:Int)=some s.data.toList[a]:=YF hla;have hget:s.data.toList[a]? =some s.data.toList[a]:=Zyt hla;generalize s.data.toList[a]=c at hat hget;have hbs:∀b:Nat,a<=b->b<=s.size->IntKind.i64.wrap ((b:Int)-(a:Int))=((b-a:Nat):Int):=fun b h1 h2=>by rw [w64 (by omega) (by omega)];omega
 have w1:IntKind.i64.wrap ((a:Int)+1)=((a+1:Nat):Int):=wS a (by omega);cases hle:Zi3 c with
 | true=>
  have hw:=ZmL (p:=word) (l:=s.data.toList) (s.size-a) a (by omega);have hstep:=ZeB (p:=word) hla;have hwc:word c=true:=by unfold word;rw [hle];rfl
  have hget2:s.data.toList[a]=c:=by have:=hget;rw [Zyt hla] at this;exact Zym this
  rw [hget2,if_pos hwc] at hstep;have hw2:=ZmL (p:=word) (l:=s.data.toList) (s.size-(a+1)) (a+1) (by omega);generalize sc word s.data.toList a=e at hw hstep;subst hstep;generalize he:sc word s.data.toList (a+1)=e at hw hw2;have hc1:=ZbT s hs (a:=a) (b:=e) (by omega) (by omega)
  have e1:∀k,2000<=k->Xv s k a=some (e:Int)/\QK s k a=some (e:Int):=fun k hk=>by
   have h1:=sw s hs a (by omega) (show 1000<k by omega);have h2:=iw s hs a (by omega) (show 1000<k by omega);rw [ZeB hla,hget2,if_pos hwc,he] at h1 h2;exact ⟨h1,h2⟩
  obtain ⟨c',r,g1,g2⟩:=ZiO s hs (a:=a) (b:=e) (by omega) (by omega);rw [hget] at g1;cases g1
  by_cases h8:8<e-a
  ·right
   refine ⟨⟨1,0,a,s.extract a e⟩,⟨1,0,a,s.extract a e⟩,e,fun k hk=>⟨?_, ?_⟩⟩
   ·unfold Xz;rw [hat];simp only [Zyl,Zbv,hle,if_true,(e1 k hk).1,hc1,hbs e (by omega) (by omega)];rw [if_pos (by simp;omega)];rfl
   ·unfold Qy;rw [hat];simp only [Zyl,Zec,hle,if_true,(e1 k hk).2,hc1,hbs e (by omega) (by omega)];rw [show (decide (((e-a:Nat):Int)<=8))=false by simp;omega]
  ·left
   refine ⟨⟨1,0,a,s.extract a e⟩,e,by omega,by omega,⟨fun _=>⟨c,r,g2,hle⟩,(fun h=>by simp at h),by show (0:Int)<=a;omega,Zcn s hs (by omega)⟩,fun k hk=>⟨?_, ?_⟩⟩
   ·unfold Xz;rw [hat];simp only [Zyl,Zbv,hle,if_true,(e1 k hk).1,hc1,hbs e (by omega) (by omega)];rw [if_neg (by simp;omega)];simp only [Zyl,hbs e (by omega) (by omega)]
   ·unfold Qy;rw [hat];simp only [Zyl,Zec,hle,if_true,(e1 k hk).2,hc1,hbs e (by omega) (by omega)];rw [show (decide (((e-a:Nat):Int)<=8))=true by simp;omega]
 | false=>
 cases hdi:Zks c with
 | true=>
  have hget2:s.data.toList[a]=c:=by have:=hget;rw [Zyt hla] at this;exact Zym this
  have hw2:=ZmL (p:=Zks) (l:=s.data.toList) (s.size-(a+1)) (a+1) (by omega);generalize he:sc Zks s.data.toList (a+1)=e at hw2;have hc1:=ZbT s hs (a:=a) (b:=e) (by omega) (by omega)
  have e1:∀k,2000<=k->Xu s k a=some (e:Int)/\QJ s k a=some (e:Int):=fun k hk=>by
   have h1:=sd s hs a (by omega) (show 1000<k by omega);have h2:=id_ s hs a (by omega) (show 1000<k by omega);rw [ZeB hla,hget2,if_pos hdi,he] at h1 h2;exact ⟨h1,h2⟩
  have hx:(s.extract a e).size<=120:=Zcn s hs (by omega);have p1:∀k,2000<=k->WU k (s.extract a e)=some (Ut (s.extract a e)):=fun k hk=>Zgo _ (by omega) (by omega)
  have p2:ZbK (s.extract a e) 0 1000000000=some (if (Ut (s.extract a e)).2=true/\0<=(Ut (s.extract a e)).1/\(Ut (s.extract a e)).1<=1000000000 then ((Ut (s.extract a e)).1,true) else (0,false)):=by
   unfold ZbK;rw [if_pos (by omega),Zhz _ _ _ (by omega) (by omega)]
  have hpos:(Ut (s.extract a e)).2=true->0<=(Ut (s.extract a e)).1:=by
   intro h;unfold Ut at h ⊢;cases hn:ZlS (s.extract a e) with
   | none=>rw [hn] at h;cases h
   | some n=>
    rw [hn] at h;simp only at h ⊢
    by_cases hb:n.natAbs<1000000000000
    ·rw [if_pos hb];have hi:=Zgr hn;obtain ⟨c',r,g1,g2⟩:=ZiO s hs (a:=a) (b:=e) (by omega) (by omega);rw [hget] at g1;cases g1;rw [ZhC] at hi
     by_cases hneg:n<0
     ·rw [if_pos hneg,g2] at hi;injection hi with hi _
      subst hi;simp [Zks] at hdi
     ·show 0<=n;omega
    ·rw [if_neg hb] at h;cases h
  generalize Ut (s.extract a e)=rv at p1 p2 hpos
  by_cases hok:rv.2=true/\rv.1<=1000000000
  ·left
   refine ⟨⟨2,rv.1,a,⟨#[]⟩⟩,e,by omega,by omega,⟨(fun h=>by simp at h),(fun h=>by simp at h),by show (0:Int)<=a;omega,by show (0:Nat)<=120;omega⟩,fun k hk=>⟨?_, ?_⟩⟩
   ·unfold Xz;rw [hat];simp only [Zyl,Zbv,hle,ZcC,hdi,Zys,if_false,if_true,(e1 k hk).1,hc1,p1 k hk,hok.1,Bool.not_true];rw [show (decide (1000000000<rv.1))=false by simp;omega];simp only [Zyl,Zys,if_false,hbs e (by omega) (by omega)]
   ·unfold Qy;rw [hat];simp only [Zyl,Zec,hle,Zef,hdi,Zys,if_false,if_true,(e1 k hk).2,hc1,p2];rw [if_pos ⟨hok.1,hpos hok.1,hok.2⟩]
  ·right
   refine ⟨⟨2,rv.1,a,⟨#[]⟩⟩,⟨2,0,a,⟨#[]⟩⟩,e,fun k hk=>⟨?_, ?_⟩⟩
   ·unfold Xz;rw [hat]
    have hb:(if (!rv.2)=true then some true else some (decide (1000000000<rv.1)))=some true:=by
     cases h2:rv.2 with
     | false=>rfl
     | true=>simp [h2] at hok ⊢;omega
    simp only [Zyl,Zbv,hle,ZcC,hdi,Zys,if_false,if_true,(e1 k hk).1,hc1,p1 k hk,hb]
   ·unfold Qy;rw [hat];simp only [Zyl,Zec,hle,Zef,hdi,Zys,if_false,if_true,(e1 k hk).2,hc1,p2];rw [if_neg (fun h=>hok ⟨h.1,h.2.2⟩)]
 | false=>
 by_cases h34:(c.toNat:Int)=34
 ·have hw2:=ZmL (p:=noQ) (l:=s.data.toList) (s.size-(a+1)) (a+1) (by omega);have hix:=Zl4 s.data.toList (s.size-(a+1)) (a+1) (by omega);generalize he:sc noQ s.data.toList (a+1)=e at hw2 hix
  have e1:∀k,2000<=k->Xt s k ((a+1:Nat):Int)=some (e:Int):=fun k hk=>by
   have h1:=sq s hs (a+1) (by omega) (show 1000<k by omega);rw [he] at h1;exact h1
  have hc1:=ZbT s hs (a:=a+1) (b:=e) (by omega) (by omega);have hc2:=ZbT s hs (a:=a+1) (b:=s.size) (by omega) (by omega)
  have hi2:Yw (s.extract (a+1) s.size) 34=some (if e<s.size then ((e-(a+1):Nat):Int) else-1):=by
   unfold Yw;rw [ZfZ s hs,List.take_of_length_le (by simp<;>omega)];rw [show (34:Int).toNat.toUInt8=34 from rfl,hix,hsz]
  have vt:=fun k (hk:2000<=k)=>ZdG (s.extract (a+1) e) (by have:=Zcn s hs (a:=a+1) (b:=e) (by omega);omega) (show (s.extract (a+1) e).size<k by have:=Zcn s hs (a:=a+1) (b:=e) (by omega);omega);generalize (!((s.extract (a+1) e).data.toList.any V8)&&decide (((s.extract (a+1) e).size:Int)<=20))=tv at vt;have l0:Zi3 c=false:=hle
  by_cases hes:e<s.size
  ·rw [if_pos hes] at hi2;have hw3:IntKind.i64.wrap (IntKind.i64.wrap ((a:Int)+1)+((e-(a+1):Nat):Int))=(e:Int):=by rw [w1,w64 (by omega) (by omega)];omega
   have hw4:IntKind.i64.wrap (IntKind.i64.wrap ((a:Int)+((e-(a+1):Nat):Int))+2)=((e+1:Nat):Int):=by rw [w64 (n:=(a:Int)+((e-(a+1):Nat):Int)) (by omega) (by omega),w64 (by omega) (by omega)];omega
   have hi:∀k,2000<=k->Qy k s a=some (⟨3,0,a,s.extract (a+1) e⟩,((e+1:Nat):Int),tv):=by
    intro k hk;unfold Qy;rw [hat];simp only [Zyl,Zec,hle,Zef,hdi,Zys,if_false,h34,decide_true,if_true,w1,hc2,hi2];rw [if_neg (by simp)];rw [<-w1,hw3,w1,hc1];simp only [Zyl,(vt k hk).2,hw4]
   cases tv with
   | true=>
    left
    refine ⟨⟨3,0,a,s.extract (a+1) e⟩,e+1,by omega,by omega,⟨(fun h=>by simp at h),(fun h=>by simp at h),by show (0:Int)<=a;omega,Zcn s hs (by omega)⟩,fun k hk=>⟨?_,hi k hk⟩⟩;unfold Xz;rw [hat];simp only [Zyl,Zbv,hle,ZcC,hdi,Zys,if_false,h34,decide_true,if_true,w1,e1 k hk,hc1,(vt k hk).1];rw [show (decide ((e:Int)=(s.size:Int)))=false by simp;omega];simp only [Zys,if_false,Zyl,Bool.not_true,wS e (by omega),hbs (e+1) (by omega) (by omega)]
   | false=>
    right
    refine ⟨⟨3,0,a,s.extract (a+1) e⟩,_,_,fun k hk=>⟨?_,hi k hk⟩⟩;unfold Xz;rw [hat];simp only [Zyl,Zbv,hle,ZcC,hdi,Zys,if_false,h34,decide_true,if_true,w1,e1 k hk,hc1,(vt k hk).1];rw [show (decide ((e:Int)=(s.size:Int)))=false by simp;omega];simp only [Zys,if_false,Zyl,Bool.not_false,if_true]
  ·rw [if_neg hes] at hi2
   right
   refine ⟨⟨3,0,a,s.extract (a+1) e⟩,⟨0,0,0,⟨#[]⟩⟩,0,fun k hk=>⟨?_, ?_⟩⟩
   ·unfold Xz;rw [hat];simp only [Zyl,Zbv,hle,ZcC,hdi,Zys,if_false,h34,decide_true,if_true,w1,e1 k hk,hc1];rw [show (decide ((e:Int)=(s.size:Int)))=true by simp;omega];simp only [if_true,Zyl]
   ·unfold Qy;rw [hat];simp only [Zyl,Zec,hle,Zef,hdi,Zys,if_false,h34,decide_true,if_true,w1,hc2,hi2]
    rfl
 ·have hn34:¬((c.toNat:Int)=34):=h34;have hget2:s.data.toList[a]=c:=by have:=hget;rw [Zyt hla] at this;exact Zym this
  have hlist:(s.extract a s.size).data.toList=c::s.data.toList.drop (a+1):=by
   rw [ZfZ s hs,List.take_of_length_le (by simp<;>omega),List.drop_eq_getElem_cons hla,hget2]
  have hc0:=ZbT s hs (a:=a) (b:=s.size) (by omega) (by omega);have hc1:=ZbT s hs (a:=a) (b:=a+1) (by omega) (by omega)
  have hix:Yw (⟨#[40,41,91,93,44,43,45,42,60,61]⟩:ByteArray) (c.toNat:Int)=some (Lib.indexByte Zs4 c):=by
   unfold Yw
   congr 2
   simp
  obtain ⟨n,hn,hcase⟩:=ZmI s hs a ha c hat;rcases hcase with ⟨rfl,rfl,h2,h3⟩| ⟨rfl,hmem,hno⟩| ⟨rfl,hmem⟩
  ·
   have hc2:=ZbT s hs (a:=a) (b:=a+2) (by omega) (by omega)
   have he2:s.extract a (a+2)=⟨#[61,61]⟩:=by
    apply ByteArray.ext;apply Array.toList_inj.1;have hl1:a+1<s.data.toList.length:=by omega
    have hg1:s.data.toList[a+1]=61:=by rw [Zyt hl1] at h3;exact Zym h3
    rw [ZfZ s hs,List.drop_eq_getElem_cons hla,hget2,List.drop_eq_getElem_cons hl1,hg1,show a+2-a=2 by omega]
    rfl
   have hpre:Yx (s.extract a s.size) (⟨#[61,61]⟩:ByteArray)=some true:=by
    unfold Yx Lib.hasPrefix;have hl1:a+1<s.data.toList.length:=by omega
    have hg1:s.data.toList[a+1]=61:=by rw [Zyt hl1] at h3;exact Zym h3
    rw [hlist,List.drop_eq_getElem_cons hl1,hg1];simp
   left
   refine ⟨⟨4,0,a,⟨#[61,61]⟩⟩,a+2,by omega,by omega,⟨(fun h=>by simp at h),fun _=>⟨61,[61],rfl,by decide⟩,by show (0:Int)<=a;omega,by show (2:Nat)<=120;omega⟩,fun k hk=>⟨?_, ?_⟩⟩
   ·unfold Xz;rw [hat];simp only [Zyl,Zbv,hle,ZcC,hdi,Zys,if_false,hn34,decide_false,hn];rw [show IntKind.i64.wrap ((a:Int)+2)=((a+2:Nat):Int) by rw [w64 (by omega) (by omega)];rfl,hc2,he2];simp only [Zyl,hbs (a+2) (by omega) (by omega)]
   ·unfold Qy;rw [hat];simp only [Zyl,Zec,hle,Zef,hdi,Zys,if_false,hn34,decide_false,hc0,hpre,if_true];rw [show IntKind.i64.wrap ((a:Int)+2)=((a+2:Nat):Int) by rw [w64 (by omega) (by omega)];rfl]
  ·
   have hpre:Yx (s.extract a s.size) (⟨#[61,61]⟩:ByteArray)=some false:=by
    unfold Yx Lib.hasPrefix;rw [hlist]
    congr 1
    by_cases hc61:c=61
    ·subst hc61
     by_cases hl1:a+1<s.data.toList.length
     ·rw [List.drop_eq_getElem_cons hl1];have:s.data.toList[a+1]≠61:=fun e=>hno rfl (by rw [Zyt hl1,e]);simp [List.isPrefixOf];intro e;exact this (by simpa using e.symm)
     ·rw [List.drop_eq_nil_of_le (by omega)];simp
    ·simp [List.isPrefixOf,Ne.symm hc61]
   left
   obtain ⟨c',r,g1,g2⟩:=ZiO s hs (a:=a) (b:=a+1) (by omega) (by omega);rw [hget] at g1;cases g1;refine ⟨⟨4,0,a,s.extract a (a+1)⟩,a+1,by omega,by omega,⟨(fun h=>by simp at h),fun _=>⟨c,r,g2,hle⟩,by show (0:Int)<=a;omega,Zcn s hs (by omega)⟩,fun k hk=>⟨?_, ?_⟩⟩
   ·unfold Xz;rw [hat];simp only [Zyl,Zbv,hle,ZcC,hdi,Zys,if_false,hn34,decide_false,hn];rw [w1,hc1];simp only [Zyl,hbs (a+1) (by omega) (by omega)]
   ·unfold Qy;rw [hat];simp only [Zyl,Zec,hle,Zef,hdi,Zys,if_false,hn34,decide_false,hc0,hpre,w1,hc1,hix];rw [decide_eq_true ((Zqu c Zs4).2 hmem)]
  ·right
   have hpre:∃b,Yx (s.extract a s.size) (⟨#[61,61]⟩:ByteArray)=some b/\b=false:=by
    refine ⟨_,rfl, ?_⟩;unfold Lib.hasPrefix;rw [hlist];have:c≠61:=fun e=>hmem (by rw [e];decide);simp [List.isPrefixOf,Ne.symm this]
   obtain ⟨b,hpre,rfl⟩:=hpre;have hc00:=ZbT s hs (a:=a) (b:=a) (by omega) (by omega);refine ⟨⟨4,0,a,s.extract a a⟩,⟨4,0,a,s.extract a (a+1)⟩,((a+1:Nat):Int),fun k hk=>⟨?_, ?_⟩⟩
   ·unfold Xz;rw [hat];simp only [Zyl,Zbv,hle,ZcC,hdi,Zys,if_false,hn34,decide_false,hn];rw [show IntKind.i64.wrap ((a:Int)+0)=(a:Int) by rw [w64 (by omega) (by omega)];omega,hc00];simp only [Zyl,hbs a (by omega) (by omega),Nat.sub_self]
    rfl
   ·unfold Qy;rw [hat];simp only [Zyl,Zec,hle,Zef,hdi,Zys,if_false,hn34,decide_false,hc0,hpre,w1,hc1,hix];rw [decide_eq_false (fun h=>hmem ((Zqu c Zs4).1 h))]
theorem ZN.ZtC (r:ZN):r.cells.length<=r.bk/\r.from_.length<=r.bk:=by
 have h2:=r.ZH;have h3:=Yj (f:=fun _:Int=>0) (xs:=r.cells);have h4:=Yj (f:=fun _:Zo=>0) (xs:=r.from_);constructor<;>omega
theorem ZnW (r:ZN) (h:r.bk<=1073741824):ZeC r=some r:=by
 obtain ⟨h1,h2⟩:=r.ZtC;unfold ZeC;rw [Wh (by simp;omega) (by omega),Zyl,Wh (by simp;omega) (by omega)];rfl
theorem ZoC (r:ZN) (h:r.bk<=1073741824):KO r=some r:=by
 obtain ⟨h1,h2⟩:=r.ZtC;unfold KO;rw [Wh (by simp;omega) (by omega),Zyl,Wh (by simp;omega) (by omega)];rfl
structure ZwH (v:Za):Prop where
 list:v.list.length<=v.bk
 cols:v.columns.length<=v.bk
 rows:v.rows.length<=v.bk
 text:v.text.size<=v.bk
 row:∀r∈v.rows,r.bk<=v.bk
 el:∀x∈v.list,x.bk<=v.bk
 col:∀s∈v.columns,s.size<=v.bk
theorem Za.ZrJ (v:Za):ZwH v:=by
 have e:=v.ZH;have l1:=Yj (f:=Za.bk) (xs:=v.list);have l2:=Yj (f:=ByteArray.size) (xs:=v.columns);have l3:=Yj (f:=ZN.bk) (xs:=v.rows);exact ⟨by omega,by omega,by omega,by omega,fun r hr=>by have:=QA (f:=ZN.bk) hr;omega,fun r hr=>by have:=QA (f:=Za.bk) hr;omega,fun r hr=>by have:=QA (f:=ByteArray.size) hr;omega⟩
theorem ZkI:∀v:Za,v.bk<=1073741824->Ev fun k=>Va k v=some v:=by
 refine Za.ind fun v ih hb=> ?_;have l:=v.ZrJ;have:=l.list;have:=l.cols;have:=l.rows;refine ((Ev.all v.list fun y hy=>ih y hy (by have:=l.el y hy;omega)).and (Ev.ge (v.list.length+v.rows.length+2))).pred ?_;rintro k ⟨hx,hk⟩
 rw [Va,Wh (by simp;omega) (by omega),Zyl,
  Zep 112 (by omega) v.list (Va k) (Ws (Va k) v) hx (fun n out i=>by rw [Ws]) (by omega) (by omega),Zyl,
  Zep 48 (by omega) v.rows ZeC (Wr v) (fun r hr=>ZnW r (by have:=l.row r hr;omega)) (fun n out i=>by rw [Wr]) (by omega) (by omega)]
 simp only [Zyl,List.nil_append];cases v;rfl
theorem Zk5:∀v:Za,v.bk<=1073741824->Ev fun k=>Y5 k v=some v:=by
 refine Za.ind fun v ih hb=> ?_;have l:=v.ZrJ;have:=l.list;have:=l.cols;have:=l.rows;refine Ev.pred (p:=fun k=>Y5 (k+1) v=some v) (((Ev.all v.list fun y hy=>ih y hy (by have:=l.el y hy;omega)).and (Ev.ge (v.list.length+v.rows.length+2))).pred ?_) fun k h=>h;rintro k ⟨hx,hk⟩
 rw [Y5,Uw,
  Zep 112 (by omega) v.list (Y5 k) (Ql (Y5 k) v.list) hx (fun n out i=>by rw [Ql]) (by omega) (by omega),Zyl,Zyl,
  Wh (by simp;omega) (by omega),Zyl,
  Zep 48 (by omega) v.rows KO (QL v) (fun r hr=>ZoC r (by have:=l.row r hr;omega)) (fun n out i=>by rw [QL]) (by omega) (by omega)]
 simp only [Zyl,List.nil_append];cases v;rfl
end Go.Proofs.YtbkllghhcphkaaaGreatDoor
