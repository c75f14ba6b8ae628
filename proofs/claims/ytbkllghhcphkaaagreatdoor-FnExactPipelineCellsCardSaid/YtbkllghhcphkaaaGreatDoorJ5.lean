import Derived.Test.YtbkllghhcphkaaaGreatDoorJ4
import Derived.MapKept
import Derived.Lib.ItoaNum
import Derived.Lib.Join
import Derived.Lib.AtoiAll
import Derived.Lib.Strings
import Derived.Lib.Bytealg
import Derived.Lib.SplitLaws
set_option linter.unusedSimpArgs false
set_option linter.unusedVariables false
namespace Go.Proofs.YtbkllghhcphkaaaGreatDoor.Am
open Go.RowKit
section
variable {e:Env} {σ σ':St} {w:World} {N:Nat->Prop} {w0:Bs} {a:Act} {P:Program}
theorem Zm2 {x:Code} {Q:Exit->St->Prop} (h:∀K:St->Prop,(∀σ' σ'',Zdz σ'' σ'->Q .normal σ''->K σ')->AW P N w0 x (ZfP K Q) σ):AW P N w0 x Q σ:=fun a w hs=>
 Code.wp_mono (fun e a w ⟨σ',h1,h2⟩=>by
  cases e<;>first | exact ⟨σ',h1,h2⟩| (obtain ⟨σ'',h3,h4⟩:=h1;exact ⟨σ'',h4,h3 N w0 a w h2⟩)) (h (fun σ'=>∃σ'',Zdz σ'' σ'/\Q .normal σ'') (fun σ' σ'' h1 h2=>⟨σ'',h1,h2⟩) a w hs)
def ren (l:List (Nat×Nat)) (i:Nat):Nat:=(l.lookup i).getD 0
theorem ZrD (l:List (Nat×Nat)) (i:Nat):ren l i=(l.lookup i).getD 0:=rfl
def ZhJ:List V->Option (List Nat)
 | []=>some []
 | .one (.box k 0)::vs=>(ZhJ vs).map (k:: ·)
 | _::_=>none
theorem ZhI (h:ZC N w0 e σ a w):∀{ps:List Operand} {vs:List V} {ks:List Nat},Xl σ ps=some vs->ZhJ vs=some ks->
  ps.map a.eval=ks.map (fun k=>Value.pointer (some ⟨e.β k,0,none⟩))/\∀k∈ks,∃cs,σ.bx.lookup k=some cs
 | [],vs,ks,ho,hk=>by
  simp only [Xl,Zwh] at ho;subst ho;simp only [ZhJ,Zwh] at hk;subst hk;simp
 | o::ps,vs,ks,ho,hk=>by
  simp only [Xl] at ho
  split at ho
  ·rename_i v vs' hv hvs;obtain rfl:=Zwf ho;unfold ZhJ at hk
   split at hk
   ·rename_i h1;cases h1
   ·rename_i k us h1;obtain ⟨rfl,rfl⟩:=List.cons.inj h1;obtain ⟨ks',h2,rfl⟩:=Option.map_eq_some_iff.1 hk;obtain ⟨g1,g2⟩:=ZhI h hvs h2;obtain ⟨g3,g4⟩:=Zw h hv
    exact ⟨by rw [List.map_cons,List.map_cons,g1,g4],fun j hj=>by
     rcases List.mem_cons.1 hj with rfl| hj
     ·exact g3
     ·exact g2 j hj⟩
   ·cases hk
  ·cases ho
def fnK (σ:St) (d f:Nat) (Z:Eff->Prop):Option (List Nat)->Prop
 | some ks=>d<σ.nt/\Z ⟨True,[(d,.one (.clo f ks))],[],[]⟩
 | none=>False
theorem ZqH {d f:Nat} {caps:Array Operand} {ty:TypeId} {pos:String} {af:Array Edge} {gd:Option (Nat×Bool)} {Z:Eff->Prop} (hx:fnK σ d f Z ((Xl σ caps.toList).bind ZhJ)):
  HBy P σ { dst:=some d,op:=.makeFunc (.func f) #[] caps,type:=ty,pos:=pos,after:=af,guard:=gd} Z:=by
 unfold fnK at hx
 split at hx
 ·rename_i ks hks;obtain ⟨vs,h1,h2⟩:=Option.bind_eq_some_iff.1 hks;refine ⟨_,⟨.inl rfl,by simp,fun σ' k fr N w0 e a w h=>.inl ⟨w,e,.inl ⟨.func (.func f) #[] (caps.map a.eval),by simp [execOp,Instr.makeFunc,Sem.run_bind], ?_⟩⟩⟩,hx.2⟩;obtain ⟨g1,g2⟩:=ZhI h (k.Xl h1) h2;refine h.put (x:=.one (.clo f ks)) (k.nt▸hx.1) ⟨g2, ?_⟩;have:caps.map a.eval=(caps.toList.map a.eval).toArray:=by rw [<-Array.toList_inj];simp
  rw [this,g1]
 ·exact hx.elim
def Zur (P:Program) (σ:St) (dst:Option Nat) (Z:Eff->Prop):Option V->Option (List V)->Prop
 | some (.one (.clo f ks)),some vs=>ZsK P σ dst f (vs++ks.map fun k=>.one (.box k 0)) Z
 | _,_=>False
theorem Zj4 {dst:Option Nat} {t:Nat} {xs:Array Operand} {ts:Array TypeId} {ty:TypeId} {pos:String} {af:Array Edge} {gd:Option (Nat×Bool)} {Z:Eff->Prop} (hx:Zur P σ dst Z (σ.tm.lookup t) (Xl σ xs.toList)):
  HBy P σ { dst:=dst,op:=.call { callee:=.value (.tmp t),args:=xs,argTypes:=ts},type:=ty,pos:=pos,after:=af,guard:=gd} Z:=by
 unfold Zur at hx
 split at hx
 ·rename_i f ks vs ht hvs;obtain ⟨g,⟨hok,h1,h2⟩,hZ⟩:=hx;refine ⟨g,⟨.inl rfl,fun p hp=>h1 p hp,fun σ' k fr N w0 e a w h=>.inr ?_⟩,hZ⟩;have hc:=h.tm t _ (k.tm t _ ht);obtain ⟨hc1,hc2⟩:=hc;obtain ⟨hl,hr⟩:=ZcV h (k.Xl hvs);refine ⟨f,(xs.toList.map a.eval++ks.map fun k=>Value.pointer (some ⟨e.β k,0,none⟩)).toArray, ?_, ?_⟩
  ·unfold Wx at hok
   split at hok
   ·rename_i fn hfn;simp only [Zwj,bne_iff_ne,ne_eq] at hok;obtain ⟨c,hb⟩:∃c,fn.body=some c:=Option.isSome_iff_exists.1 hok.2;have hv:a.eval (.tmp t)= .func (.func f) #[] (ks.map fun k=>Value.pointer (some ⟨e.β k,0,none⟩)).toArray:=hc2;have hargs:(xs.toList.map a.eval++ks.map fun k=>Value.pointer (some ⟨e.β k,0,none⟩)).toArray=xs.map a.eval++(ks.map fun k=>Value.pointer (some ⟨e.β k,0,none⟩)).toArray:=by rw [<-Array.toList_inj];simp
    rw [hargs];simp [execOp,resolve,hv,Deferred.ofValue,invoke,callFunc,hfn,hok.1,hb]
   ·cases hok
  ·refine (h2 σ' ⟨k.nt,k.bx,k.ar,fr.bx,fr.ar⟩ N w0 e a w _ h (by simp [hl]) fun j v hj=> ?_)
   by_cases hlt:j<vs.length
   ·rw [List.getElem?_append_left hlt] at hj;have hq:(xs.toList.map a.eval)[j]? =some ((xs.toList.map a.eval)[j]'(by rw [List.length_map];omega)):=Zwm _;exact ⟨_,by rw [List.getElem?_append_left (by rw [List.length_map];omega)];exact hq,hr j v _ hj hq⟩
   ·rw [List.getElem?_append_right (by omega)] at hj;rw [List.getElem?_map] at hj;obtain ⟨k0,hk0,rfl⟩:=Option.map_eq_some_iff.1 hj;refine ⟨.pointer (some ⟨e.β k0,0,none⟩), ?_,hc1 k0 (List.mem_of_getElem? hk0),rfl⟩;rw [List.getElem?_append_right (by rw [List.length_map];omega),List.getElem?_map,List.length_map,<-hl,hk0]
    rfl
 ·exact hx.elim
def Zge:List (Int×Bool)->Int->Option Bool
 | [],_=>none
 | p::M,n=>if n=p.1 then some p.2 else Zge M n
def Zgc:List (Int×Bool)->Int->Bool->List (Int×Bool)
 | [],n,b=>[(n,b)]
 | p::M,n,b=>if n=p.1 then (n,b)::M else p::Zgc M n b
theorem Zgm {n:Int}:∀{M:List (Int×Bool)} {l:List MapEntry} (i:Nat),l.map (fun m=>(m.key,m.val))=M.map (fun p=>(Value.int .i64 p.1,Value.bool p.2))->
  (∃b j,Zge M n=some b/\Instr.findNow (.int .i64) (.int .i64 n) l i=some (some (i+j,.bool b))/\(∃x,l[j]? =some x/\x.key= .int .i64 n)/\
   ∀b' (y:MapEntry->MapEntry),(∀x,(y x).key= .int .i64 n/\(y x).val= .bool b')->(l.modify j y).map (fun m=>(m.key,m.val))=(Zgc M n b').map (fun p=>(Value.int .i64 p.1,Value.bool p.2)))\/
  (Zge M n=none/\Instr.findNow (.int .i64) (.int .i64 n) l i=some none/\∀b',Zgc M n b'=M++[(n,b')])
 | [],[],i,_=>.inr ⟨rfl,rfl,fun _=>rfl⟩
 | [],_::_,_,h=>by simp at h
 | _::_,[],_,h=>by simp at h
 | p::M,x::l,i,h=>by
  simp only [List.map_cons,List.cons.injEq,Zwi] at h;obtain ⟨⟨h1,h2⟩,h3⟩:=h
  by_cases hn:n=p.1
  ·subst hn;refine .inl ⟨p.2,0,by simp [Zge],by simp [Instr.findNow,Instr.sameNow,h1,h2],⟨x,rfl,h1⟩,fun b' y hy=> ?_⟩;simp [Zgc,(hy x).1,(hy x).2,h3]
  ·have hs:Instr.sameNow (.int .i64) (.int .i64 n) x.key=some false:=by simp [Instr.sameNow,h1,hn]
   rcases Zgm (n:=n) (i+1) h3 with ⟨b,j,g1,g2,⟨y,g3,g4⟩,g5⟩| ⟨g1,g2,g3⟩
   ·refine .inl ⟨b,j+1,by simp [Zge,hn,g1], ?_,⟨y,by simpa using g3,g4⟩,fun b' y hy=> ?_⟩
    ·simp only [Instr.findNow,hs,g2];congr 3;omega
    ·simp [Zgc,hn,h1,h2,g5 b' y hy]
   ·exact .inr ⟨by simp [Zge,hn,g1],by simp [Instr.findNow,hs,g2],fun b'=>by simp [Zgc,hn,g3 b']⟩
theorem ZjE {t:Nat} {x:TI} {z:Value} (h:mti P t=some (x,z)):∃k v,P.underlying t=some (.map k v)/\ti P k=some x/\∀w,(zeroValue v).run P w= .ok z w:=by
 unfold mti at h
 split at h
 ·rename_i k v hu
  split at h
  ·rename_i x' i hx hi;obtain ⟨z',h1,h2⟩:=Option.map_eq_some_iff.1 h;obtain ⟨rfl,rfl⟩:=Prod.mk.inj h2;exact ⟨k,v,hu,hx,fun w=>by simp [zeroValue,typeInfo,hi,h1]⟩
  ·cases h
 ·cases h
theorem Zlr {t:Nat} {k:IntKind} {a b:Nat} {z:List Value} (h:ti P t=some ⟨.int k,a,b,z⟩):P.underlying t=some (.int k):=by
 obtain ⟨j,d,z',h1,h2,h3,h4,_⟩:=WU h;cases d<;>simp [Zm4] at h4;rw [h4] at h2;exact h2
theorem ZgJ.mc {M:List (Int×Bool)} {o:Option Obj} (h:ZgJ e σ w [.mc (.ib M)] o):∃es n,o=Option.some (.map es n)/\es.toList.map (fun m=>(m.key,m.val))=M.map (fun p=>(Value.int .i64 p.1,Value.bool p.2))/\∀p∈M,InK .i64 p.1:=by
 rcases h with ⟨cur,ty,_,h⟩| ⟨md,es,n,h0,h1,h2,h3⟩
 ·simp only [Yb] at h;obtain ⟨_,_,_,h,_⟩:=h;exact h.elim
 ·obtain ⟨h0,_⟩:=List.cons.inj h0;obtain rfl:=CV.mc.inj h0;refine ⟨es,n,h1,by rw [h2];simp [MD.es,Zs1,ZdR,Function.comp_def],fun p hp=> ?_⟩;exact (h3 (.one (.int .i64 p.1),.one (.bool p.2)) (List.mem_map.2 ⟨p,hp,rfl⟩)).1
def Zl1 (d:Nat) (ok:Bool) (r:Option Bool):Eff:= ⟨True,[(d,if ok then .tup [(false,[.l (.bool (r.getD false))]),(false,[.l (.bool r.isSome)])] else .one (.l (.bool (r.getD false))))],[],[]⟩
def ZnK (σ:St) (d:Nat) (ok:Bool) (Z:Eff->Prop) (n:Int):Option (List CV)->Prop
 | some [.mc (.ib M)]=>d<σ.nt/\Z (Zl1 d ok (Zge M n))
 | _=>False
def ZpS (σ:St) (d:Nat) (ok:Bool) (Z:Eff->Prop):Option (TI×Value)->Option V->Option V->Prop
 | some (⟨.int .i64,_,_,_⟩,.bool false),some (.one (.mp k)),some (.one (.l (.int .i64 n)))=>ZnK σ d ok Z n (σ.bx.lookup k)
 | _,_,_=>False
theorem ZqG {d t:Nat} {m x:Operand} {ok:Bool} {ty:TypeId} {pos:String} {af:Array Edge} {gd:Option (Nat×Bool)} {Z:Eff->Prop} (hx:ZpS σ d ok Z (mti P t) (opd σ m) (opd σ x)):
  HBy P σ { dst:=some d,op:=.lookup t m x ok,type:=ty,pos:=pos,after:=af,guard:=gd} Z:=by
 unfold ZpS at hx
 split at hx
 ·rename_i i1 i2 i3 k n hm hmp hk;unfold ZnK at hx
  split at hx
  ·rename_i M hb;obtain ⟨kt,et,q1,q2,q3⟩:=ZjE hm;have q4:=Zlr q2;refine ⟨_,⟨.inl rfl,by simp [Zl1],fun σ' kk fr N w0 e a w h=>.inl ?_⟩,hx.2⟩;obtain ⟨_,hc⟩:=h.bx k _ (kk.bx k _ hb);obtain ⟨es,cl,g1,g2,g3⟩:=hc.mc;obtain ⟨_,hv⟩:=Zw h (kk.opd hmp);obtain ⟨F,hkv,_⟩:=Zw h (kk.opd hk);simp only [Rp] at hkv;have hz:=q3 w;have hck:=MapKept.run_checkKey (P:=P) (w:=w) (k:=.int .i64 n) q4 rfl es.isEmpty 9999;have ho:=MapKept.run_getObj_map (P:=P) g1;rcases Zgm (n:=n) 0 g2 with ⟨b,j,r1,r2,_,_⟩| ⟨r1,r2,_⟩
   ·have hf:=MapKept.run_findKey (P:=P) (w:=w) q4 r2;cases ok
    ·refine ⟨w,e,.inl ⟨.bool b,by simp [execOp,Instr.lookup,hv,hkv.1,run_underlying q1,ho,hck,hf,Result.andThen,Sem.run_bind], ?_⟩⟩;rw [r1];exact h.put (x:=.one (.l (.bool b))) (kk.nt▸hx.1) ⟨[],by simp [Rp],by simp⟩
    ·refine ⟨w,e,.inl ⟨.tuple #[.bool b,.bool true],by simp [execOp,Instr.lookup,hv,hkv.1,run_underlying q1,ho,hck,hf,Result.andThen,Sem.run_bind], ?_⟩⟩;rw [r1];refine h.put (x:=.tup [(false,[.l (.bool b)]),(false,[.l (.bool true)])]) (kk.nt▸hx.1) ⟨_,rfl, ?_⟩;simp only [Yl,Zio];exact ⟨_,_,rfl,⟨_,rfl,[],by simp [Rp],by simp⟩,_,_,rfl,⟨_,rfl,[],by simp [Rp],by simp⟩,rfl⟩
   ·have hf:=MapKept.run_findKey (P:=P) (w:=w) q4 r2;cases ok
    ·refine ⟨w,e,.inl ⟨.bool false,by simp [execOp,Instr.lookup,hv,hkv.1,run_underlying q1,ho,hck,hf,hz,Result.andThen,Sem.run_bind], ?_⟩⟩;rw [r1];exact h.put (x:=.one (.l (.bool false))) (kk.nt▸hx.1) ⟨[],by simp [Rp],by simp⟩
    ·refine ⟨w,e,.inl ⟨.tuple #[.bool false,.bool false],by simp [execOp,Instr.lookup,hv,hkv.1,run_underlying q1,ho,hck,hf,hz,Result.andThen,Sem.run_bind], ?_⟩⟩;rw [r1];refine h.put (x:=.tup [(false,[.l (.bool false)]),(false,[.l (.bool false)])]) (kk.nt▸hx.1) ⟨_,rfl, ?_⟩;simp only [Yl,Zio];exact ⟨_,_,rfl,⟨_,rfl,[],by simp [Rp],by simp⟩,_,_,rfl,⟨_,rfl,[],by simp [Rp],by simp⟩,rfl⟩
  ·exact hx.elim
 ·exact hx.elim
def ZpO (σ:St) (d:Nat) (Z:Eff->Prop):Option (List CV)->Prop
 | none=>d<σ.nt/\Z ⟨True,[(d,.one (.mp d))],[(d,[.mc (.ib [])])],[]⟩
 | some _=>False
theorem ZmG {d t:Nat} {ty:TypeId} {pos:String} {af:Array Edge} {gd:Option (Nat×Bool)} {Z:Eff->Prop} (hx:ZpO σ d Z (σ.bx.lookup d)):
  HBy P σ { dst:=some d,op:=.makeMap t none,type:=ty,pos:=pos,after:=af,guard:=gd} Z:=by
 unfold ZpO at hx
 split at hx
 ·rename_i hn;refine ⟨_,⟨.inl rfl,by simp,fun σ' kk fr N w0 e a w h=>.inl ?_⟩,hx.2⟩;have hn':σ'.bx.lookup d=none:=fr.bx (d,[.mc (.ib [])]) (by simp) hn;refine ⟨_,{ e with β:=fun k=>if k=d then w.heap.size else e.β k},.inl ⟨.map (some w.heap.size),by simp [execOp,Instr.makeMap,newObj,Result.andThen,Sem.run_bind];rfl, ?_⟩⟩;exact h.newObj (cs:=[.mc (.ib [])]) (c:=.mp d) (kk.nt▸hx.1) hn' (.inr ⟨.ib [], #[],0,rfl,rfl,rfl,by simp [MD.es]⟩) ⟨⟨[.mc (.ib [])],by simp⟩,by simp⟩
 ·exact hx.elim
def ZsN (σ:St) (k:Nat) (Z:Eff->Prop) (n:Int) (b:Bool):Option (List CV)->Prop
 | some [.mc (.ib M)]=>Z ⟨True,[],[(k,[.mc (.ib (Zgc M n b))])],[]⟩
 | _=>False
def Zte (σ:St) (Z:Eff->Prop):Option (TI×Value)->Option V->Option V->Option V->Prop
 | some (⟨.int .i64,_,_,_⟩,_),some (.one (.mp k)),some (.one (.l (.int .i64 n))),some (.one (.l (.bool b)))=>ZsN σ k Z n b (σ.bx.lookup k)
 | _,_,_,_=>False
def nfK (σ:St) (d:Nat) (op:BinOp) (Z:Eff->Prop):Option TI->Option V->Prop
 | some ⟨.fn,_,_,_⟩,some (.one c)=>d<σ.nt/\match op,c with
  | .eql,.clo _ _=>Z ⟨True,[(d,.one (.l (.bool false)))],[],[]⟩
  | .neq,.clo _ _=>Z ⟨True,[(d,.one (.l (.bool true)))],[],[]⟩
  | .eql,.nf=>Z ⟨True,[(d,.one (.l (.bool true)))],[],[]⟩
  | .neq,.nf=>Z ⟨True,[(d,.one (.l (.bool false)))],[],[]⟩
  | _,_=>False
 | _,_=>False
theorem Zrg {t:Nat} {a b:Nat} {z:List Value} (h:ti P t=some ⟨.fn,a,b,z⟩):∃p r v,P.underlying t=some (.func p r v):=by
 obtain ⟨j,d,z',h1,h2,h3,h4,_⟩:=WU h;cases d<;>simp [Zm4] at h4;exact ⟨_,_,_,h2⟩
theorem Zsd {t:Nat} {p r:Array TypeId} {vv:Bool} (hu:P.underlying t=some (.func p r vv)) (fn:Fn) (a b:Array Value) (w:World):(Op.equal t (.func fn a b) .nilFunc).run P w= .ok false w:=by
 unfold Op.equal Op.maxDepth;rw [show (10000:Nat)=9999+1 from rfl,Op.equalIn,Sem.run_bind,run_underlying hu]
 rfl
theorem Zsc {t:Nat} {p r:Array TypeId} {vv:Bool} (hu:P.underlying t=some (.func p r vv)) (w:World):(Op.equal t .nilFunc .nilFunc).run P w= .ok true w:=by
 unfold Op.equal Op.maxDepth;rw [show (10000:Nat)=9999+1 from rfl,Op.equalIn,Sem.run_bind,run_underlying hu]
 rfl
theorem ZsD {d t:Nat} {op:BinOp} {x:Operand} {yt:TypeId} {ty:TypeId} {pos:String} {af:Array Edge} {gd:Option (Nat×Bool)} {Z:Eff->Prop} (hx:nfK σ d op Z (ti P t) (opd σ x)):
  HBy P σ { dst:=some d,op:=.binOp op t x (.const .nilFunc) yt,type:=ty,pos:=pos,after:=af,guard:=gd} Z:=by
 unfold nfK at hx
 split at hx
 ·rename_i c ht hc;obtain ⟨hd,hx⟩:=hx;obtain ⟨p,r,vv,hu⟩:=Zrg ht
  have fin:∀b:Bool,(∀(e:Env) (σ':St) (w:World) (u:Value),c.rel e σ' w u->(binOp op t u .nilFunc).run P w= .ok (.bool b) w)->Z ⟨True,[(d,.one (.l (.bool b)))],[],[]⟩->
    HBy P σ { dst:=some d,op:=.binOp op t x (.const .nilFunc) yt,type:=ty,pos:=pos,after:=af,guard:=gd} Z:=fun b hb hZ=>by
   refine ⟨⟨True,[(d,.one (.l (.bool b)))],[],[]⟩,⟨.inl rfl,by simp,fun σ' kk fr N w0 e a w h=>.inl ⟨w,e,.inl ⟨.bool b, ?_,h.put (d:=d) (x:=.one (.l (.bool b))) (kk.nt▸hd) ⟨[],by simp [Rp],by simp⟩⟩⟩⟩,hZ⟩;have h1:=hb e σ' w _ (Zw h (kk.opd hc))
   have hg:(eqGuard op t x (.const .nilFunc) (a.eval x) .nilFunc).run P w= .ok () w:=by
    unfold eqGuard;generalize a.eval x=u;cases op<;>first | rfl| (cases u<;>rfl)
   have h0:a.eval (.const .nilFunc)= .nilFunc:=rfl;simp [execOp,h0,Sem.run_bind,hg,h1,Result.andThen]
  revert hx
  split<;>intro hx
  ·refine fin false (fun e σ' w u hr=> ?_) hx;obtain ⟨_,rfl⟩:=hr;show (Sem.run P (do pure (Value.bool (<-Op.equal t _ _))) w)=_;rw [Sem.run_bind,Zsd hu];rfl
  ·refine fin true (fun e σ' w u hr=> ?_) hx;obtain ⟨_,rfl⟩:=hr;show (Sem.run P (do pure (Value.bool (!(<-Op.equal t _ _)))) w)=_;rw [Sem.run_bind,Zsd hu];rfl
  ·refine fin true (fun e σ' w u hr=> ?_) hx;obtain rfl:=hr;show (Sem.run P (do pure (Value.bool (<-Op.equal t _ _))) w)=_;rw [Sem.run_bind,Zsc hu];rfl
  ·refine fin false (fun e σ' w u hr=> ?_) hx;obtain rfl:=hr;show (Sem.run P (do pure (Value.bool (!(<-Op.equal t _ _)))) w)=_;rw [Sem.run_bind,Zsc hu];rfl
  ·exact hx.elim
 ·exact hx.elim
theorem ZsC {t:Nat} {m x v:Operand} {ty:TypeId} {pos:String} {af:Array Edge} {gd:Option (Nat×Bool)} {Z:Eff->Prop} (hx:Zte σ Z (mti P t) (opd σ m) (opd σ x) (opd σ v)):
  HBy P σ { dst:=none,op:=.mapUpdate t m x v,type:=ty,pos:=pos,after:=af,guard:=gd} Z:=by
 unfold Zte at hx
 split at hx
 ·rename_i i1 i2 i3 z k n b hm hmp hk hv;unfold ZsN at hx
  split at hx
  ·rename_i M hb;obtain ⟨kt,et,q1,q2,_⟩:=ZjE hm;have q4:=Zlr q2;refine ⟨_,⟨.inl rfl,by simp,fun σ' kk fr N w0 e a w h=>.inl ?_⟩,hx⟩;obtain ⟨_,hc⟩:=h.bx k _ (kk.bx k _ hb);obtain ⟨es,cl,g1,g2,g3⟩:=hc.mc;obtain ⟨_,hmv⟩:=Zw h (kk.opd hmp);obtain ⟨F,hkv,_⟩:=Zw h (kk.opd hk);obtain ⟨F',hbv,_⟩:=Zw h (kk.opd hv);simp only [Rp] at hkv hbv;have hck:=MapKept.run_checkKey (P:=P) (w:=w) (k:=.int .i64 n) q4 rfl false 9999;have ho:=MapKept.run_getObj_map (P:=P) g1;have hst:∀o,(Go.setObj (e.β k) o).run P w= .ok () { w with heap:=w.heap.setIfInBounds (e.β k) o}:=fun o=>MapKept.run_setObj_map (P:=P) o g1
   have okn:∀p∈Zgc M n b,InK .i64 p.1:=fun p hp=>by
    have key:∀{M:List (Int×Bool)},(∀p∈M,InK .i64 p.1)->∀p∈Zgc M n b,InK .i64 p.1:=fun {M}=>by
     induction M with
     | nil=>intro _ p hp;simp [Zgc] at hp;rw [hp];exact hkv.2.2
     | cons q M ih=>
      intro hM p hp;simp only [Zgc] at hp
      split at hp
      ·rcases List.mem_cons.1 hp with rfl| hp
       ·exact hkv.2.2
       ·exact hM p (List.mem_cons_of_mem _ hp)
      ·rcases List.mem_cons.1 hp with rfl| hp
       ·exact hM _ (List.mem_cons_self ..)
       ·exact ih (fun x hx=>hM x (List.mem_cons_of_mem _ hx)) p hp
    exact key g3 p hp
   have cont:∀(es':Array MapEntry) (n':Nat),es'.toList.map (fun m=>(m.key,m.val))=(Zgc M n b).map (fun p=>(Value.int .i64 p.1,Value.bool p.2))->ZgJ e σ' w [.mc (.ib (Zgc M n b))] (some (.map es' n')):=fun es' n' h1=>
    .inr ⟨.ib (Zgc M n b),es',n',rfl,rfl,by rw [h1];simp [MD.es,Zs1,ZdR,Function.comp_def],fun p hp=>by
     obtain ⟨q,hq,rfl⟩:=List.mem_map.1 hp;exact ⟨okn q hq,trivial⟩⟩
   rcases Zgm (n:=n) 0 g2 with ⟨b0,j,r1,r2,⟨x0,r3,r4⟩,r5⟩| ⟨r1,r2,r5⟩
   ·have hf:=MapKept.run_findKey (P:=P) (w:=w) q4 r2;have hj:es[j]? =some x0:=by simpa using r3
    have hks:(Instr.keyThatStays (.int .i64 n) (.int .i64 n)).run P w= .ok (.int .i64 n) w:=MapKept.run_keyThatStays (d:=.int .i64) rfl;refine ⟨_,e,.inr ⟨by simp [execOp,Instr.mapUpdate,hmv,hkv.1,hbv.1,run_underlying q1,ho,hck,hf,hj,r4,hks,hst,Result.andThen,Sem.run_bind];rfl,h.setObj (kk.bx k _ hb) (cont _ _ ?_)⟩⟩;rw [Array.toList_modify];exact r5 b _ fun x=>⟨rfl,rfl⟩
   ·have hf:=MapKept.run_findKey (P:=P) (w:=w) q4 r2;refine ⟨_,e,.inr ⟨by simp [execOp,Instr.mapUpdate,hmv,hkv.1,hbv.1,run_underlying q1,ho,hck,hf,hst,Result.andThen,Sem.run_bind];rfl,h.setObj (kk.bx k _ hb) (cont _ _ ?_)⟩⟩;simp [r5,g2]
  ·exact hx.elim
 ·exact hx.elim
end
def ZqU:List L->Value
 | [x]=>ZdR x
 | _=>undef
def KN (es:List (List L)):List Value:=es.map ZqU
def Zvs (P:Program) (f:Nat) (us us':List Value):Prop:=Wx P f=true/\us'.length=us.length/\∀(w:World) (p:Option Addr) (c:Nat),
 (us=[]->Calls P f #[.slice p 0 c] w fun ex w'=>ex= .returned (.tuple #[])/\w'=w)/\
 ∀b cur t,p=some ⟨b,0,none⟩->w.heap[b]? =some (.cells cur t (0,0))->us.length<=cur.size->cur.toList.take us.length=us->
  Calls P f #[.slice p us.length c] w fun ex w'=>ex= .returned (.tuple #[])/\w.grownBy w' (some b)/\∃cur':Array Value,w'.heap[b]? =some (.cells cur' t (0,0))/\cur'.size=cur.size/\cur'.toList.take us.length=us'
section
variable {e:Env} {σ:St} {w w':World} {N:Nat->Prop} {w0:Bs} {a:Act} {P:Program} {ops:Array Oper}
theorem Zpy {M:Nat->Prop} {x:List L} {v:List Value} {F:List Nat} (h:RpL w x v F) (hf:ZeK x=true) (hl:x.length=1):v=[ZqU x]/\∀w',OwL M w' x v []:=by
 match x,hl with
 | [y],_=>
  simp only [RpL] at h;obtain ⟨u,_,G1,_,rfl,rfl,k3,rfl,rfl⟩:=h;have hy:y.flat=true:=by simpa [ZeK] using hf
  have hu:u=ZdR y:=by
   cases y<;>simp only [Rp,L.flat] at k3 hy
   ·exact k3.1
   ·exact k3.1
   ·exact k3.1
   ·cases hy
   ·cases hy
  refine ⟨by rw [hu];rfl,fun w'=> ?_⟩;simp only [OwL];refine ⟨u,[],[],[],rfl,rfl, ?_,rfl,rfl⟩;cases y<;>simp only [Rp,Ow,L.flat] at k3 hy ⊢
  ·exact ⟨k3.1,trivial,k3.2.2⟩
  ·exact ⟨k3.1,trivial⟩
  ·exact ⟨k3.1,trivial,k3.2.2⟩
  ·cases hy
  ·cases hy
theorem Zlk {M:Nat->Prop}:∀{es:List (List L)} {vs:List Value} {F:List Nat},RpE w es vs F->Vs es=true->(∀e∈es,e.length=1)->vs=KN es/\∀x∈es,∀w',OwL M w' x [ZqU x] []
 | [],vs,F,h,_,_=>by simp only [RpE] at h;simp [h.1,KN]
 | e::es,vs,F,h,hf,h1=>by
  simp only [RpE] at h;obtain ⟨v1,v2,F1,F2,rfl,rfl,k1,k2⟩:=h;simp only [Vs,List.all_cons,Zwj] at hf;obtain ⟨g1,g2⟩:=Zpy (M:=M) k1 hf.1 (h1 e (by simp));obtain ⟨g3,g4⟩:=Zlk (M:=M) k2 hf.2 fun e he=>h1 e (by simp [he]);refine ⟨by rw [g1,g3];rfl,fun x hx w'=> ?_⟩;rcases List.mem_cons.1 hx with rfl| hx
  ·exact g1▸g2 w'
  ·exact g4 x hx w'
theorem ZlT {M:Nat->Prop}:∀{es:List (List L)},(∀x∈es,OwL M w x [ZqU x] [])->OwE M w es (KN es) []
 | [],_=>by simp [OwE,KN]
 | x::es,h=>by
  simp only [OwE];exact ⟨_,KN es,[],[],rfl,rfl,h x (by simp),ZlT fun y hy=>h y (by simp [hy])⟩
def tmT (dst:Option Nat):List (Nat×V):=match dst with | some d=>[(d,.tup [])]| none=>[]
theorem ZgI.sort {f:Nat} {dst:Option Nat} {τ n:Nat} {A:Arr} {es':List (List L)} (hA:σ.ar.lookup τ=some (some A)) (hn:A.es.length=n) (hd:∀d,dst=some d->d<σ.nt) (hτ:τ<1000000) (hf:Vs A.es=true) (h1:∀e∈A.es,e.length=1) (hm:∀x∈es',x∈A.es)
  (c:Zvs P f (KN A.es) (KN es')):ZgI P σ dst f [.one (.own τ n)] ⟨True,tmT dst,[],[(τ,some ⟨A.fr,es'⟩)]⟩:=by
 obtain ⟨hok,hlen,hc⟩:=c;have hl:es'.length=A.es.length:=by simpa [KN] using hlen
 refine ⟨hok,fun p hp=>by unfold tmT at hp;split at hp<;>simp at hp;rw [hp],fun σ' k N w0 e a w us h hus hv=> ?_⟩;have hA':=k.ar τ _ hA;obtain ⟨u,hu,B,hB,q1,q2⟩:=hv 0 _ rfl;rw [hA'] at hB;obtain rfl:=Zwf hB;have hue:=(q1 A rfl).2 hn;subst hue
 obtain rfl:us=[e.ρ τ]:=by
  match us,hus,hu with
  | [x],_,hu=>simpa using hu
 have hok0:=h.ar τ A hA'
 have fin:∀(w':World) (row:Option Nat),w.grownBy w' row->(∀b,row=some b->(e.ρ τ).ownBlock=some b)->Ve N (Mut (ZbE e τ (e.ρ τ) (e.φ τ)) (stA σ' (tmT dst++σ'.tm) τ ⟨A.fr,es'⟩ [])) w' ⟨A.fr,es'⟩ (e.ρ τ) (e.φ τ)->
   ZC N w0 (ZbE e τ (e.ρ τ) (e.φ τ)) (σ'.app ⟨True,tmT dst,[],[(τ,some ⟨A.fr,es'⟩)]⟩) (a.put dst (.tuple #[])) w':=fun w' row hg hr hok=>by
  refine h.Zju (τs:=[]) (tm:=tmT dst++σ'.tm) hτ (by simp) (by simp) hg (fun b hb=>⟨A,hA',hr b hb⟩) (fun C hC=>by rw [hA'] at hC;obtain rfl:=Zwf hC;exact ⟨A,rfl,by simp [hl],fun _=>rfl⟩) (fun b hb=>.inl ⟨A,hA',hb⟩) (fun b hb=>.inl ⟨A,hA',hb⟩) hok (by rw [Yn];exact h.nt) (by rw [ZV];exact h.df) fun u t x ht=> ?_;cases dst with
  | none=>exact .inl ⟨ht,rfl⟩
  | some d=>
   refine JC (x:=.tup []) (by rw [h.nt,k.nt];exact hd d rfl) ⟨[],rfl, ?_⟩ t x ht;simp [Yl]
 obtain ⟨p,cc,hv,hcc,g0⟩:=hok0;rcases g0 with ⟨g1,g2,g3,g4⟩| ⟨b,t,cur,Fs,W,g1,g2,g3,g4,g5,g6,g7,g8⟩
 ·have he':es'=[]:=List.eq_nil_of_length_eq_zero (by rw [hl,g1];rfl);have hn0:n=0:=by rw [<-hn,g1];rfl
  rw [hv,g1];refine ((hc w p cc).1 (by rw [g1];rfl)).mono fun ex w' hR=> ?_;obtain ⟨rfl,hw⟩:=hR;have hw:=hw.symm;subst hw;refine ⟨_,_,rfl,fin w none ⟨rfl,rfl,rfl,Zwk _,fun _ _ _=>rfl⟩ (fun _ h=>by cases h) ⟨p,cc,by rw [hv,he',g1],hcc,.inl ⟨he',g2,g3,g4⟩⟩⟩
 ·have hW:A.es≠[]->W=1:=fun hne=>by
   obtain ⟨x,l,hx⟩:=List.exists_cons_of_ne_nil hne;have:=g6 x (by rw [hx];simp);rw [<-this];exact h1 x (by rw [hx];simp)
  by_cases hne:A.es=[]
  ·have he':es'=[]:=List.eq_nil_of_length_eq_zero (by rw [hl,hne];rfl);rw [hv,hne];refine ((hc w p cc).1 (by rw [hne];rfl)).mono fun ex w' hR=> ?_;obtain ⟨rfl,hw⟩:=hR;have hw:=hw.symm;subst hw;have hh:=fin w none ⟨rfl,rfl,rfl,Zwk _,fun _ _ _=>rfl⟩ (fun _ h=>by cases h) ⟨p,cc,by rw [hv,he',hne],hcc,.inr ⟨b,t,cur,Fs,W,g1,g2,g3,by rw [he'];simp,g5,by rw [he'];simp,fun _=>g7 hne, ?_⟩⟩
   ·exact ⟨_,_,rfl,hh⟩
   ·rcases g8 with ⟨m1,m2,m3,m4⟩| ⟨m1,m2,m3,m4⟩
    ·refine .inl ⟨m1,m2,m3, ?_⟩;rw [hne] at m4;rw [he'];exact m4
    ·refine .inr ⟨m1,m2, ?_,fun x hx hmm=> ?_⟩
     ·rw [hne] at m3;rw [he'];exact m3
     ·have:Fs=[]:=by rw [hne] at m3;simp only [List.length_nil,Nat.zero_mul,List.take_zero,RpE] at m3;exact m3.2
      rw [this] at hx;cases hx
  ·obtain rfl:=hW hne;subst g1
   have hrp:∃Fs',RpE w A.es (cur.toList.take (A.es.length*1)) Fs':=by
    rcases g8 with ⟨_,_,_,m4⟩| ⟨_,_,m3,_⟩
    ·exact ⟨_,m4.rp⟩
    ·exact ⟨_,m3⟩
   obtain ⟨Fs',hrp⟩:=hrp;obtain ⟨v1,v2⟩:=Zlk (M:=N) hrp hf h1;rw [Nat.mul_one] at v1;have hvl:(KN A.es).length=A.es.length:=by simp [KN]
   have hcall:=(hc w (some ⟨b,0,none⟩) cc).2 b cur t rfl g3 (by rw [hvl,g5,Nat.mul_one];exact g4) (by rw [hvl];exact v1);rw [hvl] at hcall;rw [hv];refine hcall.mono fun ex w' hR=> ?_;obtain ⟨rfl,r1,cur',r2,r3,r4⟩:=hR
   have hFs:Fs=[]:=by
    rcases g8 with ⟨_,_,_,m4⟩| ⟨_,_,m3,_⟩
    ·exact (m4.rp.flat (N:=N) hf).1
    ·exact (m3.flat (N:=N) hf).1
   subst hFs
   have how:OwE N w' es' (cur'.toList.take (es'.length*1)) []:=by
    rw [Nat.mul_one,hl,r4];exact ZlT fun x hx=>v2 x (hm x hx) w'
   refine ⟨_,_,rfl,fin w' (some b) r1 (fun b' hb'=>by rw [hv];obtain rfl:=Zwf hb';rfl) ⟨_,cc,by rw [hv,hl],hcc,.inr ⟨b,t,cur',[],1,rfl,g2,r2,by rw [hl];exact g4,by rw [r3];exact g5,fun x hx=>h1 x (hm x hx),fun h0=>absurd (List.eq_nil_of_length_eq_zero (by rw [<-hl];exact congrArg List.length h0)) hne, ?_⟩⟩⟩;rcases g8 with ⟨m1,m2,m3,m4⟩| ⟨m1,m2,m3,m4⟩
   ·exact .inl ⟨m1,m2,m3,how⟩
   ·exact .inr ⟨m1,m2,how.rp,by simp⟩
def ZsR (σ:St) (dst:Option Nat) (es':List (List L)) (Z:Eff->Prop) (es:List (List L)) (τ n:Nat):Option (Option Arr)->Prop
 | some (some A)=>A.es=es/\es.length=n/\dO σ.nt dst/\τ<1000000/\Z ⟨True,tmT dst,[],[(τ,some ⟨A.fr,es'⟩)]⟩
 | _=>False
def ZsQ (σ:St) (dst:Option Nat) (es':List (List L)) (Z:Eff->Prop) (es:List (List L)):List V->Prop
 | [.one (.own τ n)]=>ZsR σ dst es' Z es τ n (σ.ar.lookup τ)
 | _=>False
def SS (P:Program) (f:Nat) (es es':List (List L)):Prop:=Zvs P f (KN es) (KN es')/\Vs es=true/\(∀e∈es,e.length=1)/\∀x∈es',x∈es
theorem ZqF {f:Nat} {dst:Option Nat} {vs:List V} {es es':List (List L)} {Z:Eff->Prop} (c:SS P f es es') (hx:ZsQ σ dst es' Z es vs):XBy P σ dst f (some vs) Z:=by
 unfold ZsQ at hx
 split at hx
 ·rename_i τ n;unfold ZsR at hx
  split at hx
  ·rename_i A hA;obtain ⟨rfl,k1,k2,k3,k4⟩:=hx;exact ⟨_,_,rfl,.hand _ (ZgI.sort hA k1 (fun d hd=>by subst hd;exact k2) k3 c.2.1 c.2.2.1 c.2.2.2 c.1),k4⟩
  ·exact hx.elim
 ·exact hx.elim
end
end Go.Proofs.YtbkllghhcphkaaaGreatDoor.Am
namespace Go.Proofs.YtbkllghhcphkaaaGreatDoor
open Go.RowKit Am
def toL (s:ByteArray):List UInt8:=s.data.toList
def ofL (l:List UInt8):ByteArray:=⟨l.toArray⟩
theorem Ziv (s:ByteArray):ofL (toL s)=s:=by simp [ofL,toL]
theorem Zh6 (l:List UInt8):toL (ofL l)=l:=by simp [ofL,toL]
def Zg2 (xs:List ByteArray):List ByteArray:=((xs.map toL).mergeSort (fun x y=>decide (x<=y))).map ofL
def Zic (xs:List Int):List Int:=xs.mergeSort (fun x y=>decide (x<=y))
def Xe (xs:List ByteArray):Option (List ByteArray):=if xs.length<4611686018427387904 then some (Zg2 xs) else none
def WT (xs:List Int):Option (List Int):=if xs.length<4611686018427387904 then some (Zic xs) else none
theorem ZaI (xs:List ByteArray):(Zg2 xs).Perm xs:=by
 have h:=(List.mergeSort_perm (xs.map toL) (fun x y=>decide (x<=y))).map ofL;rw [List.map_map] at h;have:(ofL∘toL)=id:=funext fun s=>Ziv s;rw [this,List.map_id] at h;exact h
theorem Us (xs:List Int):(Zic xs).Perm xs:=List.mergeSort_perm _ _
theorem Jx {xs v:List ByteArray} (h:Xe xs=some v):v=Zg2 xs:=by
 unfold Xe at h
 split at h
 ·exact (Zwf h).symm
 ·cases h
theorem Za0 {xs v:List Int} (h:WT xs=some v):v=Zic xs:=by
 unfold WT at h
 split at h
 ·exact (Zwf h).symm
 ·cases h
theorem ZbH {xs v:List ByteArray} (h:Xe xs=some v):v.length=xs.length:=by
 rw [Jx h];exact (ZaI xs).length_eq
theorem Zd0 {xs v:List Int} (h:WT xs=some v):v.length=xs.length:=by
 rw [Za0 h];exact (Us xs).length_eq
end Go.Proofs.YtbkllghhcphkaaaGreatDoor
namespace Go.Proofs.YtbkllghhcphkaaaGreatDoor.Am
open Go.RowKit
abbrev Ty {p:Prop} (_:p):Prop:=p
class HC (f:Nat) (T:outParam Prop):Prop where h:T
def oI (n:Int):V:=.one (.l (.int .i64 n))
def oB (b:Bool):V:=.one (.l (.bool b))
def oS (s:ByteArray):V:=.one (.l (.str s))
def oL {α:Type} (c:α->List L) (xs:List α):V:=.one (.l (.sl (xs.map c)))
def oO (τ n:Nat):V:=.one (.own τ n)
def bT (ls:List L):List CV:=ls.map CV.l
def cI (n:Int):CV:=.l (.int .i64 n)
def cS (s:ByteArray):CV:=.l (.str s)
def cL {α:Type} (c:α->List L) (xs:List α):CV:=.l (.sl (xs.map c))
def aT {α:Type} (c:α->List L) (xs:List α):Option Arr:=some ⟨true,xs.map c⟩
def aF {α:Type} (c:α->List L) (xs:List α):Option Arr:=some ⟨false,xs.map c⟩
def pk {α:Type} (l:List (Nat×α)):List Nat->List (Nat×α)
 | []=>[]
 | t::ts=>match l.lookup t with | some v=>(t,v)::pk l ts| none=>pk l ts
def pkO {α:Type} (l:List (Nat×α)) (ts:List Nat) (t:Nat):Option α->List (Nat×α)
 | some v=>(t,v)::pk l ts
 | none=>pk l ts
theorem ZrE {α:Type} (l:List (Nat×α)):pk l []=[]:=rfl
theorem Zpu {α:Type} (l:List (Nat×α)) (t:Nat) (ts:List Nat):pk l (t::ts)=pkO l ts t (l.lookup t):=by
 rw [pk];cases l.lookup t<;>rfl
def St.of (σ:St) (ts ks τs:List Nat) (ch:List (Nat×V)) (cb:List (Nat×List CV)) (ca:List (Nat×Option Arr)):St:=⟨σ.nt,ch++pk σ.tm ts,cb++pk σ.bx ks,ca++pk σ.ar τs⟩
attribute [go_sem] oI oB oS oL oO cI cS cL bT aT aF ZrE Zpu pkO St.of
structure Wt (p:Prop):Prop where
 h:p
theorem wt {p:Prop} (h:p):Wt p:=⟨h⟩
section
variable {P:Program} {ops:Array Oper} {σ σ':St} {K:St->Prop} {o:Oper} {rest:List Oper} {b want:Bool}
theorem gd {ρ:Type} {b':Bool} {A B r:ρ} (hM:(if b=true then A else B)=r) (ht:b=true->A=r->Wt (Vr P ops o rest σ K want (some b'))) (hf:b=false->B=r->Wt (Vr P ops o rest σ K want (some b'))):Vr P ops o rest σ K want (some b'):=by
 cases b
 ·exact (hf rfl (by simpa using hM)).h
 ·exact (ht rfl (by simpa using hM)).h
end
section
variable {P:Program} {N:Nat->Prop} {w0:Bs} {Q:Exit->St->Prop} {x y:Code} {σ σ':St} {K:St->Prop}
theorem hsq (hK:∀σ,AW P N w0 y Q σ->K σ) (h:AW P N w0 y Q σ):K σ:=hK σ h
theorem fs {ι:Type} {S:ι->St} {I:ι->Prop} (hK:∀i σ',I i->Zdz (S i) σ'->K σ') {i:ι} (hi:I i) (h:Zbk (S i) σ:=by constructor<;>simp [go_sem,F]<;>omega):K σ:=hK i σ hi h.into
theorem fs2 {α β:Type} {S:α×β->St} {I:α×β->Prop} {J:α->β->Prop} (hK:∀i σ',I i->Zdz (S i) σ'->K σ') (hJ:∀a b,J a b->I (a,b)) {a:α} {b:β} (hi:J a b) (h:Zbk (S (a,b)) σ:=by constructor<;>simp [go_sem,F]<;>omega):K σ:=hK _ σ (hJ _ _ hi) h.into
theorem fs3 {α β γ:Type} {S:α×β×γ->St} {I:α×β×γ->Prop} {J:α->β->γ->Prop} (hK:∀i σ',I i->Zdz (S i) σ'->K σ') (hJ:∀a b c,J a b c->I (a,b,c)) {a:α} {b:β} {c:γ} (hi:J a b c) (h:Zbk (S (a,b,c)) σ:=by constructor<;>simp [go_sem,F]<;>omega):K σ:=hK _ σ (hJ _ _ _ hi) h.into
theorem fs4 {α β γ δ:Type} {S:α×β×γ×δ->St} {I:α×β×γ×δ->Prop} {J:α->β->γ->δ->Prop} (hK:∀i σ',I i->Zdz (S i) σ'->K σ') (hJ:∀a b c d,J a b c d->I (a,b,c,d)) {a:α} {b:β} {c:γ} {d:δ} (hi:J a b c d) (h:Zbk (S (a,b,c,d)) σ:=by constructor<;>simp [go_sem,F]<;>omega):K σ:=hK _ σ (hJ _ _ _ _ hi) h.into
theorem fs5 {α β γ δ ε:Type} {S:α×β×γ×δ×ε->St} {I:α×β×γ×δ×ε->Prop} {J:α->β->γ->δ->ε->Prop} (hK:∀i σ',I i->Zdz (S i) σ'->K σ') (hJ:∀a b c d f,J a b c d f->I (a,b,c,d,f)) {a:α} {b:β} {c:γ} {d:δ} {f:ε} (hi:J a b c d f) (h:Zbk (S (a,b,c,d,f)) σ:=by constructor<;>simp [go_sem,F]<;>omega):K σ:=hK _ σ (hJ _ _ _ _ _ hi) h.into
theorem fs7 {α β γ δ ε ζ η:Type} {S:α×β×γ×δ×ε×ζ×η->St} {I:α×β×γ×δ×ε×ζ×η->Prop} {J:α->β->γ->δ->ε->ζ->η->Prop} (hK:∀i σ',I i->Zdz (S i) σ'->K σ') (hJ:∀a b c d f g u,J a b c d f g u->I (a,b,c,d,f,g,u)) {a:α} {b:β} {c:γ} {d:δ} {f:ε} {g:ζ} {u:η} (hi:J a b c d f g u) (h:Zbk (S (a,b,c,d,f,g,u)) σ:=by constructor<;>simp [go_sem,F]<;>omega):K σ:=hK _ σ (hJ _ _ _ _ _ _ _ hi) h.into
theorem fs8 {α β γ δ ε ζ η θ:Type} {S:α×β×γ×δ×ε×ζ×η×θ->St} {I:α×β×γ×δ×ε×ζ×η×θ->Prop} {J:α->β->γ->δ->ε->ζ->η->θ->Prop} (hK:∀i σ',I i->Zdz (S i) σ'->K σ') (hJ:∀a b c d f g u v,J a b c d f g u v->I (a,b,c,d,f,g,u,v)) {a:α} {b:β} {c:γ} {d:δ} {f:ε} {g:ζ} {u:η} {v:θ} (hi:J a b c d f g u v) (h:Zbk (S (a,b,c,d,f,g,u,v)) σ:=by constructor<;>simp [go_sem,F]<;>omega):K σ:=hK _ σ (hJ _ _ _ _ _ _ _ _ hi) h.into
theorem ZsL {o:Operand} (h:AW P N w0 y Q σ) (ho:opd σ o=some (.one (.l (.bool false))):=by first | (simp [go_sem,F];done)| fail):AW P N w0 (.cond o x y) Q σ:=Zjb ho (fun h=>nomatch h) (fun _=>h)
theorem S1 {id:Nat} {l:List Oper} (h:AW P N w0 y Q σ') (ho:∀K:St->Prop,K σ'->Z5 P l.toArray l σ K:=by intro K h;simp (maxSteps:=9999999) [go_sem,F];exact h):AW P N w0 (.seq (.region id l.toArray false) y) Q σ:=Zs fun K hK=>ho K (hK _ h)
theorem le1 (ts ks τs:List Nat) (h:AW P N w0 x Q σ') (ch:List (Nat×V):=[]) (cb:List (Nat×List CV):=[]) (ca:List (Nat×Option Arr):=[]) (e:σ.of ts ks τs ch cb ca=σ':=by simp [go_sem];exact rfl) (k:Zbk σ' σ:=by constructor<;>simp [go_sem,F]<;>omega):AW P N w0 x Q σ:=ZaF k.into h
theorem mj {ι ρ:Type} (ts ks τs:List Nat) (ch:ι->List (Nat×V)) {m:Option ι} {g:ι->Option ρ} {r:ρ} {S:ι->St} (hM:m.bind g=some r) (hx:∀e,m=some e->∀K:St->Prop,(∀i σ',i=e->Zdz (S i) σ'->K σ')->AW P N w0 x (ZfP K Q) σ) (hy:∀i,g i=some r->AW P N w0 y Q (S i))
  (cb:ι->List (Nat×List CV):=fun _=>[]) (ca:ι->List (Nat×Option Arr):=fun _=>[]) (e:∀i,σ.of ts ks τs (ch i) (cb i) (ca i)=S i:=by intro i;simp [go_sem];exact rfl):AW P N w0 (.seq x y) Q σ:=by
 obtain ⟨v,h1,h2⟩:=bind_some hM;exact Zm1 S (fun i=>i=v) (hx v h1) (fun i hi=>hy i (hi▸h2))
theorem mjE {ι κ ρ:Type} (ts ks τs:List Nat) (ch:ι->List (Nat×V)) {m:Option (ι ⊕ κ)} {g:ι ⊕ κ->Option ρ} {r:ρ} {S:ι->St} (hM:m.bind g=some r) (hx:∀e,m=some e->g e=some r->∀K:St->Prop,(∀i σ',.inl i=e->Zdz (S i) σ'->K σ')->AW P N w0 x (ZfP K Q) σ) (hy:∀i,g (.inl i)=some r->AW P N w0 y Q (S i))
  (cb:ι->List (Nat×List CV):=fun _=>[]) (ca:ι->List (Nat×Option Arr):=fun _=>[]) (e:∀i,σ.of ts ks τs (ch i) (cb i) (ca i)=S i:=by intro i;simp [go_sem];exact rfl):AW P N w0 (.seq x y) Q σ:=by
 obtain ⟨v,h1,h2⟩:=bind_some hM;exact Zm1 S (fun i=>.inl i=v) (hx v h1 h2) (fun i hi=>hy i (by rw [hi];exact h2))
theorem lp {ι:Type} (ts ks τs:List Nat) (ch:ι->List (Nat×V)) (I:Nat->ι->Prop) (n0:Nat) (i0:ι) {S:ι->St} (h0:I n0 i0) (hz:∀i,¬I 0 i)
  (body:∀(KL:St->Prop) (n:Nat) (i:ι),(∀i' σ',I n i'->Zdz (S i') σ'->KL σ')->I (n+1) i->True->AW P N w0 x (ZfP KL Q) (S i)) (cb:ι->List (Nat×List CV):=fun _=>[]) (ca:ι->List (Nat×Option Arr):=fun _=>[])
  (e:∀i,σ.of ts ks τs (ch i) (cb i) (ca i)=S i:=by intro i;simp [go_sem];exact rfl) (hk:Zbk (S i0) σ:=by constructor<;>simp [go_sem,F]<;>omega):AW P N w0 (.loop x) Q σ:=
 Zu3 S I n0 i0 h0 hz body hk
theorem qI {f:Nat} {ds ds':List DV} {fr pu:Bool} {rs:List DV} {X:Bool->Bool->List DV->Prop} {Y:Prop} {T:Prop} [i:HC f T] {α:Type} {m:Option α} {z:α} (e:m=some z) (hx:Wt (X fr false rs)) (h:T->m=some z->Ctr P f ds fr rs:=by intro h e;apply h;exact e) (hd:ds'=ds:=by first | (simp [go_sem,F];done)| fail) (hp:fr=false->pu=true:=by first | exact fun _=>rfl| (intro h;contradiction)):Ze3 P f ds' pu X Y:=
 ZoT false (h i.h e) hd hp hx.h
theorem qP {f:Nat} {dst:Option Nat} {vs:List V} {d1 d2:List DV} {ls ls':List L} {fr:Bool} {rs:List DV} {Z:Eff->Prop} {T:Prop} [i:HC f T] {α:Type} {m:Option α} {z:α} (e:m=some z) (hx:Wt (ZsT σ dst d1.length d1 ls d2 fr rs ls' Z (ZgK σ d1.length vs))) (h:T->m=some z->Zbj P f d1 ls d2 fr rs ls':=by intro h e;apply h;exact e):XBy P σ dst f (some vs) Z:=
 ZA _ (h i.h e) hx.h
theorem qV {f:Nat} {dst:Option Nat} {vs:List V} {ds':List DV} {pu:Bool} {X:Bool->Bool->List DV->Prop} {es es':List (List L)} {Z:Eff->Prop} {T:Prop} [i:HC f T] {α:Type} {m:Option α} {z:α} (e:m=some z) (hx:Wt (ZsQ σ dst es' Z es vs)) (h:T->m=some z->SS P f es es':=by intro h e;apply h;exact e):Ze3 P f ds' pu X (XBy P σ dst f (some vs) Z):=.inr (ZqF (h i.h e) hx.h)
section
variable {d f k τ n:Nat} {Z:Eff->Prop} {dst:Option Nat} {b ok:Bool} {m:Int}
theorem Zuj {ks:List Nat}:fnK σ d f Z (some ks)=(d<σ.nt/\Z ⟨True,[(d,.one (.clo f ks))],[],[]⟩):=rfl
theorem ZqK:ZhJ []=some []:=rfl
theorem ZqJ {vs:List V}:ZhJ (.one (.box k 0)::vs)=(ZhJ vs).map (k:: ·):=rfl
theorem Zsr {ks:List Nat} {vs:List V}:Zur P σ dst Z (some (.one (.clo f ks))) (some vs)=ZsK P σ dst f (vs++ks.map fun k=>.one (.box k 0)) Z:=rfl
theorem ZpR {x y:Nat} {z:List Value}:ZpS σ d ok Z (some (⟨.int .i64,x,y,z⟩,.bool false)) (some (.one (.mp k))) (some (.one (.l (.int .i64 m))))=ZnK σ d ok Z m (σ.bx.lookup k):=rfl
theorem ZpT {M:List (Int×Bool)}:ZnK σ d ok Z m (some [.mc (.ib M)])=(d<σ.nt/\Z (Zl1 d ok (Zge M m))):=rfl
theorem ZpQ {r:Option Bool}:Zl1 d true r=⟨True,[(d,.tup [(false,[.l (.bool (r.getD false))]),(false,[.l (.bool r.isSome)])])],[],[]⟩:=rfl
theorem ZpP {r:Option Bool}:Zl1 d false r=⟨True,[(d,.one (.l (.bool (r.getD false))))],[],[]⟩:=rfl
theorem ZpN:ZpO σ d Z none=(d<σ.nt/\Z ⟨True,[(d,.one (.mp d))],[(d,[.mc (.ib [])])],[]⟩):=rfl
theorem Zq9 {x y:Nat} {z:List Value} {v:Value}:Zte σ Z (some (⟨.int .i64,x,y,z⟩,v)) (some (.one (.mp k))) (some (.one (.l (.int .i64 m)))) (some (.one (.l (.bool b))))=ZsN σ k Z m b (σ.bx.lookup k):=rfl
theorem Zra {M:List (Int×Bool)}:ZsN σ k Z m b (some [.mc (.ib M)])=Z ⟨True,[],[(k,[.mc (.ib (Zgc M m b))])],[]⟩:=rfl
theorem ZtR {x y:Nat} {z:List Value} {ks:List Nat}:nfK σ d .eql Z (some ⟨.fn,x,y,z⟩) (some (.one (.clo f ks)))=(d<σ.nt/\Z ⟨True,[(d,.one (.l (.bool false)))],[],[]⟩):=rfl
theorem ZtQ {x y:Nat} {z:List Value} {ks:List Nat}:nfK σ d .neq Z (some ⟨.fn,x,y,z⟩) (some (.one (.clo f ks)))=(d<σ.nt/\Z ⟨True,[(d,.one (.l (.bool true)))],[],[]⟩):=rfl
theorem ZtP {x y:Nat} {z:List Value}:nfK σ d .eql Z (some ⟨.fn,x,y,z⟩) (some (.one .nf))=(d<σ.nt/\Z ⟨True,[(d,.one (.l (.bool true)))],[],[]⟩):=rfl
theorem ZtO {x y:Nat} {z:List Value}:nfK σ d .neq Z (some ⟨.fn,x,y,z⟩) (some (.one .nf))=(d<σ.nt/\Z ⟨True,[(d,.one (.l (.bool false)))],[],[]⟩):=rfl
theorem Zrl {es es':List (List L)}:ZsQ σ dst es' Z es [.one (.own τ n)]=ZsR σ dst es' Z es τ n (σ.ar.lookup τ):=rfl
theorem Zrm {es es':List (List L)} {A:Arr}:ZsR σ dst es' Z es τ n (some (some A))=(A.es=es/\es.length=n/\dO σ.nt dst/\τ<1000000/\Z ⟨True,tmT dst,[],[(τ,some ⟨A.fr,es'⟩)]⟩):=rfl
theorem Zti:tmT (some d)=[(d,.tup [])]:=rfl
theorem Zth:tmT none=[]:=rfl
end
attribute [go_sem] ZrD Zuj ZqK ZqJ Zsr ZpR ZpT ZpQ ZpP ZpN Zq9 Zra ZtR ZtQ ZtP ZtO Zrl Zrm Zti Zth
end
def St.Znx:List (Nat×Nat)->St->St
 | [],σ=>σ
 | p::q,σ=>St.Znx q (σ.ren p.1 p.2)
def Zhd:List (Nat×Nat)->St->Prop
 | [],_=>True
 | p::q,σ=>(match σ.ar.lookup p.1 with | some (some _)=>True| _=>False)/\σ.ar.lookup p.2=none/\p.1<1000000/\p.2<1000000/\Zhd q (σ.ren p.1 p.2)
theorem Zb9:∀{q:List (Nat×Nat)} {σ:St},Zhd q σ->Zdz (St.Znx q σ) σ
 | [],_,_=>fun _ _ _ _ h=>h
 | p::q,σ,⟨h1,h2,h3,h4,h5⟩=>fun N w0 a w hs=>Zb9 h5 N w0 a w (Znw h1 h2 h3 h4 N w0 a w hs)
theorem fr {σ σ1:St} {ι:Type} {S:ι->St} {I:ι->Prop} {K:St->Prop} (hK:∀i σ',I i->Zdz (S i) σ'->K σ') (q:List (Nat×Nat)) (ts ks τs:List Nat) (i:ι) (hi:I i) (e:σ.of ts ks τs [] [] []=σ1:=by simp [go_sem];exact rfl) (h1:Zbk σ1 σ:=by constructor<;>simp [go_sem,F]<;>omega)
  (hA:Zhd q σ1:=by simp [go_sem,Zhd]) (h:Zbk (S i) (St.Znx q σ1):=by constructor<;>simp [go_sem,St.Znx,F]<;>omega):K σ:=hK i σ hi fun N w0 a w hs=>h.into N w0 a w (Zb9 hA N w0 a w (h1.into N w0 a w hs))
theorem Zj2 {P:Program} {σ:St} {f n:Nat} {dst:Option Nat} {ds ds' rs:List DV} {vs:List V} {pu:Bool} {X:Bool->Bool->List DV->Prop} {Z:Eff->Prop} (c:TC P f n ds rs) (hx:ZsO σ n ds rs Z vs dst):Ze3 P f ds' pu X (XBy P σ dst f (some vs) Z):=.inr (ZuP c hx)
theorem rr {P:Program} {N:Nat->Prop} {w0:Bs} {Q:Exit->St->Prop} {x:Code} {σ σ1:St} (th:List Nat) (q:List (Nat×Nat)) (ts ks τs:List Nat) (h:AW P N w0 x Q (St.Znx q (th.foldl St.ZdD σ1))) (ch:List (Nat×V):=[]) (cb:List (Nat×List CV):=[]) (ca:List (Nat×Option Arr):=[]) (e:σ.of ts ks τs ch cb ca=σ1:=by simp [go_sem];exact rfl) (h1:Zbk σ1 σ:=by constructor<;>simp [go_sem,F]<;>omega)
  (hT:Zde th σ1:=by simp [go_sem,Zde,St.ZdD]) (hA:Zhd q (th.foldl St.ZdD σ1):=by simp [go_sem,Zhd,St.ZdD]):AW P N w0 x Q σ:=ZaF h1.into (ZaF (ZbP hT) (ZaF (Zb9 hA) h))
theorem rn {Q:Exit->St->Prop} {K:St->Prop} {σ σ1:St} (hK:∀σ' σ'',Zdz σ'' σ'->Q .normal σ''->K σ') (th:List Nat) (q:List (Nat×Nat)) (ts ks τs:List Nat) (ch:List (Nat×V):=[]) (cb:List (Nat×List CV):=[]) (ca:List (Nat×Option Arr):=[]) (e:σ.of ts ks τs ch cb ca=σ1:=by simp [go_sem];exact rfl) (h1:Zbk σ1 σ:=by constructor<;>simp [go_sem,F]<;>omega)
  (hT:Zde th σ1:=by simp [go_sem,Zde,St.ZdD]) (hA:Zhd q (th.foldl St.ZdD σ1):=by simp [go_sem,Zhd,St.ZdD]) (h:Q .normal (St.Znx q (th.foldl St.ZdD σ1)):=by simp (maxSteps:=9999999) [go_sem,St.Znx,St.ZdD,F]):K σ:=hK σ _ (fun N w0 a w hs=>Zb9 hA N w0 a w (ZbP hT N w0 a w (h1.into N w0 a w hs))) h
theorem Zvn {α:Type} {xs:List α} {i:Int} {x:α} (h:at? xs i=some x):0<=i/\i<(xs.length:Int):=by
 have h1:=ZhY h;have h2:=(WZ h).1;omega
class Enc (α:Type) where c:α->List L
instance:Enc Int:=⟨iC⟩
instance:Enc ByteArray:=⟨sC⟩
instance:Enc Bool:=⟨bC⟩
@[go_sem] theorem Zuo:(Enc.c:Int->List L)=iC:=rfl
@[go_sem] theorem Zun:(Enc.c:ByteArray->List L)=sC:=rfl
@[go_sem] theorem Zs0:(Enc.c:Bool->List L)=bC:=rfl
theorem Zvo {α:Type} [Enc α] {xs:List α} {i:Int} {x:α} (h:at? xs i=some x):(xs.map Enc.c)[i.toNat]? =some (Enc.c x)/\∀h,(xs.map Enc.c)[i.toNat]'h=Enc.c x:=by
 refine ⟨by rw [List.getElem?_map,(Zda h).2.1];rfl,fun k=> ?_⟩;have:=(Zda h).2.2.2 (by simpa using k);rw [List.getElem_map,this]
theorem Zvm {α:Type} {xs:List α} {n:Nat} {i:Int} {x:α} (h:at? ((xs.take n).drop (1:Int).toNat) i=some x):xs[i.toNat+1]? =some x/\∀h,xs[i.toNat+1]'h=x:=by
 have h1:=(Zda h).2.1
 have h2:xs[i.toNat+1]? =some x:=by
  rw [show (1:Int).toNat=1 from rfl,List.getElem?_drop,Nat.add_comm] at h1;rw [List.getElem?_take] at h1
  split at h1
  ·exact h1
  ·cases h1
 exact ⟨h2,fun k=>(List.getElem?_eq_some_iff.1 h2).2⟩
@[go_sem] theorem Ztn (xs:List ByteArray):(∀e∈(xs.map sC).tail,e.length=1)↔True:=by
 simp only [iff_true];intro e he;obtain ⟨x,_,rfl⟩:=List.mem_map.1 (List.mem_of_mem_tail he)
 rfl
theorem Zit {α:Type} {c:α->List L} (hc:∀x,(c x).length=1) (xs:List α) (W:Nat):(∀e∈xs.map c,e.length=W)↔(xs=[]\/W=1):=by
 cases xs with
 | nil=>simp
 | cons x xs=>
  constructor
  ·intro h;exact .inr ((h (c x) (by simp)).symm.trans (hc x))
  ·rintro (h| rfl)
   ·cases h
   ·intro e he;obtain ⟨b,_,rfl⟩:=List.mem_map.1 he;exact hc b
@[go_sem ↓ high] theorem Zvl (xs:List Bool) (W:Nat):(∀e∈xs.map bC,e.length=W)↔(xs=[]\/W=1):=Zit (fun _=>rfl) xs W
@[go_sem ↓ high] theorem Zve (xs:List Int) (W:Nat):(∀e∈xs.map iC,e.length=W)↔(xs=[]\/W=1):=Zit (fun _=>rfl) xs W
@[go_sem ↓ high] theorem Zu8 (xs:List ByteArray) (W:Nat):(∀e∈xs.map sC,e.length=W)↔(xs=[]\/W=1):=Zit (fun _=>rfl) xs W
@[go_sem ↓ high] theorem ZuX (xs ys:List (List L)) (W:Nat):(∀e∈xs++ys,e.length=W)↔(∀e∈xs,e.length=W)/\∀e∈ys,e.length=W:=List.forall_mem_append
@[go_sem ↓ high] theorem Zs3 (x:List L) (ys:List (List L)) (W:Nat):(∀e∈x::ys,e.length=W)↔x.length=W/\∀e∈ys,e.length=W:=List.forall_mem_cons
@[go_sem] theorem ZsI (n:Nat) (es:List (List L)) (h:es.all ZeK=true):(es.drop n).all ZeK=true:=by
 rw [List.all_eq_true] at h ⊢;exact fun x hx=>h x (List.mem_of_mem_drop hx)
theorem ZrY {α:Type} {xs:List α} {i:Int} {K:Prop} (h:∃x,at? xs i=some x) (k:K):i<(xs.length:Int)/\K:=⟨(Zvn h.choose_spec).2,k⟩
theorem nm {Φ b c:Prop} (F:Φ) (h:b) (g:b->c:=by intro h;(try simp [go_sem] at h);exact h):Φ/\b/\c:=⟨F,h,g h⟩
theorem nf {Φ b c:Prop} (F:Φ) (h:b) (g:b->c:=by intro h;(try simp at h);exact h):Φ/\b/\c:=⟨F,h,g h⟩
theorem au {p:Prop} (h:p:=by
 repeat' (first
  | (obtain ⟨x,e,hM⟩:=bind_some hM
     first
     | (have q:=Zvm e;have F:=Zwg F (Zwg q (WZ e)))
     | (have q:at? (_::_) _=some _:=e;have F:=Zwg (Zwg (nm F (Zvo e)) (Zvn e)) (WZ e))
     | (have q:=WZ e;have q':=q;simp only [Array.getElem_toList,Array.getElem?_toList,Int.toNat_zero,Int.toNat_one,Int.reduceToNat] at q';have F:=Zwg F (Zwg q q'))
     | have F:=Zwg F (WZ e)
     | (have q:=nz_spec e;have q':=q;(try simp at q');have F:=Zwg F (Zwg q q'))
     | (obtain ⟨c,q⟩:=Z0 e;replace c:=c.symm;subst c;(try simp at q);have F:=Zwg F q)
     | (obtain ⟨c,q⟩:=Zoa e;replace c:=c.symm;subst c;(try simp [go_sem] at q);have F:=Zwg F q)
     | (obtain ⟨c,q⟩:=KW e;replace c:=c.symm;subst c;(try simp at q);have F:=Zwg F q)
     | (obtain ⟨c,q⟩:=ZbQ e;replace c:=c.symm;subst c;(try simp at q);have F:=Zwg F q)
     | (obtain ⟨c,q⟩:=cut_spec e;replace c:=c.symm;subst c;(try simp at q);have F:=Zwg F q)
     | (obtain ⟨c,q⟩:=cpy_spec e;replace c:=c.symm;subst c;(try simp at q);have F:=Zwg F q)
     | (obtain ⟨c,q⟩:=Zgd e;replace c:=c.symm;subst c;(try simp at q);have F:=Zwg F q))
  | (refine Zs (fun K hK=> ?_);simp (maxSteps:=9999999) [go_sem,F])
  | (obtain rfl:=si hM;refine Wz ?_;simp (maxSteps:=9999999) [go_sem,F];done)
  | (refine Wz ?_;simp (maxSteps:=9999999) [go_sem,F])
  | (refine Zc ?_)
  | (refine Zi ?_;simp (maxSteps:=9999999) [go_sem,St.Znx,St.ZdD,F];done)
  | (refine Zi ?_)
  | (refine Zja ?_)
  | (refine Zn hM (fun h hM=> ?_) (fun h hM=> ?_)<;>(have F:=nf F h)<;>(first | have F:=Zwg F (lT h)| have F:=Zwg F (lF h)| have F:=Zwg F (eT h)| have F:=Zwg F (eF h)| have F:=Zwg F (lT (nF h))| have F:=Zwg F (lF (nT h))| have F:=Zwg F (eT (nF h))| have F:=Zwg F (eF (nT h))| skip))
  | (refine gd hM (fun h hM=> ?_) (fun h hM=> ?_)<;>(have F:=nf F h)<;>(first | have F:=Zwg F (lT h)| have F:=Zwg F (lF h)| have F:=Zwg F (eT h)| have F:=Zwg F (eF h)| have F:=Zwg F (lT (nF h))| have F:=Zwg F (lF (nT h))| have F:=Zwg F (eT (nF h))| have F:=Zwg F (eF (nT h))| skip))
  | (refine wt ?_;simp (maxSteps:=9999999) [go_sem,F])
  | (refine ZqH ?_;simp (maxSteps:=9999999) [go_sem,F])
  | (refine Zj4 ?_;simp (maxSteps:=9999999) [go_sem,F])
  | (refine ZsD ?_;simp (maxSteps:=9999999) [go_sem,F])
  | (refine ZqG ?_;simp (maxSteps:=9999999) [go_sem,F])
  | (refine ZsC ?_;simp (maxSteps:=9999999) [go_sem,F])
  | (refine ZmG ?_;simp (maxSteps:=9999999) [go_sem,F])
  | (refine AW_ifT ?_)
  | (refine ZsL ?_)
  | (refine Zg (fun K hK=> ?_))
  | (obtain rfl:=si hM;refine Jn ?_;simp (maxSteps:=9999999) [go_sem,F];done)
  | (refine Jn ?_;simp (maxSteps:=9999999) [go_sem,St.Znx,St.ZdD,F];done)
  | (obtain rfl:=si hM;refine Jn ?_;simp (maxSteps:=9999999) [go_sem,F];omega)
  | (refine hsq (by assumption) ?_)
  | (refine ⟨by omega, ?_⟩)
  | (refine ZrY ⟨_,by assumption⟩ ?_)
  | (obtain rfl:=si hM;simp (maxSteps:=9999999) [go_sem,F];done)
  | (exact fs (by assumption) (by exact si hM))
  | (exact fs (by assumption) (by exact hM))
  | (exact fs2 (by assumption) (by intro a b h;dsimp only;exact h) (by exact hM))
  | (exact fs3 (by assumption) (by intro a b c h;dsimp only;exact h) (by exact hM))
  | (exact fs4 (by assumption) (by intro a b c d h;dsimp only;exact h) (by exact hM))
  | (exact fs5 (by assumption) (by intro a b c d f h;dsimp only;exact h) (by exact hM))
  | (exact fs6 (by assumption) (by intro a b c d f g h;dsimp only;exact h) (by exact hM))
  | (exact fs7 (by assumption) (by intro a b c d f g u h;dsimp only;exact h) (by exact hM))
  | (exact fs8 (by assumption) (by intro a b c d f g u v h;dsimp only;exact h) (by exact hM))
  | (exact fs9 (by assumption) (by intro a b c d f g u v x h;dsimp only;exact h) (by exact hM))
  | (exact fs10 (by assumption) (by intro a b c d f g u v x y h;dsimp only;exact h) (by exact hM))
  | (obtain ⟨x,ec,hM⟩:=bind_some hM
     first
     | refine qI ec ?_
     | refine qP ec ?_
     | refine qS ec ?_
     | refine qZ ec ?_
     | refine qT ec ?_
     | refine qU ec ?_
     | refine qM ec ?_
     | refine qQ ec ?_
     | refine qR ec ?_
     | (first | have F:=Zwg F (Zd0 ec)| have F:=Zwg F (ZbH ec)
        refine qV ec ?_)
     | refine qK ec ?_)
  | (obtain rfl:=si hM;(first | (have hM:=hR4;clear hR4)| (have hM:=hR3;clear hR3)| (have hM:=hR2;clear hR2)| (have hM:=hR1;clear hR1));dsimp only at hM))):p:=h
end Go.Proofs.YtbkllghhcphkaaaGreatDoor.Am
namespace Go.Proofs.YtbkllghhcphkaaaGreatDoor
open Go.RowKit Am
instance:Enc Zk:=⟨Zk.c⟩
@[go_sem] theorem Zk.enc:(Enc.c:Zk->List L)=Zk.c:=rfl
instance:Enc Ze:=⟨Ze.c⟩
@[go_sem] theorem Ze.enc:(Enc.c:Ze->List L)=Ze.c:=rfl
instance:Enc Zh:=⟨Zh.c⟩
@[go_sem] theorem Zh.enc:(Enc.c:Zh->List L)=Zh.c:=rfl
instance:Enc Zd:=⟨Zd.c⟩
@[go_sem] theorem Zd.enc:(Enc.c:Zd->List L)=Zd.c:=rfl
instance:Enc Za:=⟨Za.c⟩
@[go_sem] theorem Za.enc:(Enc.c:Za->List L)=Za.c:=rfl
instance:Enc ZD:=⟨ZD.c⟩
@[go_sem] theorem ZD.enc:(Enc.c:ZD->List L)=ZD.c:=rfl
instance:Enc YT:=⟨YT.c⟩
@[go_sem] theorem YT.enc:(Enc.c:YT->List L)=YT.c:=rfl
instance:Enc Zb:=⟨Zb.c⟩
@[go_sem] theorem Zb.enc:(Enc.c:Zb->List L)=Zb.c:=rfl
instance:Enc Zm:=⟨Zm.c⟩
@[go_sem] theorem Zm.enc:(Enc.c:Zm->List L)=Zm.c:=rfl
instance:Enc Zf:=⟨Zf.c⟩
@[go_sem] theorem Zf.enc:(Enc.c:Zf->List L)=Zf.c:=rfl
instance:Enc ZcI:=⟨ZcI.c⟩
@[go_sem] theorem ZcI.enc:(Enc.c:ZcI->List L)=ZcI.c:=rfl
instance:Enc Zbi:=⟨Zbi.c⟩
@[go_sem] theorem Zbi.enc:(Enc.c:Zbi->List L)=Zbi.c:=rfl
instance:Enc ZdM:=⟨ZdM.c⟩
@[go_sem] theorem ZdM.enc:(Enc.c:ZdM->List L)=ZdM.c:=rfl
instance:Enc ZdL:=⟨ZdL.c⟩
@[go_sem] theorem ZdL.enc:(Enc.c:ZdL->List L)=ZdL.c:=rfl
instance:Enc KM:=⟨KM.c⟩
@[go_sem] theorem KM.enc:(Enc.c:KM->List L)=KM.c:=rfl
instance:Enc KA:=⟨KA.c⟩
@[go_sem] theorem KA.enc:(Enc.c:KA->List L)=KA.c:=rfl
instance:Enc ZgG:=⟨ZgG.c⟩
@[go_sem] theorem ZgG.enc:(Enc.c:ZgG->List L)=ZgG.c:=rfl
open Go.RowKit Am
open Go.RowKit Am
def Yx (a0 a1:ByteArray):Option Bool:=some (Lib.hasPrefix a0.data.toList a1.data.toList)
def Yw (a0:ByteArray) (a1:Int):Option Int:=some (Lib.indexByte a0.data.toList a1.toNat.toUInt8)
def Qc (a0 a1:ByteArray):Option (List ByteArray):=if a0.size<4294967281/\1<=a1.size then some (Lib.splitB a1 0 (Lib.countB a0 a1) a0) else none
def XD (a0:ByteArray) (a1 a2:Int):Int×Bool:=
 match Lib.atoiAll a0.data.toList with
 | .ok n=>if a1<=n/\n<=a2/\(⟨(Lib.itoa n).toArray⟩:ByteArray)=a0 then (n,true) else (0,false)
 | _=>(0,false)
def Zap (a0:ByteArray) (a1 a2:Int):Option (Int×Bool):=if a0.size<=281474976710656 then some (XD a0 a1 a2) else none
open Go.RowKit Am
def UD (a0:Int) (a1:Int) (a2:Int):Option Bool:= (if (decide (a1<=a0)) then some (decide (a0<=a2)) else some false).bind fun x1=> some x1
def Yc (a0:ByteArray):Nat->Int->Option (Unit ⊕ Bool) | 0,_=>none | n_+1,x1=> if (decide (x1<(a0.size:Int))) then ((at? a0.data.toList x1).bind fun x3=> if (decide ((x3.toNat:Int)<32)) then some true else some (decide (126<(x3.toNat:Int)))).bind fun x2=> if x2 then some (.inr false) else Yc a0 n_ (IntKind.i64.wrap (x1+1)) else some (.inl ())
def XM (k:Nat) (a0:ByteArray):Option Bool:= (Yc a0 k 0:Option (Unit ⊕ Bool)).bind fun | .inl _=>( some (decide ((a0.size:Int)<=120))) | .inr z4=>( some z4)
def XB (a0:ByteArray):Nat->Int->Option (Unit ⊕ Bool) | 0,_=>none | n_+1,x1=> if (decide (x1<(a0.size:Int))) then ((at? a0.data.toList x1).bind fun x3=> if (decide (97<=(x3.toNat:Int))) then some (decide ((x3.toNat:Int)<=122)) else some false).bind fun x2=> ((at? a0.data.toList x1).bind fun x5=> if (decide (48<=(x5.toNat:Int))) then some (decide ((x5.toNat:Int)<=57)) else some false).bind fun x4=> (if (!x2) then if (decide (x1=0)) then some true else some (!x4) else some false).bind fun x6=> if x6 then some (.inr false) else XB a0 n_ (IntKind.i64.wrap (x1+1)) else some (.inl ())
def Zad (k:Nat) (a0:ByteArray):Option Bool:= (XB a0 k 0:Option (Unit ⊕ Bool)).bind fun | .inl _=>( some (decide (0<(a0.size:Int)))) | .inr z7=>( some z7)
def QX:Option (List ByteArray):= some [(⟨#[108,101,116]⟩:ByteArray),(⟨#[105,110]⟩:ByteArray),(⟨#[105,102]⟩:ByteArray),(⟨#[116,104,101,110]⟩:ByteArray),(⟨#[101,108,115,101]⟩:ByteArray),(⟨#[102,111,114]⟩:ByteArray),(⟨#[100,111]⟩:ByteArray),(⟨#[108,101,110]⟩:ByteArray),(⟨#[115,117,109]⟩:ByteArray),(⟨#[116,97,107,101]⟩:ByteArray),(⟨#[115,107,105,112]⟩:ByteArray),(⟨#[114,97,110,103,101]⟩:ByteArray),(⟨#[110,116,104]⟩:ByteArray),(⟨#[119,104,101,114,101]⟩:ByteArray),(⟨#[107,101,101,112]⟩:ByteArray),(⟨#[97,100,100]⟩:ByteArray),(⟨#[103,114,111,117,112]⟩:ByteArray),(⟨#[106,111,105,110]⟩:ByteArray),(⟨#[99,111,108,117,109,110]⟩:ByteArray),(⟨#[114,111,119,115]⟩:ByteArray),(⟨#[99,108,111,99,107]⟩:ByteArray),(⟨#[99,104,97,110,99,101]⟩:ByteArray),(⟨#[102,105,108,101]⟩:ByteArray),(⟨#[116,97,98,108,101]⟩:ByteArray)]
def XV (a0:List ByteArray) (a1:ByteArray):Nat->Int->Option (Unit ⊕ Bool) | 0,_=>none | n_+1,x1=> if (decide (x1<(a0.length:Int))) then (at? a0 x1).bind fun x2=> if (decide (x2=a1)) then some (.inr true) else XV a0 a1 n_ (IntKind.i64.wrap (x1+1)) else some (.inl ())
def Kc (k:Nat) (a0:List ByteArray) (a1:ByteArray):Option Bool:= (XV a0 a1 k 0:Option (Unit ⊕ Bool)).bind fun | .inl _=>( some false) | .inr z3=>( some z3)
def V1 (k:Nat) (a0:ByteArray):Option Bool:= (QX).bind fun x1=> (Kc k x1 a0).bind fun x2=> some x2
def ZX (k:Nat) (a0:ByteArray):Option Bool:= ((Zad k a0).bind fun x2=> if x2 then if (decide ((a0.size:Int)<=8)) then (V1 k a0).bind fun x3=> some (!x3) else some false else some false).bind fun x1=> some x1
def Qv (k:Nat) (a0:Zk):Option Bool:= ((UD a0.id 1 999).bind fun x2=> if (!x2) then some true else (UD a0.version 1 999).bind fun x3=> if (!x3) then some true else (XM k a0.code).bind fun x4=> some (!x4)).bind fun x1=> if x1 then some false else if (decide (a0.kind=1)) then (if (decide (a0.name=(⟨#[]⟩:ByteArray))) then some (decide (a0.n=0)) else some false).bind fun x5=> some x5 else (if (decide (a0.kind=2)) then some true else some (decide (a0.kind=4))).bind fun x6=> if x6 then ((ZX k a0.name).bind fun x8=> if x8 then some (decide (a0.n=0)) else some false).bind fun x7=> some x7 else if (decide (a0.kind=3)) then ((ZX k a0.name).bind fun x10=> if x10 then if (decide (a0.code=(⟨#[]⟩:ByteArray))) then (UD a0.n 0 100).bind fun x11=> some x11 else some false else some false).bind fun x9=> some x9 else some false
def Yd (a0:Ze) (a1:Int):Nat->Int->Option (Unit ⊕ Int) | 0,_=>none | n_+1,x1=> if (decide (x1<(a0.cells.length:Int))) then (at? a0.cells x1).bind fun x2=> if (decide (x2.id=a1)) then some (.inr x1) else Yd a0 a1 n_ (IntKind.i64.wrap (x1+1)) else some (.inl ())
def Wl (k:Nat) (a0:Ze) (a1:Int):Option Int:= (Yd a0 a1 k 0:Option (Unit ⊕ Int)).bind fun | .inl _=>( some (-1)) | .inr z3=>( some z3)
def Z3 (k:Nat) (a0:Ze):Nat->Int->Option (Unit ⊕ Bool) | 0,_=>none | n_+1,x1=> if (decide (x1<(a0.cells.length:Int))) then ((at? a0.cells x1).bind fun x3=> (Qv k x3).bind fun x4=> if (!x4) then some true else (Wl k a0 x3.id).bind fun x5=> some (!decide (x5=x1))).bind fun x2=> if x2 then some (.inr false) else Z3 k a0 n_ (IntKind.i64.wrap (x1+1)) else some (.inl ())
def Xo (k:Nat) (a0:Ze):Option Bool:= (Z3 k a0 k 0:Option (Unit ⊕ Bool)).bind fun | .inl _=>( some (decide ((a0.cells.length:Int)<=8))) | .inr z6=>( some z6)
def Vu (a0:Int):Option Bool:= (if (decide (97<=a0)) then some (decide (a0<=122)) else some false).bind fun x1=> some x1
def VZ (a0:Int):Option Bool:= (if (decide (48<=a0)) then some (decide (a0<=57)) else some false).bind fun x1=> some x1
def ZI:Nat->Int->ByteArray->Option ByteArray | 0,_,_=>none | n_+1,x2,x3=> if (!decide (x2=0)) then (if (decide ((IntKind.i64.wrap (x2.tmod 10))<0)) then some (IntKind.i64.wrap (0-(IntKind.i64.wrap (x2.tmod 10)))) else some (IntKind.i64.wrap (x2.tmod 10))).bind fun x4=> (Zqw (Zi3 [(IntKind.u8.wrap (IntKind.i64.wrap (48+x4)))]) x3).bind fun x5=> ZI n_ (IntKind.i64.wrap (x2.tdiv 10)) x5 else some x3
def UK (k:Nat) (a0:Int):Option ByteArray:= if (decide (a0=0)) then some (⟨#[48]⟩:ByteArray) else (ZI k a0 (⟨#[]⟩:ByteArray)).bind fun x1=> if (decide (a0<0)) then (Zqw (⟨#[45]⟩:ByteArray) x1).bind fun x6=> some x6 else some x1
def XI (x3:ByteArray):Nat->Int->Int->Option (Int ⊕ (Int×Bool)) | 0,_,_=>none | n_+1,x7,x8=> if (decide (x8<(x3.size:Int))) then ((at? x3.data.toList x8).bind fun x10=> if (decide ((x10.toNat:Int)<48)) then some true else some (decide (57<(x10.toNat:Int)))).bind fun x9=> if x9 then some (.inr (0,false)) else (at? x3.data.toList x8).bind fun x11=> XI x3 n_ (IntKind.i64.wrap ((IntKind.i64.wrap (10*x7))+(IntKind.i64.wrap (IntKind.u8.wrap ((x11.toNat:Int)-48))))) (IntKind.i64.wrap (x8+1)) else some (.inl x7)
def ZbW (k:Nat) (a0:ByteArray) (a1:Int):Option (Int×Bool):= (if (decide (0<(a0.size:Int))) then (at? a0.data.toList 0).bind fun x2=> some (decide ((x2.toNat:Int)=45)) else some false).bind fun x1=> (if x1 then (Uj a0 1 (a0.size:Int)).bind fun x4=> some x4 else some a0).bind fun x3=> (if (decide ((x3.size:Int)<1)) then some true else some (decide (a1<(x3.size:Int)))).bind fun x5=> if x5 then some (0,false) else (XI x3 k 0 0:Option (Int ⊕ (Int×Bool))).bind fun | .inl x6=>( (if x1 then some (IntKind.i64.wrap (0-x6)) else some x6).bind fun x12=> (UK k x12).bind fun x13=> if (!decide (x13=a0)) then some (0,false) else some (x12,true)) | .inr z14=>( some z14)
open Go.RowKit Am
def WB (k:Nat) (a0:ByteArray):Option (Int×Bool):= (ZbW k a0 12).bind fun x1=> some (x1.1,x1.2)
def YV (a0:ByteArray):Nat->Int->Option (Unit ⊕ Bool) | 0,_=>none | n_+1,x1=> if (decide (x1<(a0.size:Int))) then ((at? a0.data.toList x1).bind fun x3=> if (decide ((x3.toNat:Int)<32)) then some true else if (decide (126<(x3.toNat:Int))) then some true else some (decide ((x3.toNat:Int)=34))).bind fun x2=> if x2 then some (.inr false) else YV a0 n_ (IntKind.i64.wrap (x1+1)) else some (.inl ())
def XL (k:Nat) (a0:ByteArray):Option Bool:= (YV a0 k 0:Option (Unit ⊕ Bool)).bind fun | .inl _=>( some (decide ((a0.size:Int)<=20))) | .inr z4=>( some z4)
def Ut (a0:ByteArray) (a1:Int):Option Int:= (at? a0.data.toList a1).bind fun x1=> (if (decide ((x1.toNat:Int)=40)) then some true else if (decide ((x1.toNat:Int)=41)) then some true else if (decide ((x1.toNat:Int)=91)) then some true else if (decide ((x1.toNat:Int)=93)) then some true else if (decide ((x1.toNat:Int)=44)) then some true else if (decide ((x1.toNat:Int)=43)) then some true else if (decide ((x1.toNat:Int)=45)) then some true else if (decide ((x1.toNat:Int)=42)) then some true else some (decide ((x1.toNat:Int)=60))).bind fun x2=> if x2 then some 1 else if (decide ((x1.toNat:Int)=61)) then (if (decide ((IntKind.i64.wrap (a1+1))<(a0.size:Int))) then (at? a0.data.toList (IntKind.i64.wrap (a1+1))).bind fun x4=> some (decide ((x4.toNat:Int)=61)) else some false).bind fun x3=> if x3 then some 2 else some 1 else some 0
def Xh (a0:ByteArray):Nat->Int->Option Int | 0,_=>none | n_+1,x8=> (if (decide (x8<(a0.size:Int))) then (at? a0.data.toList x8).bind fun x10=> (Vu (x10.toNat:Int)).bind fun x11=> if x11 then some true else (VZ (x10.toNat:Int)).bind fun x12=> some x12 else some false).bind fun x9=> if x9 then Xh a0 n_ (IntKind.i64.wrap (x8+1)) else some x8
def Xg (a0:ByteArray):Nat->Int->Option Int | 0,_=>none | n_+1,x16=> (if (decide (x16<(a0.size:Int))) then (at? a0.data.toList x16).bind fun x18=> (VZ (x18.toNat:Int)).bind fun x19=> some x19 else some false).bind fun x17=> if x17 then Xg a0 n_ (IntKind.i64.wrap (x16+1)) else some x16
def Xf (a0:ByteArray):Nat->Int->Option Int | 0,_=>none | n_+1,x24=> (if (decide (x24<(a0.size:Int))) then (at? a0.data.toList x24).bind fun x26=> some (!decide ((x26.toNat:Int)=34)) else some false).bind fun x25=> if x25 then Xf a0 n_ (IntKind.i64.wrap (x24+1)) else some x24
def Xm (k:Nat) (a0:ByteArray) (a1:Int):Option (Zh×Int):= ((at? a0.data.toList a1).bind fun x5=> (Vu (x5.toNat:Int)).bind fun x6=> if x6 then (Xh a0 k a1).bind fun x7=> (Uj a0 a1 x7).bind fun x13=> if (decide (8<(IntKind.i64.wrap (x7-a1)))) then some (.inr ((Zh.mk 1 0 a1 x13),0)) else some (.inl (1,0,x13,x7)) else (VZ (x5.toNat:Int)).bind fun x14=> if x14 then (Xg a0 k a1).bind fun x15=> (Uj a0 a1 x15).bind fun x20=> (WB k x20).bind fun x21=> (if (!x21.2) then some true else some (decide (1000000000<x21.1))).bind fun x22=> if x22 then some (.inr ((Zh.mk 2 x21.1 a1 (⟨#[]⟩:ByteArray)),0)) else some (.inl (2,x21.1,(⟨#[]⟩:ByteArray),x15)) else if (decide ((x5.toNat:Int)=34)) then (Xf a0 k (IntKind.i64.wrap (a1+1))).bind fun x23=> (Uj a0 (IntKind.i64.wrap (a1+1)) x23).bind fun x27=> (if (decide (x23=(a0.size:Int))) then some true else (XL k x27).bind fun x29=> some (!x29)).bind fun x28=> if x28 then some (.inr ((Zh.mk 3 0 a1 x27),0)) else some (.inl (3,0,x27,(IntKind.i64.wrap (x23+1)))) else (Ut a0 a1).bind fun x30=> (Uj a0 a1 (IntKind.i64.wrap (a1+x30))).bind fun x31=> some (.inl (4,0,x31,(IntKind.i64.wrap (a1+x30)))):Option ((Int×Int×ByteArray×Int) ⊕ (Zh×Int))).bind fun | .inl (x1,x2,x3,x4)=>( some ((Zh.mk x1 x2 a1 x3),(IntKind.i64.wrap (x4-a1)))) | .inr z32=>( some z32)
def ZN (k:Nat) (a0:ByteArray):Nat->(List Zh)->Int->Option ((List Zh) ⊕ ((List Zh)×Int)) | 0,_,_=>none | n_+1,x2,x3=> if (decide (x3<(a0.size:Int))) then (at? a0.data.toList x3).bind fun x4=> if (decide ((x4.toNat:Int)=32)) then ZN k a0 n_ x2 (IntKind.i64.wrap (x3+1)) else (Xm k a0 x3).bind fun x5=> (if (decide (x5.2=0)) then some true else some (decide ((x2.length:Int)=60))).bind fun x6=> if x6 then some (.inr (([]:List Zh),x3)) else (Qb 40 x2 [x5.1]).bind fun x7=> ZN k a0 n_ x7 (IntKind.i64.wrap (x3+x5.2)) else some (.inl x2)
def Vz (k:Nat) (a0:ByteArray):Option ((List Zh)×Int):= if (decide (120<(a0.size:Int))) then some (([]:List Zh),120) else (ZN k a0 k ([]:List Zh) 0:Option ((List Zh) ⊕ ((List Zh)×Int))).bind fun | .inl x1=>( some (x1,(-1))) | .inr z8=>( some z8)
def WC (a0:Zh) (a1:ByteArray):Option Bool:= (if (decide (a0.kind=4)) then some (decide (a0.text=a1)) else some false).bind fun x1=> some x1
def UJ (a0:Zh) (a1:ByteArray):Option Bool:= (if (decide (a0.kind=1)) then some (decide (a0.text=a1)) else some false).bind fun x1=> some x1
def Zp (a0:Zd) (a1:ByteArray):Option (Bool×Zd):= (if (decide (a0.bad<0)) then if (decide (a0.i<(a0.toks.length:Int))) then (at? a0.toks a0.i).bind fun x2=> (WC x2 a1).bind fun x3=> if x3 then some true else (UJ x2 a1).bind fun x4=> some x4 else some false else some false).bind fun x1=> some (x1,a0)
def Y1 (a0:Zd):Option (Za×Zd):= (if (decide (a0.bad<0)) then if (decide (a0.i<(a0.toks.length:Int))) then (at? a0.toks a0.i).bind fun x2=> some x2.at_ else some a0.end_ else some a0.bad).bind fun x1=> some ((Za.mk 0 0 (⟨#[]⟩:ByteArray) []),(Zd.mk a0.toks a0.i a0.end_ x1))
def XR (k:Nat) (a0:Zd):Option (ByteArray×Zd):= (if (decide (0<=a0.bad)) then some true else if (decide ((a0.toks.length:Int)<=a0.i)) then some true else (at? a0.toks a0.i).bind fun x2=> if (!decide (x2.kind=1)) then some true else (ZX k x2.text).bind fun x3=> some (!x3)).bind fun x1=> if x1 then (Y1 a0).bind fun x4=> some ((⟨#[]⟩:ByteArray),x4.2) else (at? a0.toks (IntKind.i64.wrap ((IntKind.i64.wrap (a0.i+1))-1))).bind fun x5=> some (x5.text,(Zd.mk a0.toks (IntKind.i64.wrap (a0.i+1)) a0.end_ a0.bad))
def Zx (a0:Zd) (a1:ByteArray):Option Zd:= (Zp a0 a1).bind fun x1=> if (!x1.1) then (Y1 x1.2).bind fun x2=> some x2.2 else some (Zd.mk x1.2.toks (IntKind.i64.wrap (x1.2.i+1)) x1.2.end_ x1.2.bad)
def ZbY (a0:Int):Option Za:= some (Za.mk 1 a0 (⟨#[]⟩:ByteArray) [])
def Zag (a0:ByteArray):Option Za:= some (Za.mk 3 0 a0 [])
def Ya (a0:ByteArray):Option Int:= if (decide (a0=(⟨#[99,108,111,99,107]⟩:ByteArray))) then some 0 else (if (decide (a0=(⟨#[108,101,110]⟩:ByteArray))) then some true else if (decide (a0=(⟨#[115,117,109]⟩:ByteArray))) then some true else if (decide (a0=(⟨#[114,111,119,115]⟩:ByteArray))) then some true else if (decide (a0=(⟨#[99,104,97,110,99,101]⟩:ByteArray))) then some true else some (decide (a0=(⟨#[102,105,108,101]⟩:ByteArray)))).bind fun x1=> if x1 then some 1 else (if (decide (a0=(⟨#[116,97,107,101]⟩:ByteArray))) then some true else if (decide (a0=(⟨#[115,107,105,112]⟩:ByteArray))) then some true else if (decide (a0=(⟨#[114,97,110,103,101]⟩:ByteArray))) then some true else if (decide (a0=(⟨#[110,116,104]⟩:ByteArray))) then some true else if (decide (a0=(⟨#[107,101,101,112]⟩:ByteArray))) then some true else if (decide (a0=(⟨#[99,111,108,117,109,110]⟩:ByteArray))) then some true else some (decide (a0=(⟨#[116,97,98,108,101]⟩:ByteArray)))).bind fun x2=> if x2 then some 2 else (if (decide (a0=(⟨#[119,104,101,114,101]⟩:ByteArray))) then some true else if (decide (a0=(⟨#[103,114,111,117,112]⟩:ByteArray))) then some true else some (decide (a0=(⟨#[106,111,105,110]⟩:ByteArray)))).bind fun x3=> if x3 then some 3 else if (decide (a0=(⟨#[97,100,100]⟩:ByteArray))) then some 4 else some (-1)
open Go.RowKit Am
def Ke (a0:Int) (a1:Za) (a2:Za):Option Za:= some (Za.mk 6 a0 (⟨#[]⟩:ByteArray) [a1,a2])
def Q1 (rec_s_l11Expr:Zd->Option (Za×Zd)):Nat->(List Zh)->Int->Int->Int->(List Za)->Option ((List Zh)×Int×Int×Int×(List Za)) | 0,_,_,_,_,_=>none | n_+1,x7,x8,x9,x10,x11=> if (decide (x10<0)) then (rec_s_l11Expr (Zd.mk x7 x8 x9 x10)).bind fun x12=> (Qb 56 x11 [x12.1]).bind fun x13=> (Zp x12.2 (⟨#[44]⟩:ByteArray)).bind fun x14=> if (!x14.1) then some (x14.2.toks,x14.2.i,x14.2.end_,x14.2.bad,x13) else Q1 rec_s_l11Expr n_ x14.2.toks (IntKind.i64.wrap (x14.2.i+1)) x14.2.end_ x14.2.bad x13 else some (x7,x8,x9,x10,x11)
def YQ (rec_s_l11Atom:Zd->Option (Za×Zd)):Nat->(List Zh)->Int->Int->Int->Int->Int->ByteArray->(List Za)->Option (Int×Int×ByteArray×(List Za)×(List Zh)×Int×Int×Int) | 0,_,_,_,_,_,_,_,_=>none | n_+1,x10,x11,x12,x13,x14,x15,x16,x17=> (Zp (Zd.mk x10 x11 x12 x13) (⟨#[42]⟩:ByteArray)).bind fun x18=> if x18.1 then (rec_s_l11Atom (Zd.mk x18.2.toks (IntKind.i64.wrap (x18.2.i+1)) x18.2.end_ x18.2.bad)).bind fun x19=> (Ke 3 (Za.mk x14 x15 x16 x17) x19.1).bind fun x20=> YQ rec_s_l11Atom n_ x19.2.toks x19.2.i x19.2.end_ x19.2.bad x20.kind x20.n x20.text x20.args else some (x14,x15,x16,x17,x18.2.toks,x18.2.i,x18.2.end_,x18.2.bad)
def XJ (rec_s_l11Product:Zd->Option (Za×Zd)):Nat->(List Zh)->Int->Int->Int->Int->Int->ByteArray->(List Za)->Option (Int×Int×ByteArray×(List Za)×(List Zh)×Int×Int×Int) | 0,_,_,_,_,_,_,_,_=>none | n_+1,x10,x11,x12,x13,x14,x15,x16,x17=> ((Zp (Zd.mk x10 x11 x12 x13) (⟨#[43]⟩:ByteArray)).bind fun x23=> if x23.1 then some (x23.2.toks,x23.2.i,x23.2.end_,x23.2.bad,true) else (Zp x23.2 (⟨#[45]⟩:ByteArray)).bind fun x24=> some (x24.2.toks,x24.2.i,x24.2.end_,x24.2.bad,x24.1)).bind fun (x18,x19,x20,x21,x22)=> if x22 then ((Zp (Zd.mk x18 x19 x20 x21) (⟨#[45]⟩:ByteArray)).bind fun x30=> if x30.1 then some (x30.2.toks,x30.2.i,x30.2.end_,x30.2.bad,2) else some (x30.2.toks,x30.2.i,x30.2.end_,x30.2.bad,1)).bind fun (x25,x26,x27,x28,x29)=> (rec_s_l11Product (Zd.mk x25 (IntKind.i64.wrap (x26+1)) x27 x28)).bind fun x31=> (Ke x29 (Za.mk x14 x15 x16 x17) x31.1).bind fun x32=> XJ rec_s_l11Product n_ x31.2.toks x31.2.i x31.2.end_ x31.2.bad x32.kind x32.n x32.text x32.args else some (x14,x15,x16,x17,x18,x19,x20,x21)
mutual
def WL:Nat->Zd->ByteArray->Option ((List Za)×Zd) | 0,_,_=>none | k+1,a0,a1=> (Zp a0 a1).bind fun x1=> if x1.1 then some (([]:List Za),(Zd.mk x1.2.toks (IntKind.i64.wrap (x1.2.i+1)) x1.2.end_ x1.2.bad)) else (Q1 (Zu k) k x1.2.toks x1.2.i x1.2.end_ x1.2.bad ([]:List Za)).bind fun (x2,x3,x4,x5,x6)=> (Zx (Zd.mk x2 x3 x4 x5) a1).bind fun x15=> some (x6,x15)
def Z6:Nat->Zd->Option (Za×Zd) | 0,_=>none | k+1,a0=> (if (decide (0<=a0.bad)) then some true else some (decide ((a0.toks.length:Int)<=a0.i))).bind fun x1=> if x1 then (Y1 a0).bind fun x2=> some (x2.1,x2.2) else (at? a0.toks a0.i).bind fun x3=> if (decide (x3.kind=2)) then (ZbY x3.n).bind fun x4=> some (x4,(Zd.mk a0.toks (IntKind.i64.wrap (a0.i+1)) a0.end_ a0.bad)) else if (decide (x3.kind=3)) then some ((Za.mk 2 0 x3.text []),(Zd.mk a0.toks (IntKind.i64.wrap (a0.i+1)) a0.end_ a0.bad)) else (if (decide (x3.kind=1)) then (ZX k x3.text).bind fun x6=> some x6 else some false).bind fun x5=> if x5 then (Zag x3.text).bind fun x7=> some (x7,(Zd.mk a0.toks (IntKind.i64.wrap (a0.i+1)) a0.end_ a0.bad)) else (if (decide (x3.kind=1)) then (Ya x3.text).bind fun x9=> some (decide (0<=x9)) else some false).bind fun x8=> if x8 then (Zx (Zd.mk a0.toks (IntKind.i64.wrap (a0.i+1)) a0.end_ a0.bad) (⟨#[40]⟩:ByteArray)).bind fun x10=> (WL k x10 (⟨#[41]⟩:ByteArray)).bind fun x11=> some ((Za.mk 5 0 x3.text x11.1),x11.2) else (WC x3 (⟨#[91]⟩:ByteArray)).bind fun x12=> if x12 then (WL k (Zd.mk a0.toks (IntKind.i64.wrap (a0.i+1)) a0.end_ a0.bad) (⟨#[93]⟩:ByteArray)).bind fun x13=> some ((Za.mk 4 0 (⟨#[]⟩:ByteArray) x13.1),x13.2) else (WC x3 (⟨#[40]⟩:ByteArray)).bind fun x14=> if x14 then (Zu k (Zd.mk a0.toks (IntKind.i64.wrap (a0.i+1)) a0.end_ a0.bad)).bind fun x15=> (Zx x15.2 (⟨#[41]⟩:ByteArray)).bind fun x16=> some (x15.1,x16) else (Y1 a0).bind fun x17=> some (x17.1,x17.2)
def ZE:Nat->Zd->Option (Za×Zd) | 0,_=>none | k+1,a0=> (Z6 k a0).bind fun x1=> (YQ (Z6 k) k x1.2.toks x1.2.i x1.2.end_ x1.2.bad x1.1.kind x1.1.n x1.1.text x1.1.args).bind fun (x2,x3,x4,x5,x6,x7,x8,x9)=> some ((Za.mk x2 x3 x4 x5),(Zd.mk x6 x7 x8 x9))
def XK:Nat->Zd->Option (Za×Zd) | 0,_=>none | k+1,a0=> (ZE k a0).bind fun x1=> (XJ (ZE k) k x1.2.toks x1.2.i x1.2.end_ x1.2.bad x1.1.kind x1.1.n x1.1.text x1.1.args).bind fun (x2,x3,x4,x5,x6,x7,x8,x9)=> some ((Za.mk x2 x3 x4 x5),(Zd.mk x6 x7 x8 x9))
def QZ:Nat->Zd->Option (Za×Zd) | 0,_=>none | k+1,a0=> (XK k a0).bind fun x1=> (Zp x1.2 (⟨#[60]⟩:ByteArray)).bind fun x2=> if x2.1 then (XK k (Zd.mk x2.2.toks (IntKind.i64.wrap (x2.2.i+1)) x2.2.end_ x2.2.bad)).bind fun x3=> (Ke 4 x1.1 x3.1).bind fun x4=> some (x4,x3.2) else (Zp x2.2 (⟨#[61,61]⟩:ByteArray)).bind fun x5=> if x5.1 then (XK k (Zd.mk x5.2.toks (IntKind.i64.wrap (x5.2.i+1)) x5.2.end_ x5.2.bad)).bind fun x6=> (Ke 5 x1.1 x6.1).bind fun x7=> some (x7,x6.2) else some (x1.1,x5.2)
def Zu:Nat->Zd->Option (Za×Zd) | 0,_=>none | k+1,a0=> (Zp a0 (⟨#[108,101,116]⟩:ByteArray)).bind fun x1=> if x1.1 then (XR k (Zd.mk x1.2.toks (IntKind.i64.wrap (x1.2.i+1)) x1.2.end_ x1.2.bad)).bind fun x2=> (Zx x2.2 (⟨#[61]⟩:ByteArray)).bind fun x3=> (Zu k x3).bind fun x4=> (Zx x4.2 (⟨#[105,110]⟩:ByteArray)).bind fun x5=> (Zu k x5).bind fun x6=> some ((Za.mk 7 0 x2.1 [x4.1,x6.1]),x6.2) else (Zp x1.2 (⟨#[105,102]⟩:ByteArray)).bind fun x7=> if x7.1 then (Zu k (Zd.mk x7.2.toks (IntKind.i64.wrap (x7.2.i+1)) x7.2.end_ x7.2.bad)).bind fun x8=> (Zx x8.2 (⟨#[116,104,101,110]⟩:ByteArray)).bind fun x9=> (Zu k x9).bind fun x10=> (Zx x10.2 (⟨#[101,108,115,101]⟩:ByteArray)).bind fun x11=> (Zu k x11).bind fun x12=> some ((Za.mk 8 0 (⟨#[]⟩:ByteArray) [x8.1,x10.1,x12.1]),x12.2) else (Zp x7.2 (⟨#[102,111,114]⟩:ByteArray)).bind fun x13=> if x13.1 then (XR k (Zd.mk x13.2.toks (IntKind.i64.wrap (x13.2.i+1)) x13.2.end_ x13.2.bad)).bind fun x14=> (Zx x14.2 (⟨#[105,110]⟩:ByteArray)).bind fun x15=> (Zu k x15).bind fun x16=> (Zx x16.2 (⟨#[100,111]⟩:ByteArray)).bind fun x17=> (Zu k x17).bind fun x18=> some ((Za.mk 9 0 x14.1 [x16.1,x18.1]),x18.2) else (QZ k x13.2).bind fun x19=> some (x19.1,x19.2)
end
def Q2 (rec_s_l10Left:Za->Int->Option Int) (a0:Za):Nat->Int->Int->Option Int | 0,_,_=>none | n_+1,x2,x3=> (if (decide (x3<(a0.args.length:Int))) then some (decide (0<=x2)) else some false).bind fun x4=> if x4 then (at? a0.args x3).bind fun x5=> (rec_s_l10Left x5 x2).bind fun x6=> Q2 rec_s_l10Left a0 n_ x6 (IntKind.i64.wrap (x3+1)) else some x2
def We:Nat->Za->Int->Option Int | 0,_,_=>none | k+1,a0,a1=> (Q2 (We k) a0 k (IntKind.i64.wrap (a1-1)) 0).bind fun x1=> some x1
def Kb (a0:Int) (a1:Int):Option Int:= if (decide (a1<a0)) then some a0 else some a1
def Y6 (rec_s_NestingOf:Za->Option Int) (a0:Za):Nat->Int->Int->Option Int | 0,_,_=>none | n_+1,x2,x3=> if (decide (x3<(a0.args.length:Int))) then (at? a0.args x3).bind fun x4=> (rec_s_NestingOf x4).bind fun x5=> (Kb x2 x5).bind fun x6=> Y6 rec_s_NestingOf a0 n_ x6 (IntKind.i64.wrap (x3+1)) else some x2
def Qp:Nat->Za->Option Int | 0,_=>none | k+1,a0=> (Y6 (Qp k) a0 k 0 0).bind fun x1=> some (IntKind.i64.wrap (x1+1))
def UE (k:Nat) (a0:Za):Option Bool:= if (decide (a0.kind=1)) then (if (decide ((a0.args.length:Int)=0)) then if (decide (a0.text=(⟨#[]⟩:ByteArray))) then (UD a0.n 0 1000000000).bind fun x2=> some x2 else some false else some false).bind fun x1=> some x1 else if (decide (a0.kind=2)) then (if (decide ((a0.args.length:Int)=0)) then if (decide (a0.n=0)) then (XL k a0.text).bind fun x4=> some x4 else some false else some false).bind fun x3=> some x3 else if (decide (a0.kind=3)) then (if (decide ((a0.args.length:Int)=0)) then if (decide (a0.n=0)) then (ZX k a0.text).bind fun x6=> some x6 else some false else some false).bind fun x5=> some x5 else if (decide (a0.kind=4)) then (if (decide (a0.n=0)) then if (decide (a0.text=(⟨#[]⟩:ByteArray))) then some (decide ((a0.args.length:Int)<=8)) else some false else some false).bind fun x7=> some x7 else if (decide (a0.kind=5)) then (if (decide (a0.n=0)) then (Ya a0.text).bind fun x9=> some (decide ((a0.args.length:Int)=x9)) else some false).bind fun x8=> some x8 else if (decide (a0.kind=6)) then (if (decide (a0.text=(⟨#[]⟩:ByteArray))) then if (decide ((a0.args.length:Int)=2)) then (UD a0.n 1 5).bind fun x11=> some x11 else some false else some false).bind fun x10=> some x10 else (if (decide (a0.kind=7)) then some true else some (decide (a0.kind=9))).bind fun x12=> if x12 then (if (decide (a0.n=0)) then if (decide ((a0.args.length:Int)=2)) then (ZX k a0.text).bind fun x14=> some x14 else some false else some false).bind fun x13=> some x13 else if (decide (a0.kind=8)) then (if (decide (a0.n=0)) then if (decide (a0.text=(⟨#[]⟩:ByteArray))) then some (decide ((a0.args.length:Int)=3)) else some false else some false).bind fun x15=> some x15 else some false
def Wf (rec_s_l10All:Za->Option Bool) (a0:Za):Nat->Int->Option (Unit ⊕ Bool) | 0,_=>none | n_+1,x1=> if (decide (x1<(a0.args.length:Int))) then (at? a0.args x1).bind fun x2=> (rec_s_l10All x2).bind fun x3=> if (!x3) then some (.inr false) else Wf rec_s_l10All a0 n_ (IntKind.i64.wrap (x1+1)) else some (.inl ())
def X2:Nat->Za->Option Bool | 0,_=>none | k+1,a0=> (Wf (X2 k) a0 k 0:Option (Unit ⊕ Bool)).bind fun | .inl _=>( (UE k a0).bind fun x4=> some x4) | .inr z5=>( some z5)
def Q3 (k:Nat) (a0:Za):Option Bool:= ((We k a0 40).bind fun x2=> if (decide (0<=x2)) then (Qp k a0).bind fun x3=> if (decide (x3<=8)) then (X2 k a0).bind fun x4=> some x4 else some false else some false).bind fun x1=> some x1
def Wi (k:Nat) (a0:ByteArray):Option (Za×Int):= (Vz k a0).bind fun x1=> if (decide (0<=x1.2)) then some ((Za.mk 0 0 (⟨#[]⟩:ByteArray) []),x1.2) else (Zu k (Zd.mk x1.1 0 (a0.size:Int) (-1))).bind fun x2=> ((if (decide (x2.2.bad<0)) then some (decide (x2.2.i<(x1.1.length:Int))) else some false).bind fun x7=> if x7 then (Y1 x2.2).bind fun x8=> some (x8.2.toks,x8.2.i,x8.2.end_,x8.2.bad) else some (x2.2.toks,x2.2.i,x2.2.end_,x2.2.bad)).bind fun (x3,x4,x5,x6)=> if (decide (0<=x6)) then some ((Za.mk 0 0 (⟨#[]⟩:ByteArray) []),x6) else (Q3 k x2.1).bind fun x9=> if (!x9) then some ((Za.mk 0 0 (⟨#[]⟩:ByteArray) []),0) else some (x2.1,(-1))
open Go.RowKit Am
def Q4 (a0:Int):Option Zb:= some (Zb.mk 6 a0 0 (⟨#[]⟩:ByteArray) [] [] [])
def Kg (a0:Int):Option Zb:= some (Zb.mk 1 a0 0 (⟨#[]⟩:ByteArray) [] [] [])
def ZM (a0:ByteArray):Nat->(List ByteArray)->Int->Int->Option ((List ByteArray)×Int) | 0,_,_,_=>none | n_+1,x3,x4,x5=> if (decide ((IntKind.i64.wrap (x5+1))<(a0.size:Int))) then (((at? a0.data.toList x5).bind fun x9=> if (decide ((x9.toNat:Int)=59)) then (at? a0.data.toList (IntKind.i64.wrap (x5+1))).bind fun x10=> some (decide ((x10.toNat:Int)=32)) else some false).bind fun x8=> if x8 then (Uj a0 x4 x5).bind fun x11=> (Qb 16 x3 [x11]).bind fun x12=> some (x12,(IntKind.i64.wrap (x5+2))) else some (x3,x4)).bind fun (x6,x7)=> ZM a0 n_ x6 x7 (IntKind.i64.wrap (x5+1)) else some (x3,x4)
def Uv (k:Nat) (a0:ByteArray):Option (List ByteArray):= (ZM a0 k ([]:List ByteArray) 0 0).bind fun (x1,x2)=> (Uj a0 x2 (a0.size:Int)).bind fun x13=> (Qb 16 x1 [x13]).bind fun x14=> some x14
def YG (a0:ByteArray) (a1:Int):Nat->(List ByteArray)->Int->Int->Option (List ByteArray) | 0,_,_,_=>none | n_+1,x2,x3,x4=> if (decide (x4<=(a0.size:Int))) then ((if (decide (x4=(a0.size:Int))) then some true else (at? a0.data.toList x4).bind fun x8=> some (decide ((x8.toNat:Int)=a1))).bind fun x7=> if x7 then (Uj a0 x3 x4).bind fun x9=> (Qb 16 x2 [x9]).bind fun x10=> some (x10,(IntKind.i64.wrap (x4+1))) else some (x2,x3)).bind fun (x5,x6)=> YG a0 a1 n_ x5 x6 (IntKind.i64.wrap (x4+1)) else some x2
def WV (k:Nat) (a0:ByteArray) (a1:Int):Option (List ByteArray):= (YG a0 a1 k ([]:List ByteArray) 0 0).bind fun x1=> some x1
def Qn (a0:Int):Option Bool:= (UD a0 (-1000000000) 1000000000).bind fun x1=> some x1
def YP (k:Nat) (x1:List ByteArray):Nat->(List Int)->Int->Option ((List Int) ⊕ ((List Int)×Bool)) | 0,_,_=>none | n_+1,x3,x4=> if (decide (x4<(x1.length:Int))) then (at? x1 x4).bind fun x5=> (WB k x5).bind fun x6=> (if (!x6.2) then some true else (Qn x6.1).bind fun x8=> some (!x8)).bind fun x7=> if x7 then some (.inr (x3,false)) else (Qb 8 x3 [x6.1]).bind fun x9=> YP k x1 n_ x9 (IntKind.i64.wrap (x4+1)) else some (.inl x3)
def U9 (k:Nat) (a0:ByteArray) (a1:Int):Option ((List Int)×Bool):= (WV k a0 32).bind fun x1=> (YP k x1 k ([]:List Int) 0:Option ((List Int) ⊕ ((List Int)×Bool))).bind fun | .inl x2=>( some (x2,(decide ((x2.length:Int)=a1)))) | .inr z10=>( some z10)
def UA (a0:Zb):Option Bool:= (if (decide (a0.kind=1)) then some true else if (decide (a0.kind=2)) then some true else some (decide (a0.kind=3))).bind fun x1=> some x1
def XC (rec_s_DepthOf:Zb->Option Int) (a0:Zb):Nat->Int->Int->Option Int | 0,_,_=>none | n_+1,x2,x3=> if (decide (x3<(a0.list.length:Int))) then (at? a0.list x3).bind fun x4=> (rec_s_DepthOf x4).bind fun x5=> (Kb x2 x5).bind fun x6=> XC rec_s_DepthOf a0 n_ x6 (IntKind.i64.wrap (x3+1)) else some x2
def Q5:Nat->Zb->Option Int | 0,_=>none | k+1,a0=> (XC (Q5 k) a0 k 0 0).bind fun x1=> some (IntKind.i64.wrap (x1+1))
def Ye (k:Nat) (a0:List ByteArray):Nat->Int->Option (Unit ⊕ Bool) | 0,_=>none | n_+1,x1=> if (decide (x1<(a0.length:Int))) then (Ze4 a0 0 x1).bind fun x2=> (at? a0 x1).bind fun x3=> (Kc k x2 x3).bind fun x4=> if x4 then some (.inr false) else Ye k a0 n_ (IntKind.i64.wrap (x1+1)) else some (.inl ())
def Vh (k:Nat) (a0:List ByteArray):Option Bool:= (Ye k a0 k 0:Option (Unit ⊕ Bool)).bind fun | .inl _=>( some true) | .inr z5=>( some z5)
def Qz (k:Nat) (a0:List ByteArray):Nat->Int->Option (Unit ⊕ Bool) | 0,_=>none | n_+1,x1=> if (decide (x1<(a0.length:Int))) then (at? a0 x1).bind fun x2=> (ZX k x2).bind fun x3=> if (!x3) then some (.inr false) else Qz k a0 n_ (IntKind.i64.wrap (x1+1)) else some (.inl ())
def Vv (k:Nat) (a0:List ByteArray):Option Bool:= (Qz k a0 k 0:Option (Unit ⊕ Bool)).bind fun | .inl _=>( ((UD (a0.length:Int) 1 4).bind fun x5=> if x5 then (Vh k a0).bind fun x6=> some x6 else some false).bind fun x4=> some x4) | .inr z7=>( some z7)
def Vw (a0:ZD) (a1:ZD):Option Bool:= (if (decide (a0.cell<a1.cell)) then some true else if (decide (a0.cell=a1.cell)) then some (decide (a0.row<a1.row)) else some false).bind fun x1=> some x1
def YU (a0:List ZD):Nat->Int->Option (Unit ⊕ Bool) | 0,_=>none | n_+1,x1=> if (decide (x1<(a0.length:Int))) then ((at? a0 x1).bind fun x3=> if (decide (x3.cell<0)) then some true else if (decide (x3.row<0)) then some true else if (decide (0<x1)) then (at? a0 (IntKind.i64.wrap (x1-1))).bind fun x4=> (Vw x4 x3).bind fun x5=> some (!x5) else some false).bind fun x2=> if x2 then some (.inr false) else YU a0 n_ (IntKind.i64.wrap (x1+1)) else some (.inl ())
def WA (k:Nat) (a0:List ZD):Option Bool:= (YU a0 k 0:Option (Unit ⊕ Bool)).bind fun | .inl _=>( some true) | .inr z6=>( some z6)
def QW (x4:YT):Nat->Int->Option (Unit ⊕ Bool) | 0,_=>none | n_+1,x7=> if (decide (x7<(x4.cells.length:Int))) then (at? x4.cells x7).bind fun x8=> (Qn x8).bind fun x9=> if (!x9) then some (.inr false) else QW x4 n_ (IntKind.i64.wrap (x7+1)) else some (.inl ())
def Qd (k:Nat) (a0:Zb):Nat->Int->Option (Unit ⊕ Bool) | 0,_=>none | n_+1,x3=> if (decide (x3<(a0.rows.length:Int))) then ((at? a0.rows x3).bind fun x4=> (if (!decide ((x4.cells.length:Int)=(a0.columns.length:Int))) then some true else (WA k x4.from_).bind fun x6=> some (!x6)).bind fun x5=> if x5 then some (.inr false) else QW x4 k 0:Option (Unit ⊕ Bool)).bind fun | .inl _=>( Qd k a0 n_ (IntKind.i64.wrap (x3+1))) | .inr z10=>( some (.inr z10)) else some (.inl ())
def Zaa (k:Nat) (a0:Zb):Option Bool:= ((Vv k a0.columns).bind fun x2=> if (!x2) then some true else some (decide (12<(a0.rows.length:Int)))).bind fun x1=> if x1 then some false else (Qd k a0 k 0:Option (Unit ⊕ Bool)).bind fun | .inl _=>( some true) | .inr z11=>( some z11)
def X6 (rec_s_IsValidValue:Zb->Option Bool) (a0:Zb):Nat->Int->Option (Unit ⊕ Bool) | 0,_=>none | n_+1,x1=> if (decide (x1<(a0.list.length:Int))) then ((at? a0.list x1).bind fun x3=> (UA x3).bind fun x4=> if (!x4) then some true else (rec_s_IsValidValue x3).bind fun x5=> some (!x5)).bind fun x2=> if x2 then some (.inr false) else X6 rec_s_IsValidValue a0 n_ (IntKind.i64.wrap (x1+1)) else some (.inl ())
mutual
def U7:Nat->Zb->Option Bool | 0,_=>none | k+1,a0=> (X6 (ZF k) a0 k 0:Option (Unit ⊕ Bool)).bind fun | .inl _=>( (if (decide ((a0.list.length:Int)<=8)) then (Q5 k a0).bind fun x7=> some (decide (x7<=3)) else some false).bind fun x6=> some x6) | .inr z8=>( some z8)
def ZF:Nat->Zb->Option Bool | 0,_=>none | k+1,a0=> (if (!decide (a0.kind=3)) then if (decide (0<(a0.list.length:Int))) then some true else if (!decide (a0.kind=5)) then some (decide (0<(IntKind.i64.wrap ((a0.columns.length:Int)+(a0.rows.length:Int))))) else some false else some (decide (0<(IntKind.i64.wrap ((a0.columns.length:Int)+(a0.rows.length:Int)))))).bind fun x1=> if x1 then some false else (if (!decide (a0.kind=2)) then if (!decide (a0.text=(⟨#[]⟩:ByteArray))) then some true else if (!decide (a0.kind=4)) then some (!decide (a0.step=0)) else some false else some (!decide (a0.step=0))).bind fun x2=> if x2 then some false else if (decide (a0.kind=1)) then (Qn a0.n).bind fun x3=> some x3 else if (decide (a0.kind=2)) then (if (decide (a0.n=0)) then (XL k a0.text).bind fun x5=> some x5 else some false).bind fun x4=> some x4 else if (decide (a0.kind=3)) then (if (decide (a0.n=0)) then (U7 k a0).bind fun x7=> some x7 else some false).bind fun x6=> some x6 else if (decide (a0.kind=4)) then ((Qn a0.n).bind fun x9=> if x9 then (Qn a0.step).bind fun x10=> some x10 else some false).bind fun x8=> some x8 else if (decide (a0.kind=5)) then (if (decide (a0.n=0)) then (Zaa k a0).bind fun x12=> some x12 else some false).bind fun x11=> some x11 else if (decide (a0.kind=6)) then (UD a0.n 1 8).bind fun x13=> some x13 else some false
end
open Go.RowKit Am
def YH (k:Nat) (x1:List ByteArray) (x3:List ByteArray):Nat->(List YT)->Int->Option ((List YT) ⊕ (Zb×Bool)) | 0,_,_=>none | n_+1,x5,x6=> if (decide (x6<(x1.length:Int))) then (at? x1 x6).bind fun x7=> (U9 k x7 (x3.length:Int)).bind fun x8=> if (!x8.2) then some (.inr ((Zb.mk 0 0 0 (⟨#[]⟩:ByteArray) [] [] []),false)) else (Qb 48 x5 [(YT.mk x8.1 [])]).bind fun x9=> YH k x1 x3 n_ x9 (IntKind.i64.wrap (x6+1)) else some (.inl x5)
def VC (k:Nat) (a0:ByteArray):Option (Zb×Bool):= (Uv k a0).bind fun x1=> (at? x1 0).bind fun x2=> (WV k x2 32).bind fun x3=> (YH k x1 x3 k [] 1:Option ((List YT) ⊕ (Zb×Bool))).bind fun | .inl x4=>( (ZF k (Zb.mk 5 0 0 (⟨#[]⟩:ByteArray) [] x3 x4)).bind fun x10=> if (!x10) then some ((Zb.mk 0 0 0 (⟨#[]⟩:ByteArray) [] [] []),false) else some ((Zb.mk 5 0 0 (⟨#[]⟩:ByteArray) [] x3 x4),true)) | .inr z11=>( some z11)
def YI (k:Nat) (x1:List ByteArray) (x3:List ByteArray):Nat->Int->Option (Unit ⊕ Int) | 0,_=>none | n_+1,x5=> if (decide (x5<(x1.length:Int))) then (at? x1 x5).bind fun x6=> (U9 k x6 (x3.length:Int)).bind fun x7=> (if (!x7.2) then some true else some (decide (12<x5))).bind fun x8=> if x8 then some (.inr x5) else YI k x1 x3 n_ (IntKind.i64.wrap (x5+1)) else some (.inl ())
def UM (k:Nat) (a0:ByteArray):Option Int:= (Uv k a0).bind fun x1=> (at? x1 0).bind fun x2=> (WV k x2 32).bind fun x3=> (Vv k x3).bind fun x4=> if (!x4) then some 0 else (YI k x1 x3 k 1:Option (Unit ⊕ Int)).bind fun | .inl _=>( some (-1)) | .inr z9=>( some z9)
def ZcN (a0:YT):Option YT:= (Qb 8 ([]:List Int) a0.cells).bind fun x1=> (Qb 16 ([]:List ZD) a0.from_).bind fun x2=> some (YT.mk x1 x2)
def X8 (rec_s_l3Copy:Zb->Option Zb) (a0:Zb):Nat->(List Zb)->Int->Option (List Zb) | 0,_,_=>none | n_+1,x3,x4=> if (decide (x4<(a0.list.length:Int))) then (at? a0.list x4).bind fun x5=> (rec_s_l3Copy x5).bind fun x6=> (Qb 112 x3 [x6]).bind fun x7=> X8 rec_s_l3Copy a0 n_ x7 (IntKind.i64.wrap (x4+1)) else some x3
def X7 (a0:Zb):Nat->(List YT)->Int->Option (List YT) | 0,_,_=>none | n_+1,x9,x10=> if (decide (x10<(a0.rows.length:Int))) then (at? a0.rows x10).bind fun x11=> (ZcN x11).bind fun x12=> (Qb 48 x9 [x12]).bind fun x13=> X7 a0 n_ x13 (IntKind.i64.wrap (x10+1)) else some x9
def X1:Nat->Zb->Option Zb | 0,_=>none | k+1,a0=> (Qb 16 ([]:List ByteArray) a0.columns).bind fun x1=> (X8 (X1 k) a0 k [] 0).bind fun x2=> (X7 a0 k [] 0).bind fun x8=> some (Zb.mk a0.kind a0.n a0.step a0.text x2 x1 x8)
def ZP (a0:Int):Nat->(List YT)->Int->Option (List YT) | 0,_,_=>none | n_+1,x6,x7=> if (decide (x7<(x6.length:Int))) then (at? x6 x7).bind fun x8=> ZP a0 n_ (x6.set x7.toNat (YT.mk x8.cells [(ZD.mk a0 x7)])) (IntKind.i64.wrap (x7+1)) else some x6
def Vf (k:Nat) (a0:Int) (a1:Zb):Option Zb:= (if (!decide (a1.kind=5)) then some true else (ZF k a1).bind fun x2=> if (!x2) then some true else some (decide (a0<0))).bind fun x1=> if x1 then (Q4 4).bind fun x3=> some x3 else (X1 k a1).bind fun x4=> (ZP a0 k x4.rows 0).bind fun x5=> some (Zb.mk x4.kind x4.n x4.step x4.text x4.list x4.columns x5)
def Yq (k:Nat) (a0:Zk):Option Zm:= (Qv k a0).bind fun x1=> if (!x1) then some (Zm.mk 0 (⟨#[]⟩:ByteArray) (Za.mk 0 0 (⟨#[]⟩:ByteArray) []) (Zb.mk 0 0 0 (⟨#[]⟩:ByteArray) [] [] []) 0) else if (decide (a0.kind=2)) then (Wi k a0.code).bind fun x2=> if (decide (0<=x2.2)) then (Q4 8).bind fun x3=> some (Zm.mk 4 a0.name (Za.mk 0 0 (⟨#[]⟩:ByteArray) []) x3 x2.2) else some (Zm.mk 2 a0.name x2.1 (Zb.mk 0 0 0 (⟨#[]⟩:ByteArray) [] [] []) 0) else if (decide (a0.kind=3)) then (Kg a0.n).bind fun x4=> some (Zm.mk 3 a0.name (Za.mk 0 0 (⟨#[]⟩:ByteArray) []) x4 0) else if (decide (a0.kind=4)) then (VC k a0.code).bind fun x5=> if (!x5.2) then (Q4 8).bind fun x6=> (UM k a0.code).bind fun x7=> some (Zm.mk 4 a0.name (Za.mk 0 0 (⟨#[]⟩:ByteArray) []) x6 x7) else (Vf k a0.id x5.1).bind fun x8=> some (Zm.mk 3 a0.name (Za.mk 0 0 (⟨#[]⟩:ByteArray) []) x8 0) else some (Zm.mk 1 (⟨#[]⟩:ByteArray) (Za.mk 0 0 (⟨#[]⟩:ByteArray) []) (Zb.mk 0 0 0 (⟨#[]⟩:ByteArray) [] [] []) 0)
def Qg (k:Nat) (a0:Ze):Nat->(List Zm)->Int->Option (List Zm) | 0,_,_=>none | n_+1,x3,x4=> if (decide (x4<(a0.cells.length:Int))) then (at? a0.cells x4).bind fun x5=> (Yq k x5).bind fun x6=> (Qb 200 x3 [x6]).bind fun x7=> Qg k a0 n_ x7 (IntKind.i64.wrap (x4+1)) else some x3
def W4 (k:Nat) (a0:Ze):Option (List Zm):= (Xo k a0).bind fun x1=> if (!x1) then some ([]:List Zm) else (Qg k a0 k ([]:List Zm) 0).bind fun x2=> some x2
def Qe (rec_s_l13Free:Za->(List ByteArray)->Option (List ByteArray)) (a0:Za) (a1:List ByteArray):Nat->(List ByteArray)->Int->Option (List ByteArray) | 0,_,_=>none | n_+1,x5,x6=> if (decide (x6<(a0.args.length:Int))) then ((if (decide (a0.kind=7)) then some (decide (0<x6)) else if (decide (a0.kind=9)) then some (decide (0<x6)) else some false).bind fun x8=> if x8 then (Qb 16 ([]:List ByteArray) a1).bind fun x9=> (Qb 16 x9 [a0.text]).bind fun x10=> some x10 else some a1).bind fun x7=> (at? a0.args x6).bind fun x11=> (rec_s_l13Free x11 x7).bind fun x12=> (Qb 16 x5 x12).bind fun x13=> Qe rec_s_l13Free a0 a1 n_ x13 (IntKind.i64.wrap (x6+1)) else some x5
def QN:Nat->Za->(List ByteArray)->Option (List ByteArray) | 0,_,_=>none | k+1,a0,a1=> (if (decide (a0.kind=3)) then (Kc k a1 a0.text).bind fun x2=> some (!x2) else some false).bind fun x1=> if x1 then (Qb 16 ([]:List ByteArray) [a0.text]).bind fun x3=> some x3 else (Qe (QN k) a0 a1 k ([]:List ByteArray) 0).bind fun x4=> some x4
def QB (a0:List ByteArray) (x2:List ByteArray) (x3:Int):Nat->Int->Option Int | 0,_=>none | n_+1,x6=> (if (decide (x6<(x2.length:Int))) then (at? x2 x6).bind fun x8=> (at? a0 x3).bind fun x9=> some (Zik x8 x9) else some false).bind fun x7=> if x7 then QB a0 x2 x3 n_ (IntKind.i64.wrap (x6+1)) else some x6
def QC (k:Nat) (a0:List ByteArray):Nat->(List ByteArray)->Int->Option (List ByteArray) | 0,_,_=>none | n_+1,x2,x3=> if (decide (x3<(a0.length:Int))) then ((QB a0 x2 x3 k 0).bind fun x5=> (if (decide (x5<(x2.length:Int))) then (at? x2 x5).bind fun x11=> (at? a0 x3).bind fun x12=> some (decide (x11=x12)) else some false).bind fun x10=> if x10 then some x2 else (Ze4 x2 x5 (x2.length:Int)).bind fun x13=> (Qb 16 ([]:List ByteArray) x13).bind fun x14=> (Ze4 x2 0 x5).bind fun x15=> (at? a0 x3).bind fun x16=> (Qb 16 x15 [x16]).bind fun x17=> (Qb 16 x17 x14).bind fun x18=> some x18).bind fun x4=> QC k a0 n_ x4 (IntKind.i64.wrap (x3+1)) else some x2
def VB (k:Nat) (a0:List ByteArray):Option (List ByteArray):= (QC k a0 k ([]:List ByteArray) 0).bind fun x1=> some x1
def Kh (k:Nat) (a0:Za):Option (List ByteArray):= (QN k a0 ([]:List ByteArray)).bind fun x1=> (VB k x1).bind fun x2=> some x2
def ZaM (k:Nat) (a0:Zm):Option (List ByteArray):= if (!decide (a0.kind=2)) then some ([]:List ByteArray) else (Kh k a0.expr).bind fun x1=> some x1
def Y7 (a0:List Zm) (a1:ByteArray):Nat->(List Int)->Int->Option (List Int) | 0,_,_=>none | n_+1,x2,x3=> if (decide (x3<(a0.length:Int))) then (((at? a0 x3).bind fun x6=> if (!decide (x6.kind=1)) then some (decide (x6.name=a1)) else some false).bind fun x5=> if x5 then (Qb 8 x2 [x3]).bind fun x7=> some x7 else some x2).bind fun x4=> Y7 a0 a1 n_ x4 (IntKind.i64.wrap (x3+1)) else some x2
def WD (k:Nat) (a0:List Zm) (a1:ByteArray):Option (List Int):= (Y7 a0 a1 k ([]:List Int) 0).bind fun x1=> some x1
def Vg (k:Nat) (a0:List Zm) (a1:ByteArray):Option Int:= (WD k a0 a1).bind fun x1=> if (decide ((x1.length:Int)=0)) then some (-1) else if (decide ((x1.length:Int)=1)) then (at? x1 0).bind fun x2=> some x2 else some (-2)
def YO (a0:List Int) (a1:Int):Nat->Int->Option (Unit ⊕ Bool) | 0,_=>none | n_+1,x1=> if (decide (x1<(a0.length:Int))) then (at? a0 x1).bind fun x2=> if (decide (x2=a1)) then some (.inr true) else YO a0 a1 n_ (IntKind.i64.wrap (x1+1)) else some (.inl ())
def Z8 (k:Nat) (a0:List Int) (a1:Int):Option Bool:= (YO a0 a1 k 0:Option (Unit ⊕ Bool)).bind fun | .inl _=>( some false) | .inr z3=>( some z3)
open Go.RowKit Am
def Wa (a0:List Int) (x2:List Int) (x3:Int):Nat->Int->Option Int | 0,_=>none | n_+1,x8=> (if (decide (x8<(x2.length:Int))) then (at? x2 x8).bind fun x10=> (at? a0 x3).bind fun x11=> some (decide (x10<x11)) else some false).bind fun x9=> if x9 then Wa a0 x2 x3 n_ (IntKind.i64.wrap (x8+1)) else some x8
def Wb (k:Nat) (a0:List Int):Nat->(List Int)->Int->Option (List Int) | 0,_,_=>none | n_+1,x2,x3=> if (decide (x3<(a0.length:Int))) then ((at? a0 x3).bind fun x5=> (Z8 k x2 x5).bind fun x6=> if x6 then some x2 else (Wa a0 x2 x3 k 0).bind fun x7=> (Ze4 x2 0 x7).bind fun x12=> (Qb 8 ([]:List Int) x12).bind fun x13=> (Qb 8 x13 [x5]).bind fun x14=> (Ze4 x2 x7 (x2.length:Int)).bind fun x15=> (Qb 8 x14 x15).bind fun x16=> some x16).bind fun x4=> Wb k a0 n_ x4 (IntKind.i64.wrap (x3+1)) else some x2
def ZaK (k:Nat) (a0:List Int):Option (List Int):= (Wb k a0 k ([]:List Int) 0).bind fun x1=> some x1
def Z9 (k:Nat) (a0:List Zm) (x3:List ByteArray):Nat->(List Int)->Int->Option (List Int) | 0,_,_=>none | n_+1,x5,x6=> if (decide (x6<(x3.length:Int))) then ((at? x3 x6).bind fun x8=> (Vg k a0 x8).bind fun x9=> if (decide (0<=x9)) then (Qb 8 x5 [x9]).bind fun x10=> some x10 else some x5).bind fun x7=> Z9 k a0 x3 n_ x7 (IntKind.i64.wrap (x6+1)) else some x5
def Qf (k:Nat) (a0:List Zm) (a1:Int):Option (List Int):= (UD a1 0 (IntKind.i64.wrap ((a0.length:Int)-1))).bind fun x1=> if (!x1) then some ([]:List Int) else (at? a0 a1).bind fun x2=> (ZaM k x2).bind fun x3=> (Z9 k a0 x3 k ([]:List Int) 0).bind fun x4=> (ZaK k x4).bind fun x11=> some x11
def Uw (k:Nat) (a0:List Zm) (a1:Int):Nat->(List Int)->Int->Option (List Int) | 0,_,_=>none | n_+1,x2,x3=> if (decide (x3<(a0.length:Int))) then ((Qf k a0 x3).bind fun x5=> (Z8 k x5 a1).bind fun x6=> if x6 then (Qb 8 x2 [x3]).bind fun x7=> some x7 else some x2).bind fun x4=> Uw k a0 a1 n_ x4 (IntKind.i64.wrap (x3+1)) else some x2
def Zij (k:Nat) (a0:List Zm) (a1:Int):Option (List Int):= (Uw k a0 a1 k ([]:List Int) 0).bind fun x1=> some x1
def V0 (k:Nat) (a0:List Zm) (a1:Int) (a2:Bool):Option (List Int):= if a2 then (Zij k a0 a1).bind fun x1=> some x1 else (Qf k a0 a1).bind fun x2=> some x2
def Wc (k:Nat) (x7:List Int):Nat->(List Int)->Int->Option (List Int) | 0,_,_=>none | n_+1,x8,x9=> if (decide (x9<(x7.length:Int))) then ((at? x7 x9).bind fun x11=> (Z8 k x8 x11).bind fun x12=> if (!x12) then (Qb 8 x8 [x11]).bind fun x13=> some x13 else some x8).bind fun x10=> Wc k x7 n_ x10 (IntKind.i64.wrap (x9+1)) else some x8
def Wd (k:Nat) (a0:List Zm) (a2:Bool):Nat->(List Int)->Int->Option (List Int) | 0,_,_=>none | n_+1,x3,x4=> if (decide (x4<(x3.length:Int))) then ((at? x3 x4).bind fun x6=> (V0 k a0 x6 a2).bind fun x7=> Wc k x7 k x3 0).bind fun x5=> Wd k a0 a2 n_ x5 (IntKind.i64.wrap (x4+1)) else some x3
def ZaL (k:Nat) (a0:List Zm) (a1:Int) (a2:Bool):Option (List Int):= (V0 k a0 a1 a2).bind fun x1=> (Wd k a0 a2 k x1 0).bind fun x2=> (ZaK k x2).bind fun x14=> some x14
def Zam (k:Nat) (a0:List Zm) (a1:Int):Option (List Int):= (ZaL k a0 a1 false).bind fun x1=> some x1
def UH (k:Nat) (a0:List Zm) (a1:Int):Option Bool:= (Zam k a0 a1).bind fun x1=> (Z8 k x1 a1).bind fun x2=> some x2
def Qw (k:Nat) (a0:List Zm) (a1:Int):Option Bool:= ((UD a1 0 (IntKind.i64.wrap ((a0.length:Int)-1))).bind fun x2=> if x2 then (at? a0 a1).bind fun x3=> if (!decide (x3.kind=1)) then (Vg k a0 x3.name).bind fun x4=> some (decide (x4=(-2))) else some false else some false).bind fun x1=> some x1
def XU (k:Nat) (a0:List Zm) (a1:Int) (a2:Bool):Option (Zb×Bool):= (at? a0 a1).bind fun x1=> if (decide (x1.kind=1)) then some ((Zb.mk 0 0 0 (⟨#[]⟩:ByteArray) [] [] []),true) else (Qw k a0 a1).bind fun x2=> if x2 then (Q4 2).bind fun x3=> some (x3,true) else if (decide (x1.kind=4)) then (Q4 8).bind fun x4=> some (x4,true) else if (decide (x1.kind=3)) then (X1 k x1.value).bind fun x5=> some (x5,true) else if a2 then (Q4 3).bind fun x6=> some (x6,true) else some ((Zb.mk 0 0 0 (⟨#[]⟩:ByteArray) [] [] []),false)
def Wk (k:Nat) (a0:List Zm) (a1:Int):Option (Zb×Bool):= (UD a1 0 (IntKind.i64.wrap ((a0.length:Int)-1))).bind fun x1=> if (!x1) then some ((Zb.mk 0 0 0 (⟨#[]⟩:ByteArray) [] [] []),false) else (UH k a0 a1).bind fun x2=> (XU k a0 a1 x2).bind fun x3=> some (x3.1,x3.2)
def Y4 (k:Nat) (a0:List Zm):Nat->(List (List Int))->Int->Option (List (List Int)) | 0,_,_=>none | n_+1,x2,x3=> if (decide (x3<(a0.length:Int))) then (Qf k a0 x3).bind fun x4=> (Qb 24 x2 [x4]).bind fun x5=> Y4 k a0 n_ x5 (IntKind.i64.wrap (x3+1)) else some x2
def JE (k:Nat) (a0:List Zm):Option (List (List Int)):= (Y4 k a0 k ([]:List (List Int)) 0).bind fun x1=> some x1
def QA (k:Nat) (x12:List Int):Nat->(List Int)->Int->Option (List Int) | 0,_,_=>none | n_+1,x13,x14=> if (decide (x14<(x12.length:Int))) then ((at? x12 x14).bind fun x16=> (Z8 k x13 x16).bind fun x17=> if (!x17) then (Qb 8 x13 [x16]).bind fun x18=> some x18 else some x13).bind fun x15=> QA k x12 n_ x15 (IntKind.i64.wrap (x14+1)) else some x13
def YE (k:Nat) (a0:List (List Int)):Nat->(List Int)->Int->Option (List Int) | 0,_,_=>none | n_+1,x8,x9=> if (decide (x9<(x8.length:Int))) then ((at? x8 x9).bind fun x11=> (at? a0 x11).bind fun x12=> QA k x12 k x8 0).bind fun x10=> YE k a0 n_ x10 (IntKind.i64.wrap (x9+1)) else some x8
def YF (k:Nat) (a0:List (List Int)):Nat->(List Bool)->Int->Option (List Bool) | 0,_,_=>none | n_+1,x3,x4=> if (decide (x4<(a0.length:Int))) then (at? a0 x4).bind fun x5=> (Qb 8 ([]:List Int) x5).bind fun x6=> (YE k a0 k x6 0).bind fun x7=> (Z8 k x7 x4).bind fun x19=> (at? x3 x4).bind fun x20=> YF k a0 n_ (x3.set x4.toNat x19) (IntKind.i64.wrap (x4+1)) else some x3
def Vx (k:Nat) (a0:List (List Int)):Option (List Bool):= (mk? 1 (a0.length:Int)).bind fun x1=> (YF k a0 k (List.replicate x1 false) 0).bind fun x2=> some x2
def QY (k:Nat) (a0:List Int) (a1:List Int) (a2:List Bool):Nat->Int->Option (Unit ⊕ Bool) | 0,_=>none | n_+1,x1=> if (decide (x1<(a1.length:Int))) then ((at? a1 x1).bind fun x3=> (at? a2 x3).bind fun x4=> if x4 then (Z8 k a0 x3).bind fun x5=> some (!x5) else some false).bind fun x2=> if x2 then some (.inr false) else QY k a0 a1 a2 n_ (IntKind.i64.wrap (x1+1)) else some (.inl ())
def Uu (k:Nat) (a0:List Int) (a1:List Int) (a2:List Bool):Option Bool:= (QY k a0 a1 a2 k 0:Option (Unit ⊕ Bool)).bind fun | .inl _=>( some true) | .inr z6=>( some z6)
def Y3 (k:Nat) (a0:List Zm) (a2:List Bool):Nat->(List Bool)->Int->Int->Option ((List Bool)×Int) | 0,_,_,_=>none | n_+1,x4,x5,x6=> if (decide (x6<(a0.length:Int))) then (((at? a2 x6).bind fun x10=> if (!x10) then (Qw k a0 x6).bind fun x11=> if (!x11) then (at? a0 x6).bind fun x12=> if (decide (x12.kind=2)) then (at? x4 x6).bind fun x13=> some (x4.set x6.toNat true) else (at? x4 x6).bind fun x14=> some (x4.set x6.toNat (decide (x12.kind=3))) else (at? x4 x6).bind fun x15=> some (x4.set x6.toNat false) else (at? x4 x6).bind fun x16=> some (x4.set x6.toNat false)).bind fun x9=> (at? x9 x6).bind fun x17=> if x17 then some (x9,(IntKind.i64.wrap (x5+1))) else some (x9,x5)).bind fun (x7,x8)=> Y3 k a0 a2 n_ x7 x8 (IntKind.i64.wrap (x6+1)) else some (x4,x5)
def YM (c_1:(List Int)->Option (List Int)) (k:Nat) (a0:List Zm) (a1:List (List Int)) (x2:List Bool) (x19:List Int):Nat->Int->Option (List Int) | 0,_=>none | n_+1,x20=> if (decide (x20<(a0.length:Int))) then ((at? x2 x20).bind fun x22=> if x22 then (Z8 k x19 x20).bind fun x23=> if (!x23) then (at? a1 x20).bind fun x24=> (Uu k x19 x24 x2).bind fun x25=> some x25 else some false else some false).bind fun x21=> if x21 then (Qb 8 x19 [x20]).bind fun x26=> c_1 x26 else YM c_1 k a0 a1 x2 x19 n_ (IntKind.i64.wrap (x20+1)) else c_1 x19
def YN (k:Nat) (a0:List Zm) (a1:List (List Int)) (x2:List Bool) (x3:Int):Nat->(List Int)->Option (List Int) | 0,_=>none | n_+1,x19=> if (decide ((x19.length:Int)<x3)) then YM (YN k a0 a1 x2 x3 n_) k a0 a1 x2 x19 k 0 else some x19
def ZaJ (k:Nat) (a0:List Zm) (a1:List (List Int)) (a2:List Bool):Option (List Int):= (mk? 1 (a0.length:Int)).bind fun x1=> (Y3 k a0 a2 k (List.replicate x1 false) 0 0).bind fun (x2,x3)=> (YN k a0 a1 x2 x3 k ([]:List Int)).bind fun x18=> some x18
end Go.Proofs.YtbkllghhcphkaaaGreatDoor
