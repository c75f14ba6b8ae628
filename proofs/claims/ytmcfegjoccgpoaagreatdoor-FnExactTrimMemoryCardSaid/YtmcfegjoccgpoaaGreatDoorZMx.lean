import Derived.Test.YtmcfegjoccgpoaaGreatDoorZMg
import Derived.Deep.Quiet
set_option linter.unusedSimpArgs false
set_option linter.unusedVariables false
namespace Go.Proofs.YtmcfegjoccgpoaaGreatDoor.Am
open Go.RowKit
inductive MK where
 | int| bool| str
 | call (f n:Nat) (g:Bool)
 deriving DecidableEq
def MK.sc:MK->Bool
 | .call _ _ _=>false
 | _=>true
inductive AV where
 | sl| ix| ix1| ln| lt| kk (i:Nat)| rm (i:Nat)| bb (i:Nat)| tx (i:Nat)| el (o:Nat)| hd (i:Nat)| ci (n:Int)| bt (b:Bool)
 deriving DecidableEq
structure Cf where
 nt:Nat
 W:Nat
 mt:Nat
 held:Bool
 live:Bool
 ks:List (Nat×MK)
abbrev XS:=List (Nat×AV)×Nat
def xav (tm:List (Nat×AV)):Operand->Option AV
 | .tmp t=>tm.lookup t
 | .const (.int .i64 n)=>some (.ci n)
 | _=>none
def ZoK (C:Cf) (s:XS) (d:Option Nat) (u:AV):Option XS:=match d with
 | some d=>if d<C.nt then some ((d,u)::s.1,s.2) else none
 | none=>none
def ZA6 (P:Program) (C:Cf) (op:BinOp) (t:Nat):AV->AV->Option AV
 | .ix,.ln=>match op with
  | .lss=>some .lt
  | _=>none
 | .ix,.ci n=>match op with
  | .add=>if n=1/\C.live=true then some .ix1 else none
  | _=>none
 | .kk i,.ci n=>match op with
  | .add=>if n=1/\((C.ks[i]?).map λp=>p.2.sc)=some true then some (.kk (i+1)) else none
  | .rem=>if n=3 then some (.rm i) else none
  | .lss=>if n=0 then some (.bt false) else none
  | _=>none
 | .rm i,.ci n=>match op with
  | .eql=>if n=0 then some (.bb i) else none
  | _=>none
 | .kk i,.kk j=>match op with
  | .neq=>if i=j then some (.bt false) else none
  | _=>none
 | .tx i,.tx j=>match op with
  | .neq=>if i=j then some (.bt false) else none
  | _=>none
 | .bb i,.bb j=>match op,ti P t with
  | .neq,some ⟨.bool,_,_,_⟩=>if i=j then some (.bt false) else none
  | _,_=>none
 | _,_=>none
def ZsE (C:Cf) (o:Nat):Nat->List (Nat×MK)->Option (Nat×MK)
 | _,[]=>none
 | i,p::j=>if p.1=o then some (i,p.2) else ZsE C o (i+1) j
def xld (P:Program) (C:Cf) (t o:Nat):Option AV:=match ZsE C o 0 C.ks,ti P t with
 | some (i,.call _ n g),some ⟨k,j,_,_⟩=>if j=n/\k.agg=some g/\(g=true\/n=1) then some (.hd i) else none
 | some (i,.int),some ⟨.int .i64,1,_,_⟩=>if C.held then some (.kk i) else none
 | some (i,.bool),some ⟨.bool,1,_,_⟩=>if C.held then some (.bb i) else none
 | some (i,.str),some ⟨.str,1,_,_⟩=>if C.held then some (.tx i) else none
 | _,_=>none
def xst (P:Program) (C:Cf) (t o:Nat) (i:Nat) (u:AV):Bool:=!C.held&&match C.ks[i]?,u,ti P t with
 | some (k,.int),.kk j,some ⟨.int .i64,1,_,_⟩=>k==o&&j==i
 | some (k,.bool),.bb j,some ⟨.bool,1,_,_⟩=>k==o&&j==i
 | some (k,.str),.tx j,some ⟨.str,1,_,_⟩=>k==o&&j==i
 | _,_,_=>false
def ZC2 (P:Program) (t f:Nat):Option Nat:=match ti P t with
 | some ⟨.struct fs,_,_,_⟩=>match fs[f]? with
  | some (j,k)=>match ti P k with
   | some i=>if i.size=0 then none else some j
   | none=>none
  | none=>none
 | _=>none
def ZC1 (P:Program) (C:Cf) (t:Nat):Bool:=C.live&&match ti P t with
 | some ⟨.slice j,_,_,_⟩=>match ti P j with
  | some i=>i.size==C.W
  | none=>false
 | _=>false
def ZaK (P:Program) (C:Cf) (f:Nat) (s:XS):List AV->Option (AV×Nat)
 | [.kk i]=>if f=C.mt/\Y9 P f=true then some (.tx i,s.2) else none
 | [.hd i,.kk j]=>match C.ks[i]? with
  | some (_,.call g _ _)=>if g=f/\(C.held=true\/i=s.2)/\j=i/\Y9 P f=true then some (.kk (i+1),i+1) else none
  | _=>none
 | _=>none
def ZyX (tm:List (Nat×AV)):List Operand->Option (List AV)
 | []=>some []
 | x::k=>match xav tm x,ZyX tm k with
  | some u,some j=>some (u::j)
  | _,_=>none
def xop (P:Program) (C:Cf) (s:XS):Oper->Option XS
 | ⟨d,.move x,_,_,_,none⟩=>(xav s.1 x).bind (ZoK C s d)
 | ⟨d,.assign x,_,_,_,none⟩=>(xav s.1 x).bind (ZoK C s d)
 | ⟨d,.binOp j t x y _,_,_,_,none⟩=>(xav s.1 x).bind λu=>(xav s.1 y).bind λv=>(ZA6 P C j t u v).bind (ZoK C s d)
 | ⟨d,.indexAddr t x y,_,_,_,none⟩=>match xav s.1 x,xav s.1 y with
  | some .sl,some .ix=>if ZC1 P C t=true then ZoK C s d (.el 0) else none
  | _,_=>none
 | ⟨d,.fieldAddr t x f,_,_,_,none⟩=>match xav s.1 x with
  | some (.el o)=>(ZC2 P t f).bind λq=>ZoK C s d (.el (o+q))
  | _=>none
 | ⟨d,.load t x,_,_,_,none⟩=>match xav s.1 x with
  | some (.el o)=>(xld P C t o).bind (ZoK C s d)
  | _=>none
 | ⟨none,.store t x y,_,_,_,none⟩=>match xav s.1 x,xav s.1 y with
  | some (.el o),some u=>if xst P C t o s.2 u=true then some (s.1,s.2+1) else none
  | _,_=>none
 | ⟨d,.call c,_,_,_,none⟩=>match c.callee with
  | .value (.func f)=>(ZyX s.1 c.args.toList).bind λk=>(ZaK P C f s k).bind λr=>ZoK C (s.1,r.2) d r.1
  | .builtin .len=>match c.args.toList,c.argTypes.toList with
   | [x],[t]=>match xav s.1 x,ti P t with
    | some .sl,some ⟨.slice _,_,_,_⟩=>ZoK C s d .ln
    | _,_=>none
   | _,_=>none
  | _=>none
 | _=>none
def ZyK (P:Program) (C:Cf):List Oper->XS->Option XS
 | [],s=>some s
 | o::l,s=>(xop P C s o).bind (ZyK P C l)
def xq (o:Oper):Bool:=match o.op with
 | .store _ _ _=>false
 | .call c=>match c.callee with
  | .value (.func _)=>c.args.size==1
  | _=>true
 | _=>true
def ZfE (P:Program) (C:Cf):Code->XS->Option XS
 | .region _ j false,s=>ZyK P C j.toList s
 | .region _ j true,s=>if (P.follows .mixedOrders&&Region.lexB .any j&&j.toList.all xq)=true then ZyK P C j.toList s else none
 | .seq a b,s=>(ZfE P C a s).bind (ZfE P C b)
 | .skip,s=>some s
 | .cond x a b,s=>match xav s.1 x with
  | some (.bt false)=>ZfE P C b s
  | _=>none
 | _,_=>none
structure Rn where
 A:Option Addr
 n:Nat
 c:Nat
 j:Nat
 b:Nat
 base:Nat
 cnt:Nat->Int
 us:Nat->Value
def Rn.val (R:Rn):AV->Value
 | .sl=>.slice R.A R.n R.c
 | .ix=>.int .i64 R.j
 | .ix1=>.int .i64 (R.j+1)
 | .ln=>.int .i64 R.n
 | .lt=>.bool (decide (R.j<R.n))
 | .kk i=>.int .i64 (R.cnt i)
 | .rm i=>.int .i64 (R.cnt i%3)
 | .bb i=>.bool (decide (R.cnt i%3=0))
 | .tx i=>.string (ZjX (R.cnt i))
 | .el o=>.pointer (some ⟨R.b,R.base+o,none⟩)
 | .hd i=>R.us i
 | .ci n=>.int .i64 n
 | .bt b=>.bool b
def MK.mark (R:Rn) (i:Nat):MK->Value
 | .int=>.int .i64 (R.cnt i)
 | .bool=>.bool (decide (R.cnt i%3=0))
 | .str=>.string (ZjX (R.cnt i))
 | .call _ _ _=>undef
structure Hy (P:Program) (C:Cf) (R:Rn) (M:Nat->World->Prop):Prop where
 cb:∀i,0<=R.cnt i/\R.cnt i<=1099511627776
 c1:∀i o (k:MK),C.ks[i]? =some (o,k)->k.sc=true->R.cnt (i+1)=R.cnt i+1
 ix:C.live=true->∃off:Nat,R.A=some ⟨R.b,off,none⟩/\R.j<R.n/\R.n<=9223372036854775807/\R.base=off+R.j*C.W
 hc:∀m w i o f n g,M m w->C.ks[i]? =some (o,.call f n g)->∃vs,At w R.b (R.base+o) vs/\vs.length=n/\(g=true->R.us i= .agg vs.toArray)/\(g=false->vs=[R.us i])
 ld:C.held=true->∀m w i o (k:MK),M m w->C.ks[i]? =some (o,k)->k.sc=true->w.cell? ⟨R.b,R.base+o,none⟩=some (k.mark R i)
 st:C.held=false->∀m w o (k:MK),M m w->C.ks[m]? =some (o,k)->k.sc=true->(∃u,w.cell? ⟨R.b,R.base+o,none⟩=some u)/\w.frozen? ⟨R.b,R.base+o,none⟩=false/\M (m+1) (w.setCell ⟨R.b,R.base+o,none⟩ (k.mark R m))
 cl:∀m w o f n g,M m w->C.ks[m]? =some (o,.call f n g)->Calls P f #[R.us m,.int .i64 (R.cnt m)] w λe w'=>e= .returned (.int .i64 (R.cnt (m+1)))/\M (m+1) w'
 hm:C.held=true->∀m m' w,M m w->M m' w
 bl:∀m w w',M m w->Below w.heap.size w w'->M m w'
 mt:∀w (k:Int),0<=k->k<=1099511627776->Calls P C.mt #[.int .i64 k] w λe w'=>e= .returned (.string (ZjX k))/\Below w.heap.size w w'
section
variable {P:Program} {C:Cf} {R:Rn} {M:Nat->World->Prop} {s s':XS} {a:Act} {w:World}
structure XR (C:Cf) (R:Rn) (M:Nat->World->Prop) (s:XS) (a:Act) (w:World):Prop where
 sz:a.tmps.size=C.nt
 tm:∀t u,s.1.lookup t=some u->a.tmps.getD t undef=R.val u
 m:M s.2 w
 df:a.defers=[]
theorem XR.av (h:XR C R M s a w) {x:Operand} {u:AV} (j:xav s.1 x=some u):a.eval x=R.val u:=by
 unfold xav at j
 split at j
 ·exact h.tm _ _ j
 ·obtain rfl:=ZEI j;rfl
 ·cases j
theorem XR.avs (h:XR C R M s a w):∀{xs:List Operand} {us:List AV},ZyX s.1 xs=some us->xs.map a.eval=us.map R.val
 | [],us,j=>by simp only [ZyX,ZEK] at j;subst j;rfl
 | x::xs,us,j=>by
  simp only [ZyX] at j
  split at j
  ·rename_i u o k l;obtain rfl:=ZEI j;simp only [Hi,h.av k,h.avs l]
  ·cases j
theorem XR.put (o:a.tmps.size=C.nt) (p:∀t u,s.1.lookup t=some u->a.tmps.getD t undef=R.val u) (hm:M s.2 w) (hf:a.defers=[]) {d:Option Nat} {u:AV} (k:ZoK C s d u=some s'):XR C R M s' (a.put d (R.val u)) w:=by
 unfold ZoK at k
 split at k
 ·rename_i d
  split at k
  ·rename_i hd;obtain rfl:=ZEI k;refine ⟨by rw [Z2];exact o,λt v l=> ?_,hm,by rw [ZO];exact hf⟩;rw [lookup_cons] at l
   by_cases j:t=d
   ·subst j;rw [if_pos rfl] at l;obtain rfl:=ZEI l;exact Ud _ _ _ (by rw [o];exact hd)
   ·rw [if_neg j] at l;rw [Vn _ _ _ _ j];exact p t v l
  ·cases k
 ·cases k
theorem Zhu {o:Nat}:∀{l:List (Nat×MK)} {i j:Nat} {k:MK},ZsE C o i l=some (j,k)->∃m,j=i+m/\l[m]? =some (o,k)
 | [],_,_,_,h=>by simp [ZsE] at h
 | p::l,i,j,k,h=>by
  simp only [ZsE] at h
  split at h
  ·rename_i hp;obtain ⟨rfl,rfl⟩:=Prod.mk.inj (ZEI h);exact ⟨0,rfl,by simp [<-hp]⟩
  ·obtain ⟨m,t,r⟩:=Zhu h;exact ⟨m+1,WF,by simpa using r⟩
theorem ZuY {o:Oper} {u:AV} {K:Act->World->Prop} {Q:Exit->Act->World->Prop} (h:XR C R M s a w) (j:(execOp a.eval o).run P w= .ok (.value (R.val u)) w) (hp:ZoK C s o.dst u=some s') (hK:∀a' w',XR C R M s' a' w'->K a' w'):o.wp P a w K Q:=by
 unfold Oper.wp;rw [j,Oper.upon_value];exact hK _ _ (XR.put h.sz h.tm h.m h.df hp)
theorem Zru (H:Hy P C R M) {op:BinOp} {t:Nat} {u v r:AV} (j:ZA6 P C op t u v=some r) (E ob:Operand):
  (do eqGuard op t E ob (R.val u) (R.val v);binOp op t (R.val u) (R.val v):Sem Value).run P w= .ok (R.val r) w:=by
 have B:∀n:Int,0<=n->n<=1099511627777->GZ n=n:=λn I m=>by simp [IntKind.wrap,IntKind.bits,IntKind.signed];omega
 unfold ZA6 at j
 split at j
 ·split at j
  ·obtain rfl:=ZEI j;simp only [Rn.val];simp [eqGuard,binOp,Op.intCmp]
  ·cases j
 ·split at j
  ·split at j
   ·rename_i l;obtain ⟨rfl,l⟩:=l;obtain rfl:=ZEI j;obtain ⟨G,_,m,p,_⟩:=H.ix l;have e:GZ ((R.j:Int)+1)=(R.j:Int)+1:=by simp [IntKind.wrap,IntKind.bits,IntKind.signed];omega
    simp only [Rn.val];simp [eqGuard,binOp,Op.intArith,e]
   ·cases j
  ·cases j
 ·rename_i i n;have z:=H.cb i
  split at j
  ·split at j
   ·rename_i l;obtain ⟨rfl,l⟩:=l;obtain rfl:=ZEI j;obtain ⟨⟨o,k⟩,m,p⟩:=Hf.1 l;have:=H.c1 i o k m p;simp only [Rn.val,this];simp [eqGuard,binOp,Op.intArith,B (R.cnt i+1) WF WF]
   ·cases j
  ·split at j
   ·rename_i l;subst l;obtain rfl:=ZEI j;simp only [Rn.val];simp [eqGuard,binOp,Op.intDiv];exact Int.tmod_eq_emod_of_nonneg z.1
   ·cases j
  ·split at j
   ·rename_i l;subst l;obtain rfl:=ZEI j;simp only [Rn.val];have:¬R.cnt i<0:=by omega
    simp [eqGuard,binOp,Op.intCmp,this]
   ·cases j
  ·cases j
 ·split at j
  ·split at j
   ·rename_i l;subst l;obtain rfl:=ZEI j;simp only [Rn.val];simp [eqGuard,binOp,Op.intCmp]
    try (rw [Bool.eq_iff_iff];simp)
   ·cases j
  ·cases j
 ·split at j
  ·split at j
   ·rename_i l;subst l;obtain rfl:=ZEI j;simp only [Rn.val];simp [eqGuard,binOp,Op.intCmp]
   ·cases j
  ·cases j
 ·split at j
  ·split at j
   ·rename_i l;subst l;obtain rfl:=ZEI j;simp only [Rn.val];simp [eqGuard,binOp,Op.stringOp,Zo0]
   ·cases j
  ·cases j
 ·split at j
  ·rename_i A
   split at j
   ·rename_i l;subst l;obtain rfl:=ZEI j;simp only [Rn.val];simp [eqGuard,binOp,Op.equal,Op.maxDepth,run_equalIn_bool' w 9999 _ _ _ (Zl5 A)]
   ·cases j
  ·cases j
 ·cases j
theorem Zki {f:Nat} (j:Y9 P f=true) {c:Call} {d:Option Nat} {ty:TypeId} {pos:String} {p:Array Edge} (hc:c.callee= .value (.func f)):
  (execOp a.eval ⟨d,.call c,ty,pos,p,none⟩).run P w= .ok (.enter f (c.args.map a.eval)) w:=by
 unfold Y9 at j
 split at j
 ·rename_i fn m;simp only [ZEM,bne_iff_ne,ne_eq] at j;obtain ⟨k,r⟩:∃k,fn.body=some k:=Hk.1 j.2;obtain ⟨l,o,t⟩:=c;simp only at hc;subst hc;simp [execOp,resolve,Act.eval,Deferred.ofValue,invoke,callFunc,m,j.1,r]
 ·cases j
def isV (o:Oper):Bool:=match o.op with
 | .store _ _ _=>false
 | .call c=>match c.callee with
  | .value (.func _)=>false
  | _=>true
 | _=>true
theorem Zmv {d:Option Nat} {c:Call} {ty:TypeId} {pos:String} {j:Array Edge} {gd:Option (Nat×Bool)}:isV ⟨d,.call c,ty,pos,j,gd⟩=match c.callee with
  | .value (.func _)=>false
  | _=>true:=rfl
theorem ZoL (H:Hy P C R M) {o:Oper} (h:XR C R M s a w) (l:xop P C s o=some s') (hd:isV o=true):∃u,ZoK C s o.dst u=some s'/\(execOp a.eval o).run P w= .ok (.value (R.val u)) w:=by
 unfold xop at l
 split at l
 ·obtain ⟨u,A,k⟩:=Hq.1 l;exact ⟨u,k,by simp [execOp,h.av A]⟩
 ·obtain ⟨u,A,k⟩:=Hq.1 l;exact ⟨u,k,by simp [execOp,h.av A]⟩
 ·rename_i d op t x y t' X E U;obtain ⟨u,A,k⟩:=Hq.1 l;obtain ⟨v,p,h4⟩:=Hq.1 k;obtain ⟨r,h5,h6⟩:=Hq.1 h4;refine ⟨r,h6,Zcl (s:=(do eqGuard op t x y (a.eval x) (a.eval y);binOp op t (a.eval x) (a.eval y))) (by simp only [execOp]) ?_⟩;rw [h.av A,h.av p];exact Zru H h5 x y
 ·rename_i d t x y X E U
  split at l
  ·rename_i A k
   split at l
   ·rename_i p;unfold ZC1 at p;simp only [ZEM] at p;obtain ⟨h0,p⟩:=p;obtain ⟨b4,g2,g3,_,g4⟩:=H.ix h0
    split at p
    ·rename_i et _ _ _ B
     split at p
     ·rename_i ei Z;have b2:ei.size=C.W:=by simpa using p
      refine ⟨.el 0,l,Zcl (s:=Instr.indexAt t (a.eval x) (a.eval y)) (by simp only [execOp]) ?_⟩;rw [h.av A,h.av k];simp only [Rn.val,g2,g4];simp [Instr.indexAt,asIntOf,run_underlying (Xp B),g3,Yr Z,Addr.add_lit,b2]
     ·cases p
    ·cases p
   ·cases l
  ·cases l
 ·rename_i d t x f X E U
  split at l
  ·rename_i o A;obtain ⟨q,k,p⟩:=Hq.1 l;unfold ZC2 at k
   split at k
   ·rename_i fs _ _ _ B;obtain ⟨b5,hu,rfl⟩:=Zf9 B
    split at k
    ·rename_i b4 ft hf;obtain ⟨fd,b0,rfl,rfl⟩:=ZmI hf
     split at k
     ·rename_i fi b1
      split at k
      ·cases k
      ·rename_i hz;obtain rfl:=ZEI k;refine ⟨.el (o+fd.offset),p,Zcl (s:=Instr.fieldAt t (a.eval x) f) (by simp only [execOp]) ?_⟩;rw [h.av A];simp [Rn.val,Instr.fieldAt,run_underlying hu,b0,Instr.sureAddr,fieldPlace,Yr b1,hz,Addr.add_lit,Gx]
     ·cases k
    ·cases k
   ·cases k
  ·cases l
 ·rename_i d t x X E U
  split at l
  ·rename_i o A;obtain ⟨u,k,p⟩:=Hq.1 l
   have b3:(loadVar t ⟨R.b,R.base+o,none⟩).run P w= .ok (R.val u) w:=by
    unfold xld at k
    split at k
    ·rename_i i f n g td sz _ _ hit B
     split at k
     ·rename_i G;obtain ⟨rfl,G,hn⟩:=G;obtain rfl:=ZEI k;obtain ⟨m,e0,Y⟩:=Zhu hit;obtain rfl:i=m:=by omega
      obtain ⟨vs,q1,q2,q3,q4⟩:=H.hc _ w i o f _ g h.m Y;cases g with
      | true=>
       obtain ⟨u,T,r2,_⟩:=Xk (P:=P) q1 B q2 G (λe=>by cases e);rw [T,r2 rfl,Rn.val,q3 rfl]
      | false=>
       obtain ⟨u,T,_,r3⟩:=Xk (P:=P) q1 B q2 G (λ_=>⟨_,q4 rfl⟩);have e:=(r3 rfl).symm.trans (q4 rfl);obtain ⟨rfl,_⟩:=List.cons.inj e;rw [T,Rn.val]
     ·cases k
    all_goals first
     | (cases k;done)
     | (rename_i i _ _ hit B
        split at k
        ·rename_i G;obtain rfl:=ZEI k;obtain ⟨m,e0,Y⟩:=Zhu hit;obtain rfl:i=m:=by omega
         have q:=H.ld G _ w i o _ h.m Y rfl
         obtain ⟨u,T,_,r3⟩:=Xk (P:=P) (vs:=[_]) (λj v hj=>by
          cases j with
          | zero=>obtain rfl:=ZEI hj;exact q
          | succ j=>simp at hj) B rfl rfl (λ_=>⟨_,rfl⟩)
         obtain ⟨rfl,_⟩:=List.cons.inj (r3 rfl);exact T
        ·cases k)
   refine ⟨u,p,Zcl (s:=Instr.loadAt t (a.eval x)) (by simp only [execOp]) ?_⟩;rw [h.av A];simp [Rn.val,Instr.loadAt,Instr.sureAddr,b3]
  ·cases l
 ·cases hd
 ·rename_i d c X E U
  split at l
  ·rename_i f z;rw [Zmv,z] at hd;cases hd
  ·rename_i z
   split at l
   ·rename_i x t Q J;obtain ⟨W,I,ts⟩:=c;simp only at z Q J l;subst z;have S:I= #[x]:=by rw [<-HJ];exact Q
    have O:ts= #[t]:=by rw [<-HJ];exact J
    subst S O
    split at l
    ·rename_i et _ _ _ A B;refine ⟨.ln,l, ?_⟩;have hv:=h.av A;simp only [Rn.val] at hv;simp [execOp,resolve,invoke,builtin,Builtin.len_,hv,run_underlying (Xp B),goInt,Rn.val]
    ·cases l
   ·cases l
  ·cases l
 ·cases l
theorem ZsB (H:Hy P C R M) {o:Oper} (h:XR C R M s a w) (p:xop P C s o=some s') {K:Act->World->Prop} {Q:Exit->Act->World->Prop} (hK:∀a' w',XR C R M s' a' w'->K a' w'):o.wp P a w K Q:=by
 by_cases hd:isV o=true
 ·obtain ⟨u,E,G⟩:=ZoL H h p hd;exact ZuY h G E hK
 unfold xop at p
 split at p
 all_goals first
  | (exact absurd rfl hd)
  | skip
 ·rename_i t x y ty J X
  split at p
  ·rename_i o u E G
   split at p
   ·rename_i l;obtain rfl:=ZEI p
    have W:∃(k:MK) (sz:TI),C.held=false/\C.ks[s.2]? =some (o,k)/\k.sc=true/\R.val u=k.mark R s.2/\ti P t=some sz/\sz.size=1:=by
     unfold xst at l;simp only [ZEM,Ga] at l;obtain ⟨h0,l⟩:=l
     split at l
     all_goals first
      | (cases l;done)
      | (rename_i T S
         simp only [ZEM,beq_iff_eq] at l;obtain ⟨rfl,rfl⟩:=l;exact ⟨_,_,h0,T,rfl,rfl,S,rfl⟩)
    obtain ⟨k,i,q0,q1,Z,q3,q4,q5⟩:=W;obtain ⟨⟨u0,e1⟩,e2,e3⟩:=H.st q0 _ w o k h.m q1 Z;have B:(k.mark R s.2).cells= #[k.mark R s.2]/\(k.mark R s.2).oneCell'=true:=by cases k<;>first | exact ⟨rfl,rfl⟩| cases Z
    have U:=run_storeCells_cells (P:=P) R.b (R.base+o) [k.mark R s.2] 0 w (λj hj=>by
     obtain rfl:j=0:=by simpa using hj
     show (w.cell? ⟨R.b,R.base+o,none⟩).isSome=true;rw [e1];rfl) (λj hj=>by
     obtain rfl:j=0:=by simpa using hj
     exact e2) (λv hv=>by obtain rfl:=Hu.1 hv;exact B.2)
    have I:(execOp a.eval ⟨none,.store t x y,ty,J,X,none⟩).run P w= .ok .skip (w.setCell ⟨R.b,R.base+o,none⟩ (k.mark R s.2)):=by
     have hs:(Instr.storeAt t (a.eval x) (a.eval y)).run P w= .ok () (w.setCell ⟨R.b,R.base+o,none⟩ (k.mark R s.2)):=by
      rw [h.av E,h.av G,q3];simp only [Rn.val];simp [Instr.storeAt,Instr.sureAddr,storeVar,Yr q4,B.1,q5]
      simpa [World.setCells] using U
     simp only [execOp];rw [Sem.run_bind,hs];rfl
    unfold Oper.wp;rw [I,Oper.upon_skip];exact hK _ _ ⟨h.sz,h.tm,e3,h.df⟩
   ·cases p
  ·cases p
 ·rename_i d c ty J X
  split at p
  ·rename_i f m;obtain ⟨us,E,G⟩:=Hq.1 p;obtain ⟨r,l,Y⟩:=Hq.1 G
   have z:c.args.map a.eval=(us.map R.val).toArray:=by
    rw [<-h.avs E,<-HJ];simp
   unfold ZaK at l
   split at l
   ·rename_i i
    split at l
    ·rename_i B;obtain ⟨rfl,A⟩:=B;obtain rfl:=ZEI l;unfold Oper.wp;rw [Zki A m,Oper.upon_enter,z];refine (H.mt w (R.cnt i) (H.cb i).1 (H.cb i).2).mono λen w' hR=> ?_;obtain ⟨rfl,O⟩:=hR;exact hK _ _ (XR.put (s:=(s.1,s.2)) h.sz h.tm (H.bl _ _ _ h.m O) h.df Y)
    ·cases l
   ·rename_i i j
    split at l
    ·rename_i o g n gg T
     split at l
     ·rename_i B;obtain ⟨rfl,S,rfl,A⟩:=B;obtain rfl:=ZEI l;unfold Oper.wp;rw [Zki A m,Oper.upon_enter,z];refine (H.cl _ w o _ n gg (S.elim (λe=>H.hm e _ _ w h.m) λe=>e▸h.m) T).mono λen w' hR=> ?_;obtain ⟨rfl,O⟩:=hR;exact hK _ _ (XR.put (s:=(s.1,_+1)) h.sz h.tm O h.df Y)
     ·cases l
    ·cases l
   ·cases l
  ·rename_i m;rw [Zmv,m] at hd;exact absurd rfl hd
  ·cases p
 ·cases p
theorem Zk2 (H:Hy P C R M) {ops:Array Oper} {Q:Exit->Act->World->Prop}:∀{l:List Oper} {s:XS} {a:Act} {w:World},XR C R M s a w->ZyK P C l s=some s'->(∀o∈l,o.guard=none)->(∀a' w',XR C R M s' a' w'->Q .normal a' w')->wpList P ops Q l a w
 | [],s,a,w,h,k,_,j=>by
  obtain rfl:=ZEI k;exact wpList_nil (j _ _ h)
 | o::l,s,a,w,h,k,m,j=>by
  obtain ⟨z,r,t⟩:=Hq.1 k;refine wpList_plain (m o Ha) λK hK=>ZsB H h r λa' w' p=>hK _ _ (Zk2 H p t (λo ho=>m o (by simp [ho])) j)
theorem ZsD {o:Oper} (j:xop P C s o=some s'):o.guard=none:=by
 unfold xop at j
 split at j<;>first | rfl| cases j
theorem Zht:∀{l:List Oper} {s:XS},ZyK P C l s=some s'->∀o∈l,o.guard=none
 | [],_,_,_,ho=>by simp at ho
 | o::l,s,m,p,ho=>by
  obtain ⟨r,j,k⟩:=Hq.1 m;rcases Hc.1 ho with rfl| ho
  ·exact ZsD j
  ·exact Zht k p ho
theorem ZlK {d:Option Nat} {u v:AV} (h:ZoK C s d u=some s') (j:ZoK C s d v=some s'):u=v/\s'.2=s.2:=by
 unfold ZoK at h j
 split at h
 ·split at h
  ·rename_i hd;simp only [if_pos hd] at j;obtain rfl:=ZEI h;have:=ZEI j;simp only [ZEL,List.cons.injEq] at this;exact ⟨this.1.1.2.symm,rfl⟩
  ·cases h
 ·cases h
theorem ZsC (H:Hy P C R M) {o:Oper} (j:M s.2 w) (h:∀w,M s.2 w->XR C R M s a w) (p:xop P C s o=some s') (hq:xq o=true):
  s'.2=s.2/\∃v,(∀w,M s.2 w->o.quietAt P a (M s.2) w v)/\∀w,M s'.2 w->XR C R M s' (a.put o.dst v) w:=by
 by_cases hd:isV o=true
 ·obtain ⟨u,t,G⟩:=ZoL H (h w j) p hd;have m:=(ZlK t t).2;refine ⟨m,R.val u,λw j=> ?_,λw j=> ?_⟩
  ·obtain ⟨v,O,Q⟩:=ZoL H (h w j) p hd;unfold Oper.quietAt;rw [Q,(ZlK O t).1];exact ⟨rfl,rfl⟩
  ·rw [m] at j;have:=h w j;exact XR.put this.sz this.tm j this.df t
 unfold xop at p
 split at p
 all_goals first
  | (exact absurd rfl hd)
  | (cases hq;done)
  | skip
 ·rename_i d c U S T
  split at p
  ·rename_i f k;obtain ⟨I,t,G⟩:=Hq.1 p;obtain ⟨r,m,A⟩:=Hq.1 G
   have l:∀w,M s.2 w->c.args.map a.eval=(I.map R.val).toArray:=λw j=>by
    rw [<-(h w j).avs t,<-HJ];simp
   have z:I.length=1:=by
    have:=congrArg Array.size (l w j);unfold xq at hq;simp only [k,beq_iff_eq] at hq;simp only [Array.size_map,hq,GI,HO] at this;exact this.symm
   unfold ZaK at m
   split at m
   ·rename_i i
    split at m
    ·rename_i J;obtain ⟨rfl,B⟩:=J;obtain rfl:=ZEI m;have E:=(ZlK A A).2;refine ⟨E,R.val (.tx i),λw j=> ?_,λw j=> ?_⟩
     ·unfold Oper.quietAt;rw [Zki B k,l w j];refine ⟨rfl,(H.mt w (R.cnt i) (H.cb i).1 (H.cb i).2).mono λen W hR=>⟨hR.1,H.bl _ _ _ j hR.2⟩⟩
     ·have j:M s.2 w:=E▸j;have:=h w j;exact XR.put (s:=(s.1,s.2)) this.sz this.tm j this.df A
    ·cases m
   ·simp at z
   ·cases m
  ·rename_i k;rw [Zmv,k] at hd;exact absurd rfl hd
  ·cases p
 ·cases p
theorem Zk3 (H:Hy P C R M) {ops:Array Oper} {K:Act->Prop}:∀{l:List Oper} {s:XS} {a:Act},M s.2 w->(∀w,M s.2 w->XR C R M s a w)->ZyK P C l s=some s'->(∀o∈l,o.guard=none/\xq o=true)->(s'.2=s.2->∀a',(∀w,M s'.2 w->XR C R M s' a' w)->K a')->wpQuiet P ops (M s.2) K l a
 | [],s,a,m,h,r,_,hK=>by
  obtain rfl:=ZEI r;exact wpQuiet_nil (hK rfl a h)
 | o::l,s,a,m,h,r,t,hK=>by
  obtain ⟨Q,E,G⟩:=Hq.1 r;obtain ⟨z,A⟩:=t o Ha;obtain ⟨j,v,I,J⟩:=ZsC H m h E A;refine wpQuiet_step λO k=> ?_;have p:Region.wanted o (yielded ops a.tmps)=true:=by unfold Region.wanted;rw [z]
  rw [if_pos p];refine ⟨v,I,k _ ?_⟩;have:=Zk3 (ops:=ops) (K:=K) H (j▸m) J G (λo ho=>t o (by simp [ho])) λe a' B=>hK (e.trans j) a' B
  rwa [j] at this
theorem VC (H:Hy P C R M):∀{c:Code} {s s':XS} {a:Act} {w:World} {Q:Exit->Act->World->Prop},XR C R M s a w->ZfE P C c s=some s'->(∀a' w',XR C R M s' a' w'->Q .normal a' w')->c.wp P Q a w:=by
 intro c
 induction c with
 | region id T fl=>
  intro s s' a w Q h j k;cases fl with
  | true=>
   simp only [ZfE] at j
   split at j
   ·rename_i p;simp only [ZEM,Hj] at p;obtain ⟨⟨z,A⟩,B⟩:=p;have O:=Zht j;exact wp_region_quiet (C:=M s.2) z A (H.bl _ _ _ h.m (Below.refl _ _).drew) (Zk3 H h.m (λw S=>⟨h.sz,h.tm,S,h.df⟩) j (λo ho=>⟨O o ho,B o ho⟩) λe a' r w' t=>k _ _ (r w' (e▸t)))
   ·cases j
  | false=>
   simp only [ZfE] at j;exact wp_region_list (Zk2 H h j (Zht j) k)
 | seq E G m l=>
  intro s s' a w Q h j k;obtain ⟨U,I,J⟩:=Hq.1 j;exact wp_seq (m h I λa' w' r=>l r J k)
 | skip=>
  intro s s' a w Q h j k;obtain rfl:=ZEI j;exact wp_skip (k _ _ h)
 | cond x E G m l=>
  intro s s' a w Q h j k;simp only [ZfE] at j
  split at j
  ·rename_i p;exact wp_cond_false (h.av p) (l h j k)
  ·cases j
 | _=>intro s s' a w Q h j k;cases j
def Cf.dead (C:Cf):Cf:=⟨C.nt,C.W,C.mt,false,false,[]⟩
def ZyW (s:XS) (l:List (Nat×AV)):Bool:=l.all λp=>decide (s.1.lookup p.1=some p.2)
def Zm9 (P:Program) (C:Cf):Code->Bool
 | .seq l (.seq (.seq m (.block j (.loop (.seq (.seq o (.cond x .skip (.exit k))) (.seq (.block _ t) p))))) (.seq r .ret))=>
  decide (j=k)&&decide (C.live=true)&&
  (match (ZfE P C.dead l ([(0,.sl),(1,.kk 0)],0)).bind (ZfE P C.dead m) with
   | some s=>ZyW s [(0,.sl),(1,.kk 0),(5,.ci 0)]&&decide (s.2=0)
   | none=>false)&&
  (match ZfE P C.dead o ([(0,.sl),(1,.kk 0),(5,.ix)],0) with
   | some s=>decide (xav s.1 x=some .lt)&&decide (s.2=0)&&
    (match ZfE P C.dead r s with
     | some s=>ZyW s [(4,.kk 0)]&&decide (s.2=0)
     | none=>false)&&
    (match (ZfE P C t s).bind (ZfE P C p) with
     | some s=>ZyW s [(0,.sl),(1,.kk C.ks.length),(5,.ix1)]&&(C.held||decide (s.2=C.ks.length))
     | none=>false)
   | none=>false)
 | _=>false
theorem Jv {s:XS} {l:List (Nat×AV)} (h:ZyW s l=true) {t:Nat} {u:AV} (hm:(t,u)∈l):s.1.lookup t=some u:=by
 have:=Hj.1 h _ hm
 simpa using this
theorem XR.less (h:XR C R M s a w) {C':Cf} (r:C'.nt=C.nt) {l:Rn} {k:Nat->World->Prop} {tm:List (Nat×AV)} {i:Nat} (hm:k i w)
  (z:∀t u,tm.lookup t=some u->∃j,s.1.lookup t=some j/\R.val j=l.val u):XR C' l k (tm,i) a w:=
 ⟨h.sz.trans r.symm,λt u A=>by
  obtain ⟨j,o,p⟩:=z t u A;rw [h.tm t j o,p],hm,h.df⟩
theorem Hy.dead (cb:∀i,0<=R.cnt i/\R.cnt i<=1099511627776) (bl:∀m w w',M m w->Below w.heap.size w w'->M m w')
  (mt:∀w (k:Int),0<=k->k<=1099511627776->Calls P C.mt #[.int .i64 k] w λe w'=>e= .returned (.string (ZjX k))/\Below w.heap.size w w'):Hy P C.dead R M where
 cb:=cb
 c1:=λi o k h=>by simp [Cf.dead] at h
 ix:=λh=>by simp [Cf.dead] at h
 hc:=λm w i o f n g _ h=>by simp [Cf.dead] at h
 ld:=λ_ m w i o k _ h=>by simp [Cf.dead] at h
 st:=λ_ m w o k _ h=>by simp [Cf.dead] at h
 cl:=λm w o f n g _ h=>by simp [Cf.dead] at h
 hm:=λh=>by cases h
 bl:=bl
 mt:=mt
theorem Zjn {f:Nat} {fn:Func} {c:Code} (hf:P.funcs[f]? =some fn) (hb:fn.body=some c) (hr:fn.results= #[.tmp 4]) (b7:fn.ntmps=C.nt) (h2:2<=C.nt) (W:Zm9 P C c=true)
  {A:Option Addr} {n cp:Nat} {k:Int} (o:Nat->Rn) (J:Nat->Nat->World->Prop) (Z:∀j,(o j).A=A/\(o j).n=n/\(o j).c=cp/\(o j).j=j)
  (U:∀j,j<n->(o j).cnt C.ks.length=(o (j+1)).cnt 0) (hM:∀j w,j<n->J j C.ks.length w->J (j+1) 0 w)
  (X:∀j,j<=n->Hy P C.dead (o j) (J j)) (Y:∀j,j<n->Hy P C (o j) (J j)) {w:World} (hw:J 0 0 w) (hk:(o 0).cnt 0=k):
  Calls P f #[.slice A n cp,.int .i64 k] w λe w'=>e= .returned (.int .i64 ((o n).cnt 0))/\J n 0 w':=by
 unfold Zm9 at W
 split at W
 ·rename_i r0 r1 i0 r2 x i1 i2 st r3 r4;simp only [ZEM,decide_eq_true_eq] at W;obtain ⟨⟨⟨hi,hl⟩,r⟩,O⟩:=W;subst hi
  split at r
  ·rename_i s0 b8;simp only [ZEM,decide_eq_true_eq] at r;obtain ⟨sa,b2,b3⟩:=Hq.1 b8
   split at O
   ·rename_i s1 b9;simp only [ZEM,decide_eq_true_eq] at O;obtain ⟨⟨⟨b6,c2⟩,I⟩,B⟩:=O
    split at I
    ·rename_i s4 c1;simp only [ZEM,decide_eq_true_eq] at I
     split at B
     ·rename_i s3 c0;simp only [ZEM,Gv,decide_eq_true_eq] at B;obtain ⟨sb,b4,b5⟩:=Hq.1 c0;refine calls_of_wp hf hb ?_;obtain ⟨e1,e2,e3,e4⟩:=Z 0
      have b0:XR C.dead (o 0) (J 0) ([(0,.sl),(1,.kk 0)],0) { tmps:= #[Value.slice A n cp,.int .i64 k]++Array.replicate (fn.ntmps-(#[Value.slice A n cp,.int .i64 k]:Array Value).size) undef,defers:=[]} w:=by
       refine ⟨?_,λt u l=> ?_,hw,rfl⟩
       ·simp [b7,Cf.dead];omega
       ·simp only [List.lookup] at l
        split at l
        ·rename_i p;obtain rfl:t=0:=by simpa using p
         obtain rfl:=ZEI l;rw [HQ,GE Ha];simp [Rn.val,e1,e2,e3]
        ·split at l
         ·rename_i p;obtain rfl:t=1:=by simpa using p
          obtain rfl:=ZEI l;rw [HQ,GE Ha];simp [Rn.val,hk]
         ·cases l
      refine wp_seq (VC (X 0 WF) b0 b2 λa w Q=> ?_);refine wp_seq (wp_seq (VC (X 0 WF) Q b3 λa w Q=> ?_));refine wp_block ?_;refine wp_loop (λa w=>∃j,j<=n/\XR C.dead (o j) (J j) ([(0,.sl),(1,.kk 0),(5,.ix)],0) a w) (λa _=>n-(match a.tmps.getD 5 undef with | .int _ z=>z.toNat| _=>0)) ⟨0,WF, ?_⟩ ?_
      ·refine Q.less rfl (r.2▸Q.m) λt u l=> ?_;simp only [List.lookup] at l
       split at l
       ·rename_i p;obtain rfl:t=0:=by simpa using p
        obtain rfl:=ZEI l;exact ⟨_,Jv r.1 Ha,rfl⟩
       ·split at l
        ·rename_i p;obtain rfl:t=1:=by simpa using p
         obtain rfl:=ZEI l;exact ⟨_,Jv r.1 Ha,rfl⟩
        ·split at l
         ·rename_i p;obtain rfl:t=5:=by simpa using p
          obtain rfl:=ZEI l;exact ⟨_,Jv r.1 (u:=.ci 0) Ha,by simp [Rn.val,e4]⟩
         ·cases l
      ·rintro a w ⟨j,hj,Q⟩;obtain ⟨f1,f2,f3,f4⟩:=Z j;have h5:a.tmps.getD 5 undef= .int .i64 j:=by rw [Q.tm 5 .ix rfl];simp [Rn.val,f4]
       refine wp_seq (wp_seq (VC (X j hj) Q b9 λa1 w1 E=> ?_));refine wp_cond (E.av b6) ?_;simp only [f4,f2]
       by_cases m:j<n
       ·rw [decide_eq_true m];refine wp_skip ?_;have G:XR C (o j) (J j) s1 a1 w1:=⟨E.sz,E.tm,E.m,E.df⟩;refine wp_seq (wp_block (VC (Y j m) G b4 λa2 w2 b1=> ?_));refine VC (Y j m) b1 b5 λa3 w3 S=> ?_;obtain ⟨g1,g2,g3,g4⟩:=Z (j+1)
        have T:XR C.dead (o (j+1)) (J (j+1)) ([(0,.sl),(1,.kk 0),(5,.ix)],0) a3 w3:=by
         refine S.less (C':=C.dead) rfl (hM j w3 m (B.2.elim (λe=>(Y j m).hm e _ _ _ S.m) λe=>e▸S.m)) λt u l=> ?_;simp only [List.lookup] at l
         split at l
         ·rename_i p;obtain rfl:t=0:=by simpa using p
          obtain rfl:=ZEI l;exact ⟨_,Jv B.1 (u:=.sl) Ha,by simp [Rn.val,f1,f2,f3,g1,g2,g3]⟩
         ·split at l
          ·rename_i p;obtain rfl:t=1:=by simpa using p
           obtain rfl:=ZEI l;exact ⟨_,Jv B.1 (u:=.kk C.ks.length) Ha,by simp only [Rn.val,U j m]⟩
          ·split at l
           ·rename_i p;obtain rfl:t=5:=by simpa using p
            obtain rfl:=ZEI l;exact ⟨_,Jv B.1 (u:=.ix1) Ha,by simp [Rn.val,f4,g4]⟩
           ·cases l
        refine ⟨⟨j+1,m,T⟩, ?_⟩;have h6:a3.tmps.getD 5 undef= .int .i64 ((j+1:Nat):Int):=by rw [T.tm 5 .ix rfl];simp [Rn.val,g4]
        simp only [h5,h6,Gb];exact Nat.sub_lt_sub_left m (Nat.lt_succ_self j)
       ·obtain rfl:j=n:=by omega
        rw [decide_eq_false m];refine wp_exit ?_;simp only [Exit.then,Exit.inBlock,if_true];refine wp_seq (VC (X j hj) E c1 λa2 w2 G=>wp_ret ?_);refine ⟨G.df,.int .i64 ((o j).cnt 0), ?_,rfl,I.2▸G.m⟩;have h4:=G.tm 4 (.kk 0) (Jv I.1 Ha);unfold results;rw [hr]
        simpa [Rn.val,HQ] using h4
     ·cases B
    ·cases I
   ·cases O
  ·cases r
 ·cases W
def ZA5 (P:Program) (C:Cf):Code->XS->Option XS
 | .seq a b,s=>(ZfE P C a s).bind (ZA5 P C b)
 | .ret,s=>some s
 | _,_=>none
theorem Zrt (H:Hy P C R M):∀{c:Code} {s s':XS} {a:Act} {w:World} {Q:Exit->Act->World->Prop},XR C R M s a w->ZA5 P C c s=some s'->(∀a' w',XR C R M s' a' w'->Q .ret a' w')->c.wp P Q a w:=by
 intro c
 induction c with
 | seq t z r l=>
  intro s s' a w Q h j k;obtain ⟨A,o,p⟩:=Hq.1 j;exact wp_seq (VC H h o λa' w' m=>l m p k)
 | ret=>
  intro s s' a w Q h j k;obtain rfl:=ZEI j;exact wp_ret (k _ _ h)
 | _=>intro s s' a w Q h j k;cases j
def Zk4 (P:Program) (C:Cf):Code->Bool
 | .seq (.region _ k false) j=>
  (match k.toList with
   | [⟨some 2,.box _ (.tmp 0),_,_,_,none⟩,⟨some 4,.assign (.const (.int .i64 0)),_,_,_,none⟩]=>true
   | _=>false)&&
  (match ZA5 P C j ([(1,.kk 0),(2,.el 0),(4,.ci 0)],0) with
   | some s=>ZyW s [(4,.kk C.ks.length)]&&decide (s.2=C.ks.length)
   | none=>false)
 | _=>false
theorem Zie {f:Nat} {fn:Func} {c:Code} (hf:P.funcs[f]? =some fn) (hb:fn.body=some c) (hr:fn.results= #[.tmp 4]) (O:fn.ntmps=C.nt) (h2:5<=C.nt) (r:Zk4 P C c=true)
  {vs:List Value} {k:Int} {w:World} (J:R.base=0) (I:R.b=w.heap.size) (hk:R.cnt 0=k) (hw:∀t,M 0 (w.alloc (.cells vs.toArray t))) (H:Hy P C R M):
  Calls P f #[.agg vs.toArray,.int .i64 k] w λe w'=>e= .returned (.int .i64 (R.cnt C.ks.length))/\M C.ks.length w':=by
 unfold Zk4 at r
 split at r
 ·rename_i id ops X;simp only [ZEM] at r;obtain ⟨z,j⟩:=r
  split at z
  ·rename_i t ty pos Y S A B p
   split at j
   ·rename_i s1 Q;simp only [ZEM,decide_eq_true_eq] at j;refine calls_of_wp hf hb ?_;refine wp_seq (wp_region_list ?_);rw [p]
    have T:({ tmps:= #[Value.agg vs.toArray,.int .i64 k]++Array.replicate (fn.ntmps-(#[Value.agg vs.toArray,.int .i64 k]:Array Value).size) undef,defers:=[]}:Act).eval (.tmp 0)= .agg vs.toArray:=by
     show Array.getD _ 0 undef=_;rw [HQ,GE Ha];simp
    have U:({ tmps:= #[Value.agg vs.toArray,.int .i64 k]++Array.replicate (fn.ntmps-(#[Value.agg vs.toArray,.int .i64 k]:Array Value).size) undef,defers:=[]}:Act).tmps.getD 1 undef= .int .i64 k:=by
     rw [HQ,GE Ha];simp
    have W:({ tmps:= #[Value.agg vs.toArray,.int .i64 k]++Array.replicate (fn.ntmps-(#[Value.agg vs.toArray,.int .i64 k]:Array Value).size) undef,defers:=[]}:Act).tmps.size=C.nt:=by simp [O];omega
    generalize ha:({ tmps:= #[Value.agg vs.toArray,.int .i64 k]++Array.replicate (fn.ntmps-(#[Value.agg vs.toArray,.int .i64 k]:Array Value).size) undef,defers:=[]}:Act)=a at T U W ⊢;have gd:a.defers=[]:=by rw [<-ha]
    refine wpList_plain rfl λK hK=> ?_
    have r1:(execOp a.eval ⟨some 2,.box t (.tmp 0),ty,pos,Y,none⟩).run P w= .ok (.value (.pointer (some ⟨w.heap.size,0,none⟩))) (w.alloc (.cells vs.toArray t)):=by
     simp [execOp,T,Instr.box,newVar,newRow,Value.cells]
    unfold Oper.wp;rw [r1,Oper.upon_value];refine hK _ _ (wpList_plain rfl λK2 G=> ?_);unfold Oper.wp;rw [show (execOp (a.put (some 2) (.pointer (some ⟨w.heap.size,0,none⟩))).eval ⟨some 4,.assign (.const (.int .i64 0)),S,A,B,none⟩).run P (w.alloc (.cells vs.toArray t))= .ok (.value (.int .i64 0)) (w.alloc (.cells vs.toArray t)) by simp [execOp,Act.eval],Oper.upon_value];refine G _ _ (wpList_nil ?_)
    have hX:XR C R M ([(1,.kk 0),(2,.el 0),(4,.ci 0)],0) ((a.put (some 2) (.pointer (some ⟨w.heap.size,0,none⟩))).put (some 4) (.int .i64 0)) (w.alloc (.cells vs.toArray t)):=by
     refine ⟨by rw [Z2,Z2];exact W,λm u l=> ?_,hw t,by rw [ZO,ZO];exact gd⟩;simp only [List.lookup] at l
     split at l
     ·rename_i o;obtain rfl:m=1:=by simpa using o
      obtain rfl:=ZEI l;rw [Vn _ _ _ _ (by decide),Vn _ _ _ _ (by decide),U];simp [Rn.val,hk]
     ·split at l
      ·rename_i o;obtain rfl:m=2:=by simpa using o
       obtain rfl:=ZEI l;rw [Vn _ _ _ _ (by decide),Ud _ _ _ WF];simp [Rn.val,J,I]
      ·split at l
       ·rename_i o;obtain rfl:m=4:=by simpa using o
        obtain rfl:=ZEI l;rw [Ud _ _ _ (by rw [Z2];omega)];rfl
       ·cases l
    refine Zrt H hX Q λa' w' E=> ?_;refine ⟨E.df,.int .i64 (R.cnt C.ks.length), ?_,rfl,j.2▸E.m⟩;have Z:=E.tm 4 (.kk C.ks.length) (Jv j.1 Ha);unfold results;rw [hr]
    simpa [Rn.val,HQ] using Z
   ·cases j
  ·cases z
 ·cases r
end
end Go.Proofs.YtmcfegjoccgpoaaGreatDoor.Am
