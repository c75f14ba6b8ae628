import Derived.Test.YtmcfegjoccgpoaaGreatDoorZJ15
import Derived.Test.YtmcfegjoccgpoaaGreatDoorZJ9
set_option linter.unusedSimpArgs false
set_option linter.unusedVariables false
namespace Go.Proofs.YtmcfegjoccgpoaaGreatDoor
open Go.RowKit Am
def Zfg (e:Za) (k:List Zl) (j fr:Nat->Bool) (id:Int):Bool:=
 decide (0<=cix e.notebook id)&&decide (cix e.notebook id<k.length)&&decide (0<=eix e id)&&(match e.entries[(eix e id).toNat]? with | some x=>x.has| none=>false)&&fr (cix e.notebook id).toNat&&!j (cix e.notebook id).toNat
theorem ZAx {e:Za} {j:List Zl} {m fr kn:Nat->Bool} {l:Nat->List Int} (K:Kn e j m fr kn l) {k:Nat} (w:∀id,ZX k e id=some (eix e id)/\Z6 k e id=some (eix e id)) (z:∀id,YD k e.notebook id=some (cix e.notebook id)/\YR k e.notebook id=some (cix e.notebook id)) (id:Int):
  Zeo k e (Yb.mk j (tb j.length m) (tb j.length fr) (tb j.length kn) (tb j.length l)) id=some (Zfg e j m fr id,Yb.mk j (tb j.length m) (tb j.length fr) (tb j.length kn) (tb j.length l)):=by
 have hl:=K.nl;have A:GZ ((j.length:Int)-1)=(j.length:Int)-1:=w64 WF WF;have C:=Zoj (e:=e) id;unfold Zeo Zfg;rw [(z id).1,(w id).1];simp only [ZEH,U5,A]
 by_cases p:0<=cix e.notebook id
 case neg=>rw [decide_eq_false p];simp
 by_cases r:cix e.notebook id<j.length
 case neg=>rw [decide_eq_false r,decide_eq_false (show ¬cix e.notebook id<=(j.length:Int)-1 from WF)];simp
 rw [decide_eq_true p,decide_eq_true r,decide_eq_true (show cix e.notebook id<=(j.length:Int)-1 from WF)]
 by_cases s:0<=eix e id
 case neg=>rw [decide_eq_false s];simp
 have o:(eix e id).toNat<e.entries.length:=WF
 have t:=ZQ o;rw [show (((eix e id).toNat:Nat):Int)=eix e id from WF] at t;have hq:(cix e.notebook id).toNat<j.length:=WF
 have B:(((cix e.notebook id).toNat:Nat):Int)=cix e.notebook id:=WF
 have t1:=ZjA (f:=fr) hq;have t2:=ZjA (f:=m) hq;rw [B] at t1 t2;rw [decide_eq_true s,t,ZEP o];simp only [Bool.and_self,if_true,ZEH,Gt,t1,t2];cases e.entries[(eix e id).toNat].has<;>cases fr (cix e.notebook id).toNat<;>simp
theorem ZAy {e:Za} {j:List Zl} {p fr kn:Nat->Bool} {m:Nat->List Int} (K:Kn e j p fr kn m) {k:Nat} (A:∀i,i<j.length->IsF e j fr k i/\IsS e j fr kn m k i) (B:∀i,i<j.length->∃v,ZN k j (i:Int)=some (v,p i)) (C:∀id,ZX k e id=some (eix e id)/\Z6 k e id=some (eix e id)) (E:∀id,YD k e.notebook id=some (cix e.notebook id)/\YR k e.notebook id=some (cix e.notebook id)) (id:Int) (M:List (Int×Bool)) (hM:Con j.length fr M):
  ∃o,Con j.length fr o/\QR k id e j M=some (Zfg e j p fr id,o):=by
 have hl:=K.nl;have I:=Zoj (e:=e) id;unfold QR Zfg;rw [(E id).2,(C id).2];simp only [ZEH]
 by_cases t:0<=eix e id
 case neg=>exact ⟨M,hM,by rw [decide_eq_true (show eix e id<0 from WF),decide_eq_false t];simp⟩
 have l:(eix e id).toNat<e.entries.length:=WF
 have w:=ZQ l;rw [show (((eix e id).toNat:Nat):Int)=eix e id from WF] at w;rw [decide_eq_false (show ¬eix e id<0 from WF),decide_eq_true t,w,ZEP l];simp only [ZEO,if_false,ZEH];cases J:e.entries[(eix e id).toNat].has
 ·exact ⟨M,hM,Ha⟩
 by_cases r:0<=cix e.notebook id
 case neg=>exact ⟨M,hM,by rw [decide_eq_true (show cix e.notebook id<0 from WF),decide_eq_false r];simp⟩
 by_cases s:cix e.notebook id<j.length
 case neg=>exact ⟨M,hM,by rw [decide_eq_false (show ¬cix e.notebook id<0 from WF),decide_eq_false s,decide_eq_true (show (j.length:Int)<=cix e.notebook id from WF)];simp⟩
 have hq:(cix e.notebook id).toNat<j.length:=WF
 have G:(((cix e.notebook id).toNat:Nat):Int)=cix e.notebook id:=WF
 obtain ⟨o,c,q⟩:=(A _ hq).1 M hM;obtain ⟨v,z⟩:=B _ hq;rw [G] at q z;refine ⟨o,c, ?_⟩;rw [decide_eq_true r,decide_eq_true s,decide_eq_false (show ¬cix e.notebook id<0 from WF),decide_eq_false (show ¬(j.length:Int)<=cix e.notebook id from WF)];simp only [Hr,ZEO,if_false,q,ZEH,z];cases fr (cix e.notebook id).toNat<;>simp
theorem Zw.Zwo (r:Zw):r.result.bk<=r.bk:=by rw [Zw.Zz];omega
theorem ZrG (r:Zw) (h:r.bk<=1073741824):Ev λk=>Za4 k r=some r:=by
 refine (ZbT r.result (by have:=r.Zwo;omega)).mono λk e=> ?_;unfold Za4;rw [e];rfl
theorem Zpa (xs:List Zw) (h:bkS Zw.bk xs<=1073741824):Ev λk=>Kj k xs=some xs:=by
 have l:=ZE (f:=Zw.bk) (xs:=xs);refine ((Ev.all xs λy m=>ZrG y (by have:=Z1 (f:=Zw.bk) m;omega)).and (Ev.ge (xs.length+1))).mono ?_;rintro k ⟨j,o⟩;unfold Kj;rw [Vt 152 WF xs (Za4 k) (W6 k xs) j (λn out i=>by rw [W6]) WF WF];rfl
theorem ZpD (xs:List Zw) (h:bkS Zw.bk xs<=1073741824):Ev λk=>Jc k xs=some xs:=by
 have l:=ZE (f:=Zw.bk) (xs:=xs);refine ((Ev.all xs λy o=>Zb4 y.result (by have:=Z1 (f:=Zw.bk) o;have:=y.Zwo;omega)).and (Ev.ge (xs.length+1))).mono ?_;rintro k ⟨m,p⟩;unfold Jc;rw [Vt 152 WF xs (λx=>(Yk k x.result).bind λy=>some ⟨x.kind,x.n,x.time,x.text,y⟩) (Wp k xs) (λx j=>by rw [m x j];rfl) (λn out i=>by rw [Wp];simp only [HB,ZEH]) WF WF];rfl
theorem Zn.ZqC (t:Zn):bkS Zw.bk t.reads<=t.bk:=by rw [Zn.Zz];omega
theorem Zo9 (xs:List Zn) (h:bkS Zn.bk xs<=1073741824):Ev λk=>Zdm k xs=some xs:=by
 have l:=ZE (f:=Zn.bk) (xs:=xs);refine ((Ev.all xs λy o=>Zpa y.reads (by have:=Z1 (f:=Zn.bk) o;have:=y.ZqC;omega)).and (Ev.ge (xs.length+1))).mono ?_;rintro k ⟨m,p⟩;unfold Zdm;rw [Vt 40 WF xs (λx=>(Kj k x.reads).bind λy=>some ⟨x.cell,x.version,y⟩) (V2 k xs) (λx j=>by rw [m x j];rfl) (λn out i=>by rw [V2];simp only [HB,ZEH]) WF WF];rfl
theorem ZpC (xs:List Zn) (h:bkS Zn.bk xs<=1073741824):Ev λk=>KO k xs=some xs:=by
 have l:=ZE (f:=Zn.bk) (xs:=xs);refine ((Ev.all xs λy o=>ZpD y.reads (by have:=Z1 (f:=Zn.bk) o;have:=y.ZqC;omega)).and (Ev.ge (xs.length+1))).mono ?_;rintro k ⟨m,p⟩;unfold KO;rw [Vt 40 WF xs (λx=>(Jc k x.reads).bind λy=>some ⟨x.cell,x.version,y⟩) (Wo k xs) (λx j=>by rw [m x j];rfl) (λn out i=>by rw [Wo];simp only [HB,ZEH]) WF WF];rfl
theorem Ze.bks (x:Ze):x.value.bk<=x.bk/\x.inputs.length<=x.bk:=by
 have h:=x.Zz;have j:=ZE (f:=λ_:Int=>0) (xs:=x.inputs);constructor<;>omega
theorem Za.bks (e:Za):e.notebook.bk<=e.bk/\e.world.bk<=e.bk/\bkS Zn.bk e.tapes<=e.bk/\bkS Ze.bk e.entries<=e.bk:=by
 have h:=e.Zz;refine ⟨WF,WF,WF,WF⟩
theorem ZiL (j:Zg) (h:j.bk<=1073741824):JA j=some j/\Wq j=some j:=by
 have e:=j.Zz;have l:=ZE (f:=Zo.bk) (xs:=j.cells);have:JA j=some j:=by unfold JA;rw [KX (by simp;omega) WF];rfl
 exact ⟨this,by rw [Zg3];exact this⟩
theorem Zna (w:ZD) (h:w.bk<=1073741824):JB w=some w/\Jb w=some w:=by
 have e:=w.Zz;have l:=ZE (f:=Zq.bk) (xs:=w.files);have:JB w=some w:=by unfold JB;rw [KX (by simp;omega) WF];rfl
 exact ⟨this,by rw [Zj5];exact this⟩
theorem Zdp (e:Za) (h:e.bk<=1073741824):Ev λk=>KB k e=some e:=by
 obtain ⟨r,s,t,w⟩:=e.bks;have l:=ZE (f:=Ze.bk) (xs:=e.entries);refine ((Zo9 e.tapes WF).and ((Ev.all e.entries λy p=>ZbT y.value (by have:=Z1 (f:=Ze.bk) p;have:=y.bks;omega)).and (Ev.ge (e.entries.length+1)))).mono ?_;rintro k ⟨m,o,z⟩;unfold KB
 rw [(ZiL e.notebook WF).1,ZEH,(Zna e.world WF).1,ZEH,m,ZEH,
  Vt 168 WF e.entries (Za2 k) (V1 k e) (λx j=>by
   unfold Za2;rw [KX (by have:=Z1 (f:=Ze.bk) j;have:=x.bks;simp;omega) WF,ZEH,o x j];rfl) (λn out i=>by rw [V1]) WF WF]
 rfl
theorem ZdJ (e:Za) (h:e.bk<=1073741824):Ev λk=>WO k e=some e:=by
 obtain ⟨t,w,z,A⟩:=e.bks;have l:=ZE (f:=Ze.bk) (xs:=e.entries);refine ((ZpC e.tapes WF).and ((Ev.all e.entries λy p=>Zb4 y.value (by have:=Z1 (f:=Ze.bk) p;have:=y.bks;omega)).and (Ev.ge (e.entries.length+1)))).mono ?_;rintro k ⟨m,o,B⟩;unfold WO
 rw [(ZiL e.notebook WF).2,ZEH,(Zna e.world WF).2,ZEH,m,ZEH,
  Vt 168 WF e.entries (λx=>(YJ 8 ([]:List Int) x.inputs).bind λr=>(Yk k x.value).bind λs=>some ⟨x.cell,x.version,x.stamp,r,s,x.has⟩) (XC k e) (λx j=>by
   try simp only
   rw [KX (by have:=Z1 (f:=Ze.bk) j;have:=x.bks;simp;omega) WF,ZEH,o x j];rfl) (λn out i=>by rw [XC];simp only [HB,ZEH]) WF WF]
 rfl
theorem ZsW {α:Type} (f:α->Nat):∀(xs:List α) (i:Nat) (x:α),(∀y,xs[i]? =some y->f x<=f y)->ZU f (xs.set i x)<=ZU f xs
 | [],_,_,_=>by simp [ZU]
 | y::j,0,x,h=>by have:=h y rfl;simp only [List.set,ZU,Hi,HV];omega
 | y::j,i+1,x,h=>by
  have:=ZsW f j i x λz k=>h z (by simpa using k);simp only [List.set,ZU,Hi,HV] at this ⊢;omega
def ZvJ (e:Za):Nat:=ZU (λx:Ze=>if x.has then 1 else 0) e.entries
theorem Zk8 {α:Type} (f:α->Nat):∀(xs:List α) (i:Nat) (x y:α),xs[i]? =some y->f x<f y->ZU f (xs.set i x)<ZU f xs
 | [],_,_,_,h,_=>by simp at h
 | z::j,0,x,y,h,g=>by simp at h;subst h;simp only [List.set,ZU,Hi,HV];omega
 | z::j,i+1,x,y,h,g=>by
  have:=Zk8 f j i x y (by simpa using h) g;simp only [List.set,ZU,Hi,HV] at this ⊢;omega
def noV:Zb:=Zb.mk 0 0 0 (⟨#[]⟩:Ma) [] [] []
theorem ZzH:noV.bk=0:=by rw [Zb.Zz];rfl
def Zok (e:Za) (i:Nat):Za:=match e.entries[i]? with
 | some x=>Za.mk e.notebook e.world e.tapes (e.entries.set i (Ze.mk x.cell x.version x.stamp x.inputs noV false)) e.next e.limit e.work
 | none=>e
theorem Zq3 (e:Za) (i:Nat):(Zok e i).bk<=e.bk:=by
 unfold Zok;cases h:e.entries[i]? with
 | none=>exact ZEN _
 | some x=>
  rw [Za.Zz,Za.Zz e]
  have:=ZsW Ze.bk e.entries i (Ze.mk x.cell x.version x.stamp x.inputs noV false) λy j=>by
   rw [h] at j;cases j;rw [Ze.Zz,Ze.Zz x,ZzH];simp only;omega
  simp only [bkS,Gy];omega
theorem Zub (e:Za) (i:Nat) (x:Ze) (h:e.entries[i]? =some x) (hh:x.has=true):ZvJ (Zok e i)<ZvJ e:=by
 unfold Zok ZvJ;rw [h];exact Zk8 (λx:Ze=>if x.has then 1 else 0) e.entries i _ x h (by simp [hh])
theorem Zua (e:Za) (b:e.bk<=1048576) {o:List Zl} {m fr kn:Nat->Bool} {t:Nat->List Int} (K:Kn e o m fr kn t) (id:Int):Ev λk=>VK k e id=some (if Zfg e o m fr id=true then (Zok e (eix e id).toNat,true) else (e,false))/\WU k e id=some (if Zfg e o m fr id=true then (Zok e (eix e id).toNat,true) else (e,false)):=by
 refine (K.ev.and ((Zdp e WF).and (ZdJ e WF))).mono λk ⟨⟨B,C,E,G,p,w,Q⟩,z,A⟩=> ?_;obtain ⟨M,_,q⟩:=ZAy K E G p w id [] Con.nil;have I:ZdB k e id=some (Zfg e o m fr id):=by unfold ZdB;rw [B];simp only [ZEH,ZAx K p w id]
 have J:Zd1 k e id=some (Zfg e o m fr id):=by unfold Zd1;rw [C];simp only [ZEH,q]
 unfold VK WU;rw [z,A,ZEH,ZEH,I,J,ZEH,ZEH,(p id).1,(p id).2];cases r:Zfg e o m fr id
 ·exact ⟨rfl,rfl⟩
 ·have O:0<=eix e id:=by
   unfold Zfg at r;simp only [ZEM,decide_eq_true_eq] at r;exact r.1.1.1.2
  have P:=Zoj (e:=e) id;obtain ⟨j,hj⟩:∃j:Nat,eix e id=(j:Int):=⟨(eix e id).toNat,WF⟩;have l:j<e.entries.length:=WF
  have s:∀x,j<(e.entries.set j x).length:=λx=>by rw [Gy];exact l
  simp only [hj,Gb,Hr,ZEO,if_false,ZEH,ZQ l,ZQ (s _),List.getElem_set_self,if_true,List.set_set];unfold Zok;rw [ZEP l];exact ⟨rfl,rfl⟩
theorem ZkB (e:Za) (m:ZcJ e.c) (b:e.bk<=1048576) (id:Int) (j:DOk (.int .i64 id)):∃v,v.1.bk<=1073741824/\Ev λk=>VK k e id=some v/\WU k e id=some v:=by
 obtain ⟨p,o,fr,kn,l,K⟩:=Zjg e b;refine ⟨_, ?_,Zua e b K id⟩;have:=Zq3 e (eix e id).toNat
 split<;>simp only<;>omega
end Go.Proofs.YtmcfegjoccgpoaaGreatDoor
