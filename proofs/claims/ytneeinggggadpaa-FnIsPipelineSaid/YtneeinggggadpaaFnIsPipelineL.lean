import Derived.Test.YtneeinggggadpaaJ5
import Derived.Test.YtneeinggggadpaaJ6
import Derived.Test.YtneeinggggadpaaLaFnIsPipeline
import Derived.Test.YtneeinggggadpaaJ4
set_option linter.unusedSimpArgs false
set_option linter.unusedVariables false
namespace Go.Proofs.Ytneeinggggadpaa
open Go.RowKit Am
theorem QE {s t:ByteArray} {A B:Nat} (hs:s.size≤A) (ht:t.size≤B) (h:A+B≤1000000):Tot (fun r:ByteArray=>r.size≤A+B) fun _=>Jo s t:=
 .of (Zew (by omega)) (by rw [ByteArray.size_append];omega)
theorem Zfp {n:Int} (h0:0≤n) (h1:n≤1000):Tot (fun r:ByteArray=>r.size≤40) fun k=>QN k n:=
 ⟨toB (Lib.itoa n),by show (toB (Lib.itoa n)).size≤40;rw [VR];have:=Lib.itoa_length_le n (by omega) (by omega);omega,(Ev.ge 101).mono fun k hk=>ZhY n (by omega) (by omega) (by omega)⟩
theorem Zcl {c:Zf} (h:Cu c) {s:ByteArray} {A:Nat} (hs:s.size≤A) (hA:A≤1000):Tot (fun r:ByteArray×Zf=>r.1.size≤A+100∧Cu r.2) fun k=>Wf k c s:=by
 unfold Wf
 refine .bind (ZM 6 h) fun v hv=>.bind ZcP fun b _=>.ite (fun _=> ?_) fun _=>.ite (fun _=> ?_) fun _=>.ite (fun _=> ?_) fun _=>.ite (fun _=> ?_) fun _=> ?_
 ·refine .bind (QG _ hv.2 ⟨by simp,by decide⟩) fun w hw=>.bind (QE (A:=7) (B:=8) (by decide) hw.1 (by omega)) fun x1 h1=>.bind (QE (B:=3) h1 (by decide) (by omega)) fun x2 h2=>.bind (ZM 3 hw.2) fun u hu=>.bind (Zfp hu.1.1 (by have:=hu.1.2.1 (by omega);omega)) fun x3 h3=>.bind (QE h2 h3 (by omega)) fun x4 h4=>.bind (QE (B:=2) h4 (by decide) (by omega)) fun x5 h5=>.bind (QE h5 hs (by omega)) fun x6 h6=>.bind (QE (B:=1) h6 (by decide) (by omega)) fun x7 h7=>.ret ⟨by simp only;omega,hu.2⟩
 ·refine .bind (QG _ hv.2 ⟨by simp,by decide⟩) fun w hw=>.bind (QE (A:=6) (B:=8) (by decide) hw.1 (by omega)) fun x1 h1=>.bind (QE (B:=3) h1 (by decide) (by omega)) fun x2 h2=>.bind (QE h2 hs (by omega)) fun x3 h3=>.bind (QE (B:=1) h3 (by decide) (by omega)) fun x4 h4=>.ret ⟨by simp only;omega,hw.2⟩
 ·exact .bind (QE (A:=19) (by decide) hs (by omega)) fun x1 h1=>.bind (QE (B:=1) h1 (by decide) (by omega)) fun x2 h2=>.ret ⟨by simp only;omega,hv.2⟩
 ·exact .bind (QE (A:=16) (by decide) hs (by omega)) fun x1 h1=>.bind (QE (B:=1) h1 (by decide) (by omega)) fun x2 h2=>.ret ⟨by simp only;omega,hv.2⟩
 ·exact .bind (QE (A:=10) (by decide) hs (by omega)) fun x1 h1=>.bind (QE (B:=4) h1 (by decide) (by omega)) fun x2 h2=>.ret ⟨by simp only;omega,hv.2⟩
theorem Zer (a:List Int) (h:a.length≤1048576):Tot (fun e:Za=>e.bk≤1000000) fun k=>Qc k a:=by
 unfold Qc
 refine .bind (ZgR a h) fun c hc=>.bind (Zcl (A:=1) hc (by decide) (by omega)) fun x hx=>.bind (Zcl hx.2 hx.1 (by omega)) fun y hy=> ?_
 obtain ⟨r,r1,_,r3⟩:=Zfc y.1
 refine .bind (p:=fun r:Za×Int=>r.1.bk≤12000) ⟨r,r1,r3.mono fun k h=>h.1⟩ fun z hz=>.bind (Zae 3 hy.2) fun w hw=>.ite (fun _=> ?_) fun _=>.ret (by omega)
 exact .bind (ZfK hw) fun e he=>.ret he.1
theorem Zcv:∀(xs:List Za) (n:Nat),n≤Za.VF n xs∧∀y∈xs,y.nest≤Za.VF n xs
 | [],n=>by simp [Za.VF]
 | x::xs,n=>by
  obtain ⟨h1,h2⟩:=Zcv xs (max n x.nest)
  simp only [Za.VF]
  refine ⟨by omega,fun y hy=> ?_⟩
  rcases List.mem_cons.1 hy with rfl| hy
  ·omega
  ·exact h2 y hy
theorem Zem (y:Za) (hb:y.bk≤1048576) (h1:y.cnt≤40) (h2:y.nest≤8) (hv:VV' y) (hp:PP y):Ev fun k=>Yn k y=some true:=by
 refine ((Xf y hb).and ((Zag y hb).and (hv.and hp))).mono fun k ⟨a,b,c,d⟩=> ?_
 unfold Yn ZR
 rw [a,b.2,c,d]
 simp only [Option.bind_some]
 rw [if_pos (by simp;omega),if_pos (by simp;omega)]
 rfl
theorem Zdc (x:Za) (hb:x.bk≤1048576) (h:Ev fun k=>Qm k x=some true∧Yn k x=some true):x.cnt≤40∧x.nest≤8∧VV' x∧PP x∧Ev fun k=>ZJ k x=some true:=by
 have hval:Ev fun k=>ZJ k x=some true:=h.mono fun k ⟨h1,_⟩=>by
  unfold Qm at h1
  cases hv:ZJ k x with
  | none=>rw [hv] at h1;cases h1
  | some b=>cases b with
   | false=>rw [hv] at h1;cases h1
   | true=>rfl
 have hi:Ev fun k=>ZR k x=some true∧Zn k x=some true:=h.mono fun k ⟨_,h1⟩=>by
  unfold Yn at h1
  cases hv:ZR k x with
  | none=>rw [hv] at h1;cases h1
  | some b=>cases b with
   | false=>rw [hv] at h1;cases h1
   | true=>
    rw [hv] at h1
    simp only [Option.bind_some,if_true] at h1
    cases hp:Zn k x with
    | none=>rw [hp] at h1;cases h1
    | some z=>rw [hp] at h1;exact ⟨rfl,by simpa using h1⟩
 have hn:=(hi.and ((Xf x hb).and (Zag x hb))).mono (q:=fun k=>x.cnt≤40∧x.nest≤8∧ZE k x=some true) fun k ⟨⟨h1,_⟩,a,b⟩=>by
  unfold ZR at h1
  rw [a,b.2] at h1
  simp only [Option.bind_some] at h1
  by_cases c1:x.cnt≤40
  ·rw [if_pos (by simp;omega)] at h1
   by_cases c2:x.nest≤8
   ·rw [if_pos (by simp;omega)] at h1
    refine ⟨c1,c2, ?_⟩
    cases hz:ZE k x with
    | none=>rw [hz] at h1;cases h1
    | some z=>rw [hz] at h1;simpa using h1
   ·rw [if_neg (by simp;omega)] at h1;cases h1
  ·rw [if_neg (by simp;omega)] at h1;cases h1
 obtain ⟨k,h1,h2,_⟩:=hn.get
 exact ⟨h1,h2,hn.mono fun k h=>h.2.2,hi.mono fun k h=>h.2,hval⟩
theorem Jh (a:List Int) (_h:DOk (.sl (a.map uC))):∃k,YQ k a=some true:=by
 by_cases hb:1048576<(a.length:Int)
 ·exact ⟨0,by unfold YQ Zbw;simp only [decide_eq_true hb,Option.bind_some,if_true]⟩
 obtain ⟨x,hx,hd⟩:=Zer a (by omega)
 have hxb:x.bk≤1048576:=by omega
 obtain ⟨v,hv⟩:=ZbI x hxb
 refine Ev.get ?_
 cases v with
 | false=>
  refine (hd.and hv).mono fun k ⟨d,s,i⟩=> ?_
  unfold YQ Zbw
  simp only [decide_eq_false hb,Option.bind_some,d,s,i]
  rfl
 | true=>
  obtain ⟨c1,c2,hV,hP,hval⟩:=Zdc x hxb hv
  have pf:=Zc6 x hxb hV (.inr hP)
  obtain ⟨L,l1,l2,l3⟩:=pf.fre
  have hcnt:=x.KM
  obtain ⟨R,r1,r2⟩:=Zcn L (by omega)
  obtain ⟨R0,_,z2⟩:=Zcn [] (by simp)
  have hR0:Ev fun k=>QM k []=some []:=(Ev.ge 1).mono fun k hk=>by
   obtain ⟨k,rfl⟩:∃j,k=j+1:=⟨k-1,by omega⟩
   rfl
  have hRne:=r1 (l2 hP)
  have hRl:decide ((R.length:Int)=0)=false:=decide_eq_false (by have:=List.length_pos_iff.2 hRne;omega)
  obtain ⟨va,k0,hn⟩:=Za0 x hxb hV
  have base:=hd.and (hv.and (pf.eff.and (pf.bnd.and (hR0.and (l3.and (r2.and hval))))))
  rcases Zcq x hxb hP with h3| ⟨h5,ht,c,q1,q2,hargs⟩
  ·have ha:=JO hn (.inr (.inr h3))
   refine base.mono fun k ⟨d,⟨s,i⟩,e1,e2,e3,e4,e5,e6⟩=> ?_
   unfold YQ Zbw Xk XK
   simp only [decide_eq_false hb,Option.bind_some,d,s,i,e1,e2,e3,e4,e5,e6,hRl,ha,h3]
   rfl
  ·have hc:=Za1 hn h5
   have hpos:0<x.args.length:=by
    rcases ht with e| e| e| e| e<;>rw [e] at hc<;>simp [Zm] at hc<;>omega
   have hj:x.args.length-1<x.args.length:=by omega
   have hlast:=hargs (x.args.length-1) hj
   rw [if_neg (by omega)] at hlast
   have hm:=List.getElem_mem hj
   have hnest:=(Zcv x.args 0).2 _ hm
   have ec:=x.KK
   have hcl:=Jz Za.cnt hm
   have hlp:=Zem x.args[x.args.length-1] (by have:=Za.Uq hm;omega) (by omega) (by rw [Za.ZbO] at c2;omega) (va _ hm) hlast
   have hlen:=x.Ud
   have hw:IntKind.i64.wrap ((x.args.length:Int)-1)=((x.args.length-1:Nat):Int):=by rw [w64 (by omega) (by omega)];omega
   have hat:at? x.args ((x.args.length-1:Nat):Int)=some x.args[x.args.length-1]:=XU hj
   have hl0:decide ((x.args.length:Int)=0)=false:=decide_eq_false (by omega)
   have hl1:decide (0<(x.args.length:Int))=true:=decide_eq_true (by omega)
   refine (base.and hlp).mono fun k ⟨⟨d,⟨s,i⟩,e1,e2,e3,e4,e5,e6⟩,e7⟩=> ?_
   unfold YQ Zbw Xk XK
   simp only [decide_eq_false hb,Option.bind_some,d,s,i,e1,e2,e3,e4,e5,e6,hRl,hl0,hl1,hw,hat,e7,J8,hc]
   simp
end Go.Proofs.Ytneeinggggadpaa
