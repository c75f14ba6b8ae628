import Derived.Test.YtneeinggggadpaaPkC
import Derived.Test.YtneeinggggadpaaLaFnIsPipeline
import Derived.Test.YtneeinggggadpaaFnIsPipelineL
set_option linter.unusedSimpArgs false
set_option linter.unusedVariables false
namespace Go.Proofs.Ytneeinggggadpaa.fnIsPipeline
open Go.ChangeShapes Go.WideShapes Go.ChangeAt Go.RowKit Go.Deep Am
theorem own:ownKnob Try.prog.godebug=none:=by kernel_rfl
theorem Zfs {P:Program} {n t:Nat} {d:D} (hu:P.underlying t=some (.int .u8)) (h:has P n t d):∃y:Int,fl d=[.int .u8 y]:=by
 cases n with
 | zero=>exact h.elim
 | succ n=>
  simp only [has,hu] at h
  obtain ⟨y,rfl⟩:=h;exact ⟨y,by simp only [fl]⟩
theorem laidOut:laidOutB Try.prog=true:=by kernel_rfl
theorem ZeY:[22,5].all (ZjE Try.prog [22,5])=true:=by kernel_rfl
theorem Zih {n:Nat} {d:D} (h:has Try.prog n 22 d):∃x:List Int,fl d=[.sl (x.map uC)]:=
 Zeo Try.underlying22 (fun m _ x h=>Zfs Try.underlying5 h) h
set_option maxRecDepth 100000 in
theorem lifted (os:Os) (started:os.Started) (H:Type) (enc:TypeId×Value→H):
  ReturnsInHanded {} Try.checked os 3 .any (Rows.fnIsPipelineSpec.pre6 enc Try.prog Try.f3 Rows.fnIsPipelineRow.domain false) (Rows.fnIsPipelineSpec.post enc Try.prog Try.f3 false true false false):=by
 refine returnsInHanded_of_change (C:=Try.checked) own started (by kernel_rfl) Try.func3
  (ChangeSpec.witness6 (enc:=enc) (C:=Try.checked) false ⟨#[], #[.slice none 0 0],[]⟩ 8 (by kernel_rfl) (by kernel_rfl) (by kernel_rfl) (by kernel_rfl)) ?_
 intro W base args ds gs before hval0 hW hcnd _
 have hW':=hW
 obtain ⟨p,q,hA0,hV,rfl,hfz,hnd⟩:=hW
 have hA:DataW.TrodAll enc Try.prog W 0 (fun _=>true) true Try.f3.params.toList args.toList ds p:=hA0
 have hval:∀(j:Nat) t v,Try.f3.params[j]? =some t→args[j]? =some v→Value.okWide Try.prog W .any base t v:=hval0
 rw [Try.params3] at hA hval
 obtain ⟨v0,vs0,d0,ds0,p0,q0,hargs,rfl,rfl,h0,r0⟩:=trodAll_cons hA
 obtain ⟨rfl,rfl,rfl⟩:=trodAll_nil r0
 obtain rfl:args= #[v0]:=by cases args;simp_all
 obtain ⟨rfl,rfl⟩:=trodVars_none hV
 have lt0:∀x∈p0,x.block<W.heap.size:=by obtain ⟨m,hm⟩:=h0;exact DataW.trod_lt m _ _ _ hm
 obtain ⟨a0,len0,cap0,rfl⟩:=okWide_slice Try.underlying22 (hval 0 _ v0 rfl rfl)
 obtain ⟨x0,F0,w0⟩:∃(x:List Int) (F:List Nat),RpL W [.sl (x.map uC)] [.slice a0 len0 cap0] F:=by
  obtain ⟨fuel,hf⟩:=h0
  obtain ⟨d,F,k1,k2⟩:=UD _ ZeY fuel _ _ _ (by simp) hf
  obtain ⟨x,e⟩:=Zih k2
  exact ⟨x,F,by rw [←e];exact ZaV.1 k1⟩
 obtain ⟨u0,k0⟩:=Zep w0
 clear hA0 hval0
 obtain ⟨k,hk⟩:=Jh x0 k0
 refine (Zfn (VP k x0 true hk) ⟨fun _=>False,fun _ q=>q.elim,by simp [glb],by simp [ZkF]⟩ (Zfw u0 Zhb)).mono fun e W' ⟨he,bel⟩=> ?_
 subst he
 exact ⟨_,rfl,_,_,_,[],_,[],hW',trodAll_mk1 (shut_bool Try.underlying4 _),(trodAll_cons_mk (Below.trod laidOut (by kernel_rfl) (of_decide_eq_true (by kernel_rfl)) h0 bel lt0) trodAll_mk0),rfl,bel.frame _,fun h=>by cases h⟩
theorem proved:Rows.FnIsPipelineSaid:=
 OpenClaim.holds_of_wide 3 Try.f3 rfl rfl rfl rfl rfl rfl rfl ⟨rfl,rfl,rfl,rfl,rfl⟩ rfl rfl rfl rfl rfl (by kernel_rfl) Try.func3 (by kernel_rfl)
  (of_decide_eq_true (by kernel_rfl)) (by unfold Func.isWrapper;first | (rw [if_pos (by decide+kernel)];kernel_rfl)| (rw [if_neg (by decide+kernel)];exact ⟨rfl,rfl⟩))
  (fun os started H enc _=>lifted os started H enc)
end Go.Proofs.Ytneeinggggadpaa.fnIsPipeline
