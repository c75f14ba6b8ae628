/- FnExactIsPipeline: for all arguments that can be read the law returns true, and each argument reads afterwards as it read before. Conditions: none. Written by a program of mine. -/
import Derived.Test.YtopjlbifglacpaaFl
import Derived.Test.YtopjlbifglacpaaCt9
import Derived.Test.YtopjlbifglacpaaIsPipelineM
set_option linter.unusedSimpArgs false
set_option linter.unusedVariables false
namespace Go.Proofs.Ytopjlbifglacpaa.fnExactIsPipeline
open Go.ChangeShapes Go.WideShapes Go.ChangeAt Go.RowKit Go.Deep Am

theorem own : ownKnob Try.prog.godebug = none := by kernel_rfl
theorem laidOut : laidOutB Try.prog = true := by kernel_rfl
theorem types_ok : [97, 3, 9, 95].all (okTy Try.prog [97, 3, 9, 95]) = true := by kernel_rfl
theorem has_97_ : ∀ (n : Nat) (d : D), has Try.prog n 97 d → ∃ x : TExpr, fl d = x.c := by
  intro n
  induction n using Nat.strongRecOn with
  | _ n ih =>
  intro d h
  cases n with
  | zero => exact h.elim
  | succ n =>
    simp only [has, Try.underlying97] at h
    obtain ⟨ds, rfl, hl, hf⟩ := h
    match ds, hl with
    | [x0, x1, x2, x3], _ =>
      obtain ⟨y0, e0⟩ := has_int Try.underlying3 (hf 0 _ x0 rfl rfl)
      obtain ⟨y1, e1⟩ := has_int Try.underlying3 (hf 1 _ x1 rfl rfl)
      obtain ⟨y2, e2⟩ := has_str Try.underlying9 (hf 2 _ x2 rfl rfl)
      obtain ⟨y3, e3⟩ := has_slice (c := TExpr.c) Try.underlying95 (fun m hm x h => ih m (by omega) x h) (hf 3 _ x3 rfl rfl)
      exact ⟨⟨y0, y1, y2, y3⟩, by simp only [fl, flL, e0, e1, e2, e3, TExpr.c_eq]; try rfl⟩
theorem has_97 {n : Nat} {d : D} (h : has Try.prog n 97 d) : ∃ x : TExpr, fl d = x.c := has_97_ n d h

set_option maxRecDepth 100000 in
theorem lifted (os : Os) (started : os.Started) (H : Type) (enc : TypeId × Value → H) :
    ReturnsInHanded {} Try.checked os 11 .any (Rows.fnExactIsPipelineSpec.pre6 enc Try.prog Try.f11 Rows.fnExactIsPipelineRow.domain false) (Rows.fnExactIsPipelineSpec.post enc Try.prog Try.f11 false true false false) := by
  refine returnsInHanded_of_change (C := Try.checked) own started (by kernel_rfl) Try.func11
    (ChangeSpec.witness6 (enc := enc) (C := Try.checked) false ⟨#[], #[.agg #[.int .i64 0, .int .i64 0, .string ⟨#[]⟩, .slice none 0 0]], []⟩ 8 (by kernel_rfl) (by kernel_rfl) (by kernel_rfl) (by kernel_rfl)) ?_
  intro W base args ds gs before hval0 hW hcnd _
  have hW' := hW
  obtain ⟨p, q, hA0, hV, rfl, hfz, hnd⟩ := hW
  have hA : DataW.TrodAll enc Try.prog W 0 (fun _ => true) true Try.f11.params.toList args.toList ds p := hA0
  have hval : ∀ (j : Nat) t v, Try.f11.params[j]? = some t → args[j]? = some v → Value.okWide Try.prog W .any base t v := hval0
  rw [Try.params11] at hA hval
  obtain ⟨v0, vs0, d0, ds0, p0, q0, hargs, rfl, rfl, h0, r0⟩ := trodAll_cons hA
  obtain ⟨rfl, rfl, rfl⟩ := trodAll_nil r0
  obtain rfl : args = #[v0] := by cases args; simp_all
  obtain ⟨rfl, rfl⟩ := trodVars_none hV
  have lt0 : ∀ x ∈ p0, x.block < W.heap.size := by obtain ⟨m, hm⟩ := h0; exact DataW.trod_lt m _ _ _ hm
  obtain ⟨⟨cl0⟩, rfl, _⟩ := okWide_struct Try.underlying97 (hval 0 _ v0 rfl rfl)
  obtain ⟨x0, F0, w0⟩ : ∃ (x : TExpr) (F : List Nat), RpL W x.c cl0 F := by
    obtain ⟨fuel, hf⟩ := h0
    obtain ⟨d, F, k1, k2⟩ := open_plain _ types_ok fuel _ _ _ (by simp) hf
    obtain ⟨x, e⟩ := has_97 k2
    exact ⟨x, F, by rw [← e]; exact rep_fl.1 k1⟩
  clear hA0 hval0
  obtain ⟨k, hk⟩ := FnExactIsPipeline_law x0 (RpL.dok w0)
  refine (law_true (w_FnExactIsPipeline_ctr k x0 true hk) (dvs_cons (dv_of_struct w0) dvs_nil)).mono fun e W' ⟨he, bel⟩ => ?_
  subst he
  exact ⟨_, rfl, _, _, _, [], _, [], hW', trodAll_mk1 (shut_bool Try.underlying4 _), (trodAll_cons_mk (Below.trod laidOut (by kernel_rfl) (of_decide_eq_true (by kernel_rfl)) h0 bel lt0) trodAll_mk0), rfl, bel.frame _, fun h => by cases h⟩

theorem proved : Rows.FnExactIsPipelineSaid :=
  OpenClaim.holds_of_wide 11 Try.f11 rfl rfl rfl rfl rfl rfl rfl ⟨rfl, rfl, rfl, rfl, rfl⟩ rfl rfl rfl rfl rfl (by kernel_rfl) Try.func11 (by kernel_rfl)
    (of_decide_eq_true (by kernel_rfl)) (by unfold Func.isWrapper; first | (rw [if_pos (by decide +kernel)]; kernel_rfl) | (rw [if_neg (by decide +kernel)]; exact ⟨rfl, rfl⟩))
    (fun os started H enc _ => lifted os started H enc)
end Go.Proofs.Ytopjlbifglacpaa.fnExactIsPipeline
