/- FnExactApplyDiff: for all arguments that can be read the law returns true, and each argument reads afterwards as it read before. Conditions: none. Written by a program of mine. -/
import Derived.Test.YtmiboaogfjgkjaaPkC
import Derived.Test.YtmiboaogfjgkjaaLaFnExactApplyDiff
import Derived.Test.YtmiboaogfjgkjaaApplyDiffM
set_option linter.unusedSimpArgs false
set_option linter.unusedVariables false
namespace Go.Proofs.Ytmiboaogfjgkjaa.fnExactApplyDiff
open Go.ChangeShapes Go.WideShapes Go.ChangeAt Go.RowKit Go.Deep Am

theorem own : ownKnob Try.prog.godebug = none := by kernel_rfl
theorem laidOut : laidOutB Try.prog = true := by kernel_rfl
theorem types_ok : [73, 149, 3, 4, 9, 76, 74, 208].all (okTy Try.prog [73, 149, 3, 4, 9, 76, 74, 208]) = true := by kernel_rfl
theorem has_149 {n : Nat} {d : D} (h : has Try.prog n 149 d) : ∃ x : TLine, fl d = x.c := by
  cases n with
  | zero => exact h.elim
  | succ n =>
    simp only [has, Try.underlying149] at h
    obtain ⟨ds, rfl, hl, hf⟩ := h
    match ds, hl with
    | [x0, x1, x2], _ =>
      obtain ⟨y0, e0⟩ := has_int Try.underlying3 (hf 0 _ x0 rfl rfl)
      obtain ⟨y1, e1⟩ := has_bool Try.underlying4 (hf 1 _ x1 rfl rfl)
      obtain ⟨y2, e2⟩ := has_str Try.underlying9 (hf 2 _ x2 rfl rfl)
      exact ⟨⟨y0, y1, y2⟩, by simp only [fl, flL, e0, e1, e2, TLine.c_eq]; try rfl⟩
theorem has_73 {n : Nat} {d : D} (h : has Try.prog n 73 d) : ∃ x : List TLine, fl d = [.sl (x.map TLine.c)] :=
  has_slice Try.underlying73 (fun m _ x h => has_149 h) h
theorem has_208 {n : Nat} {d : D} (h : has Try.prog n 208 d) : ∃ x : TChange, fl d = x.c := by
  cases n with
  | zero => exact h.elim
  | succ n =>
    simp only [has, Try.underlying208] at h
    obtain ⟨ds, rfl, hl, hf⟩ := h
    match ds, hl with
    | [x0, x1], _ =>
      obtain ⟨y0, e0⟩ := has_int Try.underlying3 (hf 0 _ x0 rfl rfl)
      obtain ⟨y1, e1⟩ := has_149 (hf 1 _ x1 rfl rfl)
      exact ⟨⟨y0, y1⟩, by simp only [fl, flL, e0, e1, TChange.c_eq, TLine.c_eq]; try rfl⟩
theorem has_74 {n : Nat} {d : D} (h : has Try.prog n 74 d) : ∃ x : List TChange, fl d = [.sl (x.map TChange.c)] :=
  has_slice Try.underlying74 (fun m _ x h => has_208 h) h
theorem has_76 {n : Nat} {d : D} (h : has Try.prog n 76 d) : ∃ x : TDiff, fl d = x.c := by
  cases n with
  | zero => exact h.elim
  | succ n =>
    simp only [has, Try.underlying76] at h
    obtain ⟨ds, rfl, hl, hf⟩ := h
    match ds, hl with
    | [x0, x1], _ =>
      obtain ⟨y0, e0⟩ := has_int Try.underlying3 (hf 0 _ x0 rfl rfl)
      obtain ⟨y1, e1⟩ := has_74 (hf 1 _ x1 rfl rfl)
      exact ⟨⟨y0, y1⟩, by simp only [fl, flL, e0, e1, TDiff.c_eq]; try rfl⟩

set_option maxRecDepth 100000 in
theorem lifted (os : Os) (started : os.Started) (H : Type) (enc : TypeId × Value → H) :
    ReturnsInHanded {} Try.checked os 7 .any (Rows.fnExactApplyDiffSpec.pre6 enc Try.prog Try.f7 Rows.fnExactApplyDiffRow.domain false) (Rows.fnExactApplyDiffSpec.post enc Try.prog Try.f7 false true false false) := by
  refine returnsInHanded_of_change (C := Try.checked) own started (by kernel_rfl) Try.func7
    (ChangeSpec.witness6 (enc := enc) (C := Try.checked) false ⟨#[], #[.slice none 0 0, .agg #[.int .i64 0, .slice none 0 0]], []⟩ 8 (by kernel_rfl) (by kernel_rfl) (by kernel_rfl) (by kernel_rfl)) ?_
  intro W base args ds gs before hval0 hW hcnd _
  have hW' := hW
  obtain ⟨p, q, hA0, hV, rfl, hfz, hnd⟩ := hW
  have hA : DataW.TrodAll enc Try.prog W 0 (fun _ => true) true Try.f7.params.toList args.toList ds p := hA0
  have hval : ∀ (j : Nat) t v, Try.f7.params[j]? = some t → args[j]? = some v → Value.okWide Try.prog W .any base t v := hval0
  rw [Try.params7] at hA hval
  obtain ⟨v0, vs0, d0, ds0, p0, q0, hargs, rfl, rfl, h0, r0⟩ := trodAll_cons hA
  obtain ⟨v1, vs1, d1, ds1, p1, q1, rfl, rfl, rfl, h1, r1⟩ := trodAll_cons r0
  obtain ⟨rfl, rfl, rfl⟩ := trodAll_nil r1
  obtain rfl : args = #[v0, v1] := by cases args; simp_all
  obtain ⟨rfl, rfl⟩ := trodVars_none hV
  have lt0 : ∀ x ∈ p0, x.block < W.heap.size := by obtain ⟨m, hm⟩ := h0; exact DataW.trod_lt m _ _ _ hm
  have lt1 : ∀ x ∈ p1, x.block < W.heap.size := by obtain ⟨m, hm⟩ := h1; exact DataW.trod_lt m _ _ _ hm
  obtain ⟨a0, len0, cap0, rfl⟩ := okWide_slice Try.underlying73 (hval 0 _ v0 rfl rfl)
  obtain ⟨x0, F0, w0⟩ : ∃ (x : List TLine) (F : List Nat), RpL W [.sl (x.map TLine.c)] [.slice a0 len0 cap0] F := by
    obtain ⟨fuel, hf⟩ := h0
    obtain ⟨d, F, k1, k2⟩ := open_plain _ types_ok fuel _ _ _ (by simp) hf
    obtain ⟨x, e⟩ := has_73 k2
    exact ⟨x, F, by rw [← e]; exact rep_fl.1 k1⟩
  obtain ⟨u0, k0⟩ := dv_of_one w0
  obtain ⟨⟨cl1⟩, rfl, _⟩ := okWide_struct Try.underlying76 (hval 1 _ v1 rfl rfl)
  obtain ⟨x1, F1, w1⟩ : ∃ (x : TDiff) (F : List Nat), RpL W x.c cl1 F := by
    obtain ⟨fuel, hf⟩ := h1
    obtain ⟨d, F, k1, k2⟩ := open_plain _ types_ok fuel _ _ _ (by simp) hf
    obtain ⟨x, e⟩ := has_76 k2
    exact ⟨x, F, by rw [← e]; exact rep_fl.1 k1⟩
  clear hA0 hval0
  obtain ⟨k, hk⟩ := FnExactApplyDiff_law x0 k0 x1 (RpL.dok w1)
  refine (law_true (w_FnExactApplyDiff_ctr k x0 x1 true hk) (dvs_cons u0 (dvs_cons (dv_of_struct w1) dvs_nil))).mono fun e W' ⟨he, bel⟩ => ?_
  subst he
  exact ⟨_, rfl, _, _, _, [], _, [], hW', trodAll_mk1 (shut_bool Try.underlying4 _), (trodAll_cons_mk (Below.trod laidOut (by kernel_rfl) (of_decide_eq_true (by kernel_rfl)) h0 bel lt0) (trodAll_cons_mk (Below.trod laidOut (by kernel_rfl) (of_decide_eq_true (by kernel_rfl)) h1 bel lt1) trodAll_mk0)), rfl, bel.frame _, fun h => by cases h⟩

theorem proved : Rows.FnExactApplyDiffSaid :=
  OpenClaim.holds_of_wide 7 Try.f7 rfl rfl rfl rfl rfl rfl rfl ⟨rfl, rfl, rfl, rfl, rfl⟩ rfl rfl rfl rfl rfl (by kernel_rfl) Try.func7 (by kernel_rfl)
    (of_decide_eq_true (by kernel_rfl)) (by unfold Func.isWrapper; first | (rw [if_pos (by decide +kernel)]; kernel_rfl) | (rw [if_neg (by decide +kernel)]; exact ⟨rfl, rfl⟩))
    (fun os started H enc _ => lifted os started H enc)
end Go.Proofs.Ytmiboaogfjgkjaa.fnExactApplyDiff
