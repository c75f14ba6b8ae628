/- FnExactIsInside: for all arguments that can be read the law returns true, and each argument reads afterwards as it read before. Conditions: none. -/
import Derived.Test.YtopjlbifglacpaaIsInsideB
import Derived.Test.YtopjlbifglacpaaOpen
namespace Go.Proofs.Ytopjlbifglacpaa.fnExactIsInside
open Go.ChangeShapes Go.WideShapes Go.ChangeAt Go.RowKit Go.Deep

theorem own : ownKnob Try.prog.godebug = none := by kernel_rfl
theorem laidOut : laidOutB Try.prog = true := by kernel_rfl
theorem types_ok : [30, 3, 28, 150].all (okTy Try.prog [30, 3, 28, 150]) = true := by kernel_rfl
theorem has_int {n : Nat} {d : D} (h : has Try.prog n 3 d) : ∃ x : Int, d = .int x := by
  cases n with
  | zero => exact h.elim
  | succ n =>
    simp only [has, Try.underlying3] at h
    exact h
theorem has_Mark {n : Nat} {d : D} (h : has Try.prog n 150 d) : ∃ x : TMark, d = x.d := by
  cases n with
  | zero => exact h.elim
  | succ n =>
    simp only [has, Try.underlying150] at h
    obtain ⟨ds, rfl, hl, hf⟩ := h
    match ds, hl with
    | [x0, x1, x2, x3], _ =>
      have h0 : has Try.prog n 3 x0 := hf 0 _ x0 rfl rfl
      have h1 : has Try.prog n 3 x1 := hf 1 _ x1 rfl rfl
      have h2 : has Try.prog n 3 x2 := hf 2 _ x2 rfl rfl
      have h3 : has Try.prog n 3 x3 := hf 3 _ x3 rfl rfl
      obtain ⟨y0, rfl⟩ := has_int h0
      obtain ⟨y1, rfl⟩ := has_int h1
      obtain ⟨y2, rfl⟩ := has_int h2
      obtain ⟨y3, rfl⟩ := has_int h3
      exact ⟨⟨y0, y1, y2, y3⟩, rfl⟩
theorem has_S_Mark {n : Nat} {d : D} (h : has Try.prog n 28 d) : ∃ xs : List TMark, d = .sl (xs.map TMark.d) := by
  cases n with
  | zero => exact h.elim
  | succ n =>
    simp only [has, Try.underlying28] at h
    obtain ⟨es, rfl, hf⟩ := h
    obtain ⟨xs, rfl⟩ := exists_map (f := TMark.d) es fun x hx => by obtain ⟨y, rfl⟩ := has_Mark (hf x hx); exact ⟨y, rfl⟩
    exact ⟨xs, rfl⟩
theorem has_Scene {n : Nat} {d : D} (h : has Try.prog n 30 d) : ∃ x : TScene, d = x.d := by
  cases n with
  | zero => exact h.elim
  | succ n =>
    simp only [has, Try.underlying30] at h
    obtain ⟨ds, rfl, hl, hf⟩ := h
    match ds, hl with
    | [x0, x1, x2], _ =>
      have h0 : has Try.prog n 3 x0 := hf 0 _ x0 rfl rfl
      have h1 : has Try.prog n 3 x1 := hf 1 _ x1 rfl rfl
      have h2 : has Try.prog n 28 x2 := hf 2 _ x2 rfl rfl
      obtain ⟨y0, rfl⟩ := has_int h0
      obtain ⟨y1, rfl⟩ := has_int h1
      obtain ⟨y2, rfl⟩ := has_S_Mark h2
      exact ⟨⟨y0, y1, y2⟩, rfl⟩

set_option maxRecDepth 100000 in
theorem lifted (os : Os) (started : os.Started) (H : Type) (enc : TypeId × Value → H) :
    ReturnsInHanded {} Try.checked os 4 .any (Rows.fnExactIsInsideSpec.pre6 enc Try.prog Try.f4 Rows.fnExactIsInsideRow.domain false) (Rows.fnExactIsInsideSpec.post enc Try.prog Try.f4 false true false false) := by
  refine returnsInHanded_of_change (C := Try.checked) own started (by kernel_rfl) Try.func4
    (ChangeSpec.witness6 (enc := enc) (C := Try.checked) false ⟨#[], #[.agg #[.int .i64 0, .int .i64 0, .slice none 0 0]], []⟩ 8 (by kernel_rfl) (by kernel_rfl) (by kernel_rfl) (by kernel_rfl)) ?_
  intro W base args ds gs before hval0 hW hcnd _
  have hW' := hW
  obtain ⟨p, q, hA0, hV, rfl, hfz, hnd⟩ := hW
  have hA : DataW.TrodAll enc Try.prog W 0 (fun _ => true) true Try.f4.params.toList args.toList ds p := hA0
  have hval : ∀ (j : Nat) t v, Try.f4.params[j]? = some t → args[j]? = some v → Value.okWide Try.prog W .any base t v := hval0
  rw [Try.params4] at hA hval
  obtain ⟨v0, vs0, d0, ds0, p0, q0, hargs, rfl, rfl, h0, r0⟩ := trodAll_cons hA
  obtain ⟨rfl, rfl, rfl⟩ := trodAll_nil r0
  obtain rfl : args = #[v0] := by cases args; simp_all
  obtain ⟨rfl, rfl⟩ := trodVars_none hV
  have lt0 : ∀ x ∈ p0, x.block < W.heap.size := by obtain ⟨m, hm⟩ := h0; exact DataW.trod_lt m _ _ _ hm
  obtain ⟨⟨cl0⟩, rfl, _⟩ := okWide_struct Try.underlying30 (hval 0 _ v0 rfl rfl)
  obtain ⟨x0, F0, w0⟩ : ∃ (x : TScene) (F : List Nat), Rep W (TScene.d x) cl0 F := by
    obtain ⟨fuel, hf⟩ := h0
    obtain ⟨d, F, k1, k2⟩ := open_plain _ types_ok fuel _ _ _ (by simp) hf
    obtain ⟨x, rfl⟩ := has_Scene k2
    exact ⟨x, F, k1⟩
  clear hA0 hval0
  refine (isInside_walk W x0 _ F0 w0).mono fun e W' ⟨he, bel⟩ => ?_
  subst he
  exact ⟨_, rfl, _, _, _, [], _, [], hW', trodAll_mk1 (shut_bool Try.underlying4 _), (trodAll_cons_mk (Below.trod laidOut (by kernel_rfl) (of_decide_eq_true (by kernel_rfl)) h0 bel lt0) trodAll_mk0), rfl, bel.frame _, fun h => by cases h⟩

theorem proved : Rows.FnExactIsInsideSaid :=
  OpenClaim.holds_of_wide 4 Try.f4 rfl rfl rfl rfl rfl rfl rfl ⟨rfl, rfl, rfl, rfl, rfl⟩ rfl rfl rfl rfl rfl (by kernel_rfl) Try.func4 (by kernel_rfl)
    (of_decide_eq_true (by kernel_rfl)) (by unfold Func.isWrapper; first | (rw [if_pos (by decide +kernel)]; kernel_rfl) | (rw [if_neg (by decide +kernel)]; exact ⟨rfl, rfl⟩))
    (fun os started H enc _ => lifted os started H enc)
end Go.Proofs.Ytopjlbifglacpaa.fnExactIsInside
