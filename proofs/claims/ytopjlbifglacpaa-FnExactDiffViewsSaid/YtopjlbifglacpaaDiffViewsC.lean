/- FnExactDiffViews: for all arguments that can be read the law returns true, and each argument reads afterwards as it read before. Conditions: none. -/
import Derived.Test.YtopjlbifglacpaaDiffViewsB
import Derived.Test.YtopjlbifglacpaaOpen
namespace Go.Proofs.Ytopjlbifglacpaa.fnExactDiffViews
open Go.ChangeShapes Go.WideShapes Go.ChangeAt Go.RowKit Go.Deep

theorem own : ownKnob Try.prog.godebug = none := by kernel_rfl
theorem laidOut : laidOutB Try.prog = true := by kernel_rfl
theorem types_ok : [22, 108, 3, 4, 9].all (okTy Try.prog [22, 108, 3, 4, 9]) = true := by kernel_rfl
theorem has_int {n : Nat} {d : D} (h : has Try.prog n 3 d) : ∃ x : Int, d = .int x := by
  cases n with
  | zero => exact h.elim
  | succ n =>
    simp only [has, Try.underlying3] at h
    exact h
theorem has_bool {n : Nat} {d : D} (h : has Try.prog n 4 d) : ∃ x : Bool, d = .bool x := by
  cases n with
  | zero => exact h.elim
  | succ n =>
    simp only [has, Try.underlying4] at h
    exact h
theorem has_str {n : Nat} {d : D} (h : has Try.prog n 9 d) : ∃ x : ByteArray, d = .str x := by
  cases n with
  | zero => exact h.elim
  | succ n =>
    simp only [has, Try.underlying9] at h
    exact h
theorem has_Line {n : Nat} {d : D} (h : has Try.prog n 108 d) : ∃ x : TLine, d = x.d := by
  cases n with
  | zero => exact h.elim
  | succ n =>
    simp only [has, Try.underlying108] at h
    obtain ⟨ds, rfl, hl, hf⟩ := h
    match ds, hl with
    | [x0, x1, x2], _ =>
      have h0 : has Try.prog n 3 x0 := hf 0 _ x0 rfl rfl
      have h1 : has Try.prog n 4 x1 := hf 1 _ x1 rfl rfl
      have h2 : has Try.prog n 9 x2 := hf 2 _ x2 rfl rfl
      obtain ⟨y0, rfl⟩ := has_int h0
      obtain ⟨y1, rfl⟩ := has_bool h1
      obtain ⟨y2, rfl⟩ := has_str h2
      exact ⟨⟨y0, y1, y2⟩, rfl⟩
theorem has_S_Line {n : Nat} {d : D} (h : has Try.prog n 22 d) : ∃ xs : List TLine, d = .sl (xs.map TLine.d) := by
  cases n with
  | zero => exact h.elim
  | succ n =>
    simp only [has, Try.underlying22] at h
    obtain ⟨es, rfl, hf⟩ := h
    obtain ⟨xs, rfl⟩ := exists_map (f := TLine.d) es fun x hx => by obtain ⟨y, rfl⟩ := has_Line (hf x hx); exact ⟨y, rfl⟩
    exact ⟨xs, rfl⟩

set_option maxRecDepth 100000 in
theorem lifted (os : Os) (started : os.Started) (H : Type) (enc : TypeId × Value → H) :
    ReturnsInHanded {} Try.checked os 7 .any (Rows.fnExactDiffViewsSpec.pre6 enc Try.prog Try.f7 Rows.fnExactDiffViewsRow.domain false) (Rows.fnExactDiffViewsSpec.post enc Try.prog Try.f7 false true false false) := by
  refine returnsInHanded_of_change (C := Try.checked) own started (by kernel_rfl) Try.func7
    (ChangeSpec.witness6 (enc := enc) (C := Try.checked) false ⟨#[], #[.slice none 0 0, .slice none 0 0], []⟩ 8 (by kernel_rfl) (by kernel_rfl) (by kernel_rfl) (by kernel_rfl)) ?_
  intro W base args ds gs before hval0 hW hcnd _
  have hW' := hW
  obtain ⟨p, q, hA0, hV, rfl, hfz, hnd⟩ := hW
  have hA : DataW.TrodAll enc Try.prog W 0 (fun _ => true) true Try.f7.params.toList args.toList ds p := hA0
  have hval : ∀ (j : Nat) t v, Try.f7.params[j]? = some t → args[j]? = some v → Value.okWide Try.prog W .any base t v := hval0
  rw [Try.params7] at hA hval
  obtain ⟨v0, vs0, d0, ds0, p0, q0, hargs, rfl, rfl, h0, r0⟩ := trodAll_cons hA
  obtain ⟨v1, vs1, d1, ds1, p1, q1, rfl, rfl, rfl, h1, r1⟩ := trodAll_cons r0
  obtain ⟨rfl, rfl, rfl⟩ := trodAll_nil r1
  obtain rfl : args = #[v0, v1] := by cases args; simp_all
  obtain ⟨rfl, rfl⟩ := trodVars_none hV
  have lt0 : ∀ x ∈ p0, x.block < W.heap.size := by obtain ⟨m, hm⟩ := h0; exact DataW.trod_lt m _ _ _ hm
  have lt1 : ∀ x ∈ p1, x.block < W.heap.size := by obtain ⟨m, hm⟩ := h1; exact DataW.trod_lt m _ _ _ hm
  obtain ⟨a0, len0, cap0, rfl⟩ := okWide_slice Try.underlying22 (hval 0 _ v0 rfl rfl)
  obtain ⟨x0, F0, w0⟩ : ∃ (x : List TLine) (F : List Nat), Rep W (D.sl (x.map TLine.d)) [.slice a0 len0 cap0] F := by
    obtain ⟨fuel, hf⟩ := h0
    obtain ⟨d, F, k1, k2⟩ := open_plain _ types_ok fuel _ _ _ (by simp) hf
    obtain ⟨x, rfl⟩ := has_S_Line k2
    exact ⟨x, F, k1⟩
  obtain ⟨a1, len1, cap1, rfl⟩ := okWide_slice Try.underlying22 (hval 1 _ v1 rfl rfl)
  obtain ⟨x1, F1, w1⟩ : ∃ (x : List TLine) (F : List Nat), Rep W (D.sl (x.map TLine.d)) [.slice a1 len1 cap1] F := by
    obtain ⟨fuel, hf⟩ := h1
    obtain ⟨d, F, k1, k2⟩ := open_plain _ types_ok fuel _ _ _ (by simp) hf
    obtain ⟨x, rfl⟩ := has_S_Line k2
    exact ⟨x, F, k1⟩
  clear hA0 hval0
  refine (diffViews_walk W _ x0 F0 w0 _ x1 F1 w1).mono fun e W' ⟨he, bel⟩ => ?_
  subst he
  exact ⟨_, rfl, _, _, _, [], _, [], hW', trodAll_mk1 (shut_bool Try.underlying4 _), (trodAll_cons_mk (Below.trod laidOut (by kernel_rfl) (of_decide_eq_true (by kernel_rfl)) h0 bel lt0) (trodAll_cons_mk (Below.trod laidOut (by kernel_rfl) (of_decide_eq_true (by kernel_rfl)) h1 bel lt1) trodAll_mk0)), rfl, bel.frame _, fun h => by cases h⟩

theorem proved : Rows.FnExactDiffViewsSaid :=
  OpenClaim.holds_of_wide 7 Try.f7 rfl rfl rfl rfl rfl rfl rfl ⟨rfl, rfl, rfl, rfl, rfl⟩ rfl rfl rfl rfl rfl (by kernel_rfl) Try.func7 (by kernel_rfl)
    (of_decide_eq_true (by kernel_rfl)) (by unfold Func.isWrapper; first | (rw [if_pos (by decide +kernel)]; kernel_rfl) | (rw [if_neg (by decide +kernel)]; exact ⟨rfl, rfl⟩))
    (fun os started H enc _ => lifted os started H enc)
end Go.Proofs.Ytopjlbifglacpaa.fnExactDiffViews
