/- EqualView: for every two lists of lines the law returns true. Conditions: none. -/
import Derived.Test.YtopjlbifglacpaaLineE
import Derived.Test.YtopjlbifglacpaaOpen
namespace Go.Proofs.Ytopjlbifglacpaa.equalView
open Go.ChangeShapes Go.WideShapes Go.ChangeAt Go.RowKit Go.Deep

theorem own : ownKnob Try.prog.godebug = none := by kernel_rfl
theorem laidOut : laidOutB Try.prog = true := by kernel_rfl
theorem types_ok : [22, 108, 3, 4, 9].all (okTy Try.prog [22, 108, 3, 4, 9]) = true := by kernel_rfl

theorem has_line {n : Nat} {d : D} (h : has Try.prog n 108 d) : ∃ l : Line, d = l.d := by
  cases n with
  | zero => exact h.elim
  | succ n =>
    simp only [has, Try.underlying108] at h
    obtain ⟨ds, rfl, hl, hf⟩ := h
    match ds, hl with
    | [x0, x1, x2], _ =>
      have h0 : has Try.prog n 3 x0 := hf 0 _ x0 rfl rfl
      have h1 : has Try.prog n 4 x1 := hf 1 _ x1 rfl rfl
      have h2 : has Try.prog n 9 x2 := hf 2 _ x2 rfl rfl
      cases n with
      | zero => exact h0.elim
      | succ n =>
        simp only [has, Try.underlying3, Try.underlying4, Try.underlying9] at h0 h1 h2
        obtain ⟨a, rfl⟩ := h0
        obtain ⟨b, rfl⟩ := h1
        obtain ⟨s, rfl⟩ := h2
        exact ⟨⟨a, b, s⟩, rfl⟩
theorem has_lines {n : Nat} {d : D} (h : has Try.prog n 22 d) : ∃ ls : List Line, d = .sl (ls.map Line.d) := by
  cases n with
  | zero => exact h.elim
  | succ n =>
    simp only [has, Try.underlying22] at h
    obtain ⟨es, rfl, hf⟩ := h
    obtain ⟨ls, rfl⟩ := exists_map (f := Line.d) es fun x hx => has_line (hf x hx)
    exact ⟨ls, rfl⟩

set_option maxRecDepth 100000 in
theorem lifted (os : Os) (started : os.Started) (H : Type) (enc : TypeId × Value → H) :
    ReturnsInHanded {} Try.checked os 3 .any (Rows.fnExactEqualViewSpec.pre6 enc Try.prog Try.f3 Rows.fnExactEqualViewRow.domain false) (Rows.fnExactEqualViewSpec.post enc Try.prog Try.f3 false true false false) := by
  refine returnsInHanded_of_change (C := Try.checked) own started (by kernel_rfl) Try.func3
    (ChangeSpec.witness6 (enc := enc) (C := Try.checked) false ⟨#[], #[.slice none 0 0, .slice none 0 0], []⟩ 8 (by kernel_rfl) (by kernel_rfl) (by kernel_rfl) (by kernel_rfl)) ?_
  intro W base args ds gs before hval0 hW hcnd _
  have hW' := hW
  obtain ⟨p, q, hA0, hV, rfl, hfz, hnd⟩ := hW
  have hA : DataW.TrodAll enc Try.prog W 0 (fun _ => true) true Try.f3.params.toList args.toList ds p := hA0
  have hval : ∀ (j : Nat) t v, Try.f3.params[j]? = some t → args[j]? = some v → Value.okWide Try.prog W .any base t v := hval0
  rw [Try.params3] at hA hval
  obtain ⟨v0, vs0, d0, ds0, p0, q0, hargs, rfl, rfl, h0, r0⟩ := trodAll_cons hA
  obtain ⟨v1, vs1, d1, ds1, p1, q1, rfl, rfl, rfl, h1, r1⟩ := trodAll_cons r0
  obtain ⟨rfl, rfl, rfl⟩ := trodAll_nil r1
  obtain rfl : args = #[v0, v1] := by cases args; simp_all
  obtain ⟨rfl, rfl⟩ := trodVars_none hV
  have lt0 : ∀ x ∈ p0, x.block < W.heap.size := by obtain ⟨m, hm⟩ := h0; exact DataW.trod_lt m _ _ _ hm
  have lt1 : ∀ x ∈ p1, x.block < W.heap.size := by obtain ⟨m, hm⟩ := h1; exact DataW.trod_lt m _ _ _ hm
  obtain ⟨a0, len0, cap0, rfl⟩ := okWide_slice Try.underlying22 (hval 0 _ v0 rfl rfl)
  obtain ⟨a1, len1, cap1, rfl⟩ := okWide_slice Try.underlying22 (hval 1 _ v1 rfl rfl)
  obtain ⟨ls, F0, w0⟩ : ∃ (ls : List Line) (F : List Nat), Rep W (.sl (ls.map Line.d)) [.slice a0 len0 cap0] F := by
    obtain ⟨fuel, hf⟩ := h0
    obtain ⟨d, F, k1, k2⟩ := open_plain _ types_ok fuel _ _ _ (by simp) hf
    obtain ⟨ls, rfl⟩ := has_lines k2
    exact ⟨ls, F, k1⟩
  obtain ⟨ms, F1, w1⟩ : ∃ (ls : List Line) (F : List Nat), Rep W (.sl (ls.map Line.d)) [.slice a1 len1 cap1] F := by
    obtain ⟨fuel, hf⟩ := h1
    obtain ⟨d, F, k1, k2⟩ := open_plain _ types_ok fuel _ _ _ (by simp) hf
    obtain ⟨ls, rfl⟩ := has_lines k2
    exact ⟨ls, F, k1⟩
  clear hA0 hval0
  refine (equalView_walk W _ _ ls ms F0 F1 w0 w1).mono fun e W' ⟨he, bel⟩ => ?_
  subst he
  exact ⟨_, rfl, _, _, _, [], _, [], hW', trodAll_mk1 (shut_bool Try.underlying4 _), (trodAll_cons_mk (Below.trod laidOut (by kernel_rfl) (of_decide_eq_true (by kernel_rfl)) h0 bel lt0) (trodAll_cons_mk (Below.trod laidOut (by kernel_rfl) (of_decide_eq_true (by kernel_rfl)) h1 bel lt1) trodAll_mk0)), rfl, bel.frame _, fun h => by cases h⟩

theorem proved : Rows.FnExactEqualViewSaid :=
  OpenClaim.holds_of_wide 3 Try.f3 rfl rfl rfl rfl rfl rfl rfl ⟨rfl, rfl, rfl, rfl, rfl⟩ rfl rfl rfl rfl rfl (by kernel_rfl) Try.func3 (by kernel_rfl)
    (of_decide_eq_true (by kernel_rfl)) (by unfold Func.isWrapper; first | (rw [if_pos (by decide +kernel)]; kernel_rfl) | (rw [if_neg (by decide +kernel)]; exact ⟨rfl, rfl⟩))
    (fun os started H enc _ => lifted os started H enc)
end Go.Proofs.Ytopjlbifglacpaa.equalView
