/- FnExactHasRow: for all arguments that can be read the law returns true, and each argument reads afterwards as it read before. Conditions: none. Written by a program of mine. -/
import Derived.Test.YtopjlbifglacpaaFl
import Derived.Test.YtopjlbifglacpaaCt6
import Derived.Test.YtopjlbifglacpaaHasRowM
set_option linter.unusedSimpArgs false
set_option linter.unusedVariables false
namespace Go.Proofs.Ytopjlbifglacpaa.fnExactHasRow
open Go.ChangeShapes Go.WideShapes Go.ChangeAt Go.RowKit Go.Deep Am

theorem own : ownKnob Try.prog.godebug = none := by kernel_rfl
theorem laidOut : laidOutB Try.prog = true := by kernel_rfl
theorem types_ok : [76, 3, 9, 72, 73, 74, 79, 50, 77, 163].all (okTy Try.prog [76, 3, 9, 72, 73, 74, 79, 50, 77, 163]) = true := by kernel_rfl
theorem has_73 {n : Nat} {d : D} (h : has Try.prog n 73 d) : ∃ x : List ByteArray, fl d = [.sl (x.map sC)] :=
  has_slice Try.underlying73 (fun m _ x h => has_str Try.underlying9 h) h
theorem has_50 {n : Nat} {d : D} (h : has Try.prog n 50 d) : ∃ x : List Int, fl d = [.sl (x.map iC)] :=
  has_slice Try.underlying50 (fun m _ x h => has_int Try.underlying3 h) h
theorem has_163 {n : Nat} {d : D} (h : has Try.prog n 163 d) : ∃ x : TOrigin, fl d = x.c := by
  cases n with
  | zero => exact h.elim
  | succ n =>
    simp only [has, Try.underlying163] at h
    obtain ⟨ds, rfl, hl, hf⟩ := h
    match ds, hl with
    | [x0, x1], _ =>
      obtain ⟨y0, e0⟩ := has_int Try.underlying3 (hf 0 _ x0 rfl rfl)
      obtain ⟨y1, e1⟩ := has_int Try.underlying3 (hf 1 _ x1 rfl rfl)
      exact ⟨⟨y0, y1⟩, by simp only [fl, flL, e0, e1, TOrigin.c_eq]; try rfl⟩
theorem has_77 {n : Nat} {d : D} (h : has Try.prog n 77 d) : ∃ x : List TOrigin, fl d = [.sl (x.map TOrigin.c)] :=
  has_slice Try.underlying77 (fun m _ x h => has_163 h) h
theorem has_79 {n : Nat} {d : D} (h : has Try.prog n 79 d) : ∃ x : TRow, fl d = x.c := by
  cases n with
  | zero => exact h.elim
  | succ n =>
    simp only [has, Try.underlying79] at h
    obtain ⟨ds, rfl, hl, hf⟩ := h
    match ds, hl with
    | [x0, x1], _ =>
      obtain ⟨y0, e0⟩ := has_50 (hf 0 _ x0 rfl rfl)
      obtain ⟨y1, e1⟩ := has_77 (hf 1 _ x1 rfl rfl)
      exact ⟨⟨y0, y1⟩, by simp only [fl, flL, e0, e1, TRow.c_eq]; try rfl⟩
theorem has_74 {n : Nat} {d : D} (h : has Try.prog n 74 d) : ∃ x : List TRow, fl d = [.sl (x.map TRow.c)] :=
  has_slice Try.underlying74 (fun m _ x h => has_79 h) h
theorem has_76_ : ∀ (n : Nat) (d : D), has Try.prog n 76 d → ∃ x : TValue, fl d = x.c := by
  intro n
  induction n using Nat.strongRecOn with
  | _ n ih =>
  intro d h
  cases n with
  | zero => exact h.elim
  | succ n =>
    simp only [has, Try.underlying76] at h
    obtain ⟨ds, rfl, hl, hf⟩ := h
    match ds, hl with
    | [x0, x1, x2, x3, x4, x5, x6], _ =>
      obtain ⟨y0, e0⟩ := has_int Try.underlying3 (hf 0 _ x0 rfl rfl)
      obtain ⟨y1, e1⟩ := has_int Try.underlying3 (hf 1 _ x1 rfl rfl)
      obtain ⟨y2, e2⟩ := has_int Try.underlying3 (hf 2 _ x2 rfl rfl)
      obtain ⟨y3, e3⟩ := has_str Try.underlying9 (hf 3 _ x3 rfl rfl)
      obtain ⟨y4, e4⟩ := has_slice (c := TValue.c) Try.underlying72 (fun m hm x h => ih m (by omega) x h) (hf 4 _ x4 rfl rfl)
      obtain ⟨y5, e5⟩ := has_73 (hf 5 _ x5 rfl rfl)
      obtain ⟨y6, e6⟩ := has_74 (hf 6 _ x6 rfl rfl)
      exact ⟨⟨y0, y1, y2, y3, y4, y5, y6⟩, by simp only [fl, flL, e0, e1, e2, e3, e4, e5, e6, TValue.c_eq]; try rfl⟩
theorem has_76 {n : Nat} {d : D} (h : has Try.prog n 76 d) : ∃ x : TValue, fl d = x.c := has_76_ n d h

set_option maxRecDepth 100000 in
theorem lifted (os : Os) (started : os.Started) (H : Type) (enc : TypeId × Value → H) :
    ReturnsInHanded {} Try.checked os 10 .any (Rows.fnExactHasRowSpec.pre6 enc Try.prog Try.f10 Rows.fnExactHasRowRow.domain false) (Rows.fnExactHasRowSpec.post enc Try.prog Try.f10 false true false false) := by
  refine returnsInHanded_of_change (C := Try.checked) own started (by kernel_rfl) Try.func10
    (ChangeSpec.witness6 (enc := enc) (C := Try.checked) false ⟨#[], #[.agg #[.int .i64 0, .int .i64 0, .int .i64 0, .string ⟨#[]⟩, .slice none 0 0, .slice none 0 0, .slice none 0 0], .agg #[.slice none 0 0, .slice none 0 0]], []⟩ 8 (by kernel_rfl) (by kernel_rfl) (by kernel_rfl) (by kernel_rfl)) ?_
  intro W base args ds gs before hval0 hW hcnd _
  have hW' := hW
  obtain ⟨p, q, hA0, hV, rfl, hfz, hnd⟩ := hW
  have hA : DataW.TrodAll enc Try.prog W 0 (fun _ => true) true Try.f10.params.toList args.toList ds p := hA0
  have hval : ∀ (j : Nat) t v, Try.f10.params[j]? = some t → args[j]? = some v → Value.okWide Try.prog W .any base t v := hval0
  rw [Try.params10] at hA hval
  obtain ⟨v0, vs0, d0, ds0, p0, q0, hargs, rfl, rfl, h0, r0⟩ := trodAll_cons hA
  obtain ⟨v1, vs1, d1, ds1, p1, q1, rfl, rfl, rfl, h1, r1⟩ := trodAll_cons r0
  obtain ⟨rfl, rfl, rfl⟩ := trodAll_nil r1
  obtain rfl : args = #[v0, v1] := by cases args; simp_all
  obtain ⟨rfl, rfl⟩ := trodVars_none hV
  have lt0 : ∀ x ∈ p0, x.block < W.heap.size := by obtain ⟨m, hm⟩ := h0; exact DataW.trod_lt m _ _ _ hm
  have lt1 : ∀ x ∈ p1, x.block < W.heap.size := by obtain ⟨m, hm⟩ := h1; exact DataW.trod_lt m _ _ _ hm
  obtain ⟨⟨cl0⟩, rfl, _⟩ := okWide_struct Try.underlying76 (hval 0 _ v0 rfl rfl)
  obtain ⟨x0, F0, w0⟩ : ∃ (x : TValue) (F : List Nat), RpL W x.c cl0 F := by
    obtain ⟨fuel, hf⟩ := h0
    obtain ⟨d, F, k1, k2⟩ := open_plain _ types_ok fuel _ _ _ (by simp) hf
    obtain ⟨x, e⟩ := has_76 k2
    exact ⟨x, F, by rw [← e]; exact rep_fl.1 k1⟩
  obtain ⟨⟨cl1⟩, rfl, _⟩ := okWide_struct Try.underlying79 (hval 1 _ v1 rfl rfl)
  obtain ⟨x1, F1, w1⟩ : ∃ (x : TRow) (F : List Nat), RpL W x.c cl1 F := by
    obtain ⟨fuel, hf⟩ := h1
    obtain ⟨d, F, k1, k2⟩ := open_plain _ types_ok fuel _ _ _ (by simp) hf
    obtain ⟨x, e⟩ := has_79 k2
    exact ⟨x, F, by rw [← e]; exact rep_fl.1 k1⟩
  clear hA0 hval0
  obtain ⟨k, hk⟩ := FnExactHasRow_law x0 (RpL.dok w0) x1 (RpL.dok w1)
  refine (law_true (w_FnExactHasRow_ctr k x0 x1 true hk) (dvs_cons (dv_of_struct w0) (dvs_cons (dv_of_struct w1) dvs_nil))).mono fun e W' ⟨he, bel⟩ => ?_
  subst he
  exact ⟨_, rfl, _, _, _, [], _, [], hW', trodAll_mk1 (shut_bool Try.underlying4 _), (trodAll_cons_mk (Below.trod laidOut (by kernel_rfl) (of_decide_eq_true (by kernel_rfl)) h0 bel lt0) (trodAll_cons_mk (Below.trod laidOut (by kernel_rfl) (of_decide_eq_true (by kernel_rfl)) h1 bel lt1) trodAll_mk0)), rfl, bel.frame _, fun h => by cases h⟩

theorem proved : Rows.FnExactHasRowSaid :=
  OpenClaim.holds_of_wide 10 Try.f10 rfl rfl rfl rfl rfl rfl rfl ⟨rfl, rfl, rfl, rfl, rfl⟩ rfl rfl rfl rfl rfl (by kernel_rfl) Try.func10 (by kernel_rfl)
    (of_decide_eq_true (by kernel_rfl)) (by unfold Func.isWrapper; first | (rw [if_pos (by decide +kernel)]; kernel_rfl) | (rw [if_neg (by decide +kernel)]; exact ⟨rfl, rfl⟩))
    (fun os started H enc _ => lifted os started H enc)
end Go.Proofs.Ytopjlbifglacpaa.fnExactHasRow
