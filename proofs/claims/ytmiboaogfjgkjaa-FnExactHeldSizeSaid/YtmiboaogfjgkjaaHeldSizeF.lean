/- FnExactHeldSize: for all arguments that can be read the law returns true, and each argument reads afterwards as it read before. Conditions: none. Written by a program of mine. -/
import Derived.Test.YtmiboaogfjgkjaaPkC
import Derived.Test.YtmiboaogfjgkjaaLaFnExactHeldSize
import Derived.Test.YtmiboaogfjgkjaaHeldSizeM
set_option linter.unusedSimpArgs false
set_option linter.unusedVariables false
namespace Go.Proofs.Ytmiboaogfjgkjaa.fnExactHeldSize
open Go.ChangeShapes Go.WideShapes Go.ChangeAt Go.RowKit Go.Deep Am

theorem own : ownKnob Try.prog.godebug = none := by kernel_rfl
theorem laidOut : laidOutB Try.prog = true := by kernel_rfl
theorem types_ok : [31, 24, 22, 202, 3, 9, 27, 25, 214, 28, 190, 188, 241, 101, 49, 98, 99, 224, 68, 222, 246, 29, 193, 4].all (okTy Try.prog [31, 24, 22, 202, 3, 9, 27, 25, 214, 28, 190, 188, 241, 101, 49, 98, 99, 224, 68, 222, 246, 29, 193, 4]) = true := by kernel_rfl
theorem has_202 {n : Nat} {d : D} (h : has Try.prog n 202 d) : ∃ x : TCell, fl d = x.c := by
  cases n with
  | zero => exact h.elim
  | succ n =>
    simp only [has, Try.underlying202] at h
    obtain ⟨ds, rfl, hl, hf⟩ := h
    match ds, hl with
    | [x0, x1, x2, x3, x4, x5], _ =>
      obtain ⟨y0, e0⟩ := has_int Try.underlying3 (hf 0 _ x0 rfl rfl)
      obtain ⟨y1, e1⟩ := has_int Try.underlying3 (hf 1 _ x1 rfl rfl)
      obtain ⟨y2, e2⟩ := has_int Try.underlying3 (hf 2 _ x2 rfl rfl)
      obtain ⟨y3, e3⟩ := has_str Try.underlying9 (hf 3 _ x3 rfl rfl)
      obtain ⟨y4, e4⟩ := has_str Try.underlying9 (hf 4 _ x4 rfl rfl)
      obtain ⟨y5, e5⟩ := has_int Try.underlying3 (hf 5 _ x5 rfl rfl)
      exact ⟨⟨y0, y1, y2, y3, y4, y5⟩, by simp only [fl, flL, e0, e1, e2, e3, e4, e5, TCell.c_eq]; try rfl⟩
theorem has_22 {n : Nat} {d : D} (h : has Try.prog n 22 d) : ∃ x : List TCell, fl d = [.sl (x.map TCell.c)] :=
  has_slice Try.underlying22 (fun m _ x h => has_202 h) h
theorem has_24 {n : Nat} {d : D} (h : has Try.prog n 24 d) : ∃ x : TNotebook, fl d = x.c := by
  cases n with
  | zero => exact h.elim
  | succ n =>
    simp only [has, Try.underlying24] at h
    obtain ⟨ds, rfl, hl, hf⟩ := h
    match ds, hl with
    | [x0], _ =>
      obtain ⟨y0, e0⟩ := has_22 (hf 0 _ x0 rfl rfl)
      exact ⟨⟨y0⟩, by simp only [fl, flL, e0, TNotebook.c_eq]; try rfl⟩
theorem has_214 {n : Nat} {d : D} (h : has Try.prog n 214 d) : ∃ x : TFile, fl d = x.c := by
  cases n with
  | zero => exact h.elim
  | succ n =>
    simp only [has, Try.underlying214] at h
    obtain ⟨ds, rfl, hl, hf⟩ := h
    match ds, hl with
    | [x0, x1], _ =>
      obtain ⟨y0, e0⟩ := has_str Try.underlying9 (hf 0 _ x0 rfl rfl)
      obtain ⟨y1, e1⟩ := has_int Try.underlying3 (hf 1 _ x1 rfl rfl)
      exact ⟨⟨y0, y1⟩, by simp only [fl, flL, e0, e1, TFile.c_eq]; try rfl⟩
theorem has_25 {n : Nat} {d : D} (h : has Try.prog n 25 d) : ∃ x : List TFile, fl d = [.sl (x.map TFile.c)] :=
  has_slice Try.underlying25 (fun m _ x h => has_214 h) h
theorem has_27 {n : Nat} {d : D} (h : has Try.prog n 27 d) : ∃ x : TWorld, fl d = x.c := by
  cases n with
  | zero => exact h.elim
  | succ n =>
    simp only [has, Try.underlying27] at h
    obtain ⟨ds, rfl, hl, hf⟩ := h
    match ds, hl with
    | [x0, x1, x2], _ =>
      obtain ⟨y0, e0⟩ := has_int Try.underlying3 (hf 0 _ x0 rfl rfl)
      obtain ⟨y1, e1⟩ := has_int Try.underlying3 (hf 1 _ x1 rfl rfl)
      obtain ⟨y2, e2⟩ := has_25 (hf 2 _ x2 rfl rfl)
      exact ⟨⟨y0, y1, y2⟩, by simp only [fl, flL, e0, e1, e2, TWorld.c_eq]; try rfl⟩
theorem has_98 {n : Nat} {d : D} (h : has Try.prog n 98 d) : ∃ x : List ByteArray, fl d = [.sl (x.map sC)] :=
  has_slice Try.underlying98 (fun m _ x h => has_str Try.underlying9 h) h
theorem has_68 {n : Nat} {d : D} (h : has Try.prog n 68 d) : ∃ x : List Int, fl d = [.sl (x.map iC)] :=
  has_slice Try.underlying68 (fun m _ x h => has_int Try.underlying3 h) h
theorem has_246 {n : Nat} {d : D} (h : has Try.prog n 246 d) : ∃ x : TOrigin, fl d = x.c := by
  cases n with
  | zero => exact h.elim
  | succ n =>
    simp only [has, Try.underlying246] at h
    obtain ⟨ds, rfl, hl, hf⟩ := h
    match ds, hl with
    | [x0, x1], _ =>
      obtain ⟨y0, e0⟩ := has_int Try.underlying3 (hf 0 _ x0 rfl rfl)
      obtain ⟨y1, e1⟩ := has_int Try.underlying3 (hf 1 _ x1 rfl rfl)
      exact ⟨⟨y0, y1⟩, by simp only [fl, flL, e0, e1, TOrigin.c_eq]; try rfl⟩
theorem has_222 {n : Nat} {d : D} (h : has Try.prog n 222 d) : ∃ x : List TOrigin, fl d = [.sl (x.map TOrigin.c)] :=
  has_slice Try.underlying222 (fun m _ x h => has_246 h) h
theorem has_224 {n : Nat} {d : D} (h : has Try.prog n 224 d) : ∃ x : TRow, fl d = x.c := by
  cases n with
  | zero => exact h.elim
  | succ n =>
    simp only [has, Try.underlying224] at h
    obtain ⟨ds, rfl, hl, hf⟩ := h
    match ds, hl with
    | [x0, x1], _ =>
      obtain ⟨y0, e0⟩ := has_68 (hf 0 _ x0 rfl rfl)
      obtain ⟨y1, e1⟩ := has_222 (hf 1 _ x1 rfl rfl)
      exact ⟨⟨y0, y1⟩, by simp only [fl, flL, e0, e1, TRow.c_eq]; try rfl⟩
theorem has_99 {n : Nat} {d : D} (h : has Try.prog n 99 d) : ∃ x : List TRow, fl d = [.sl (x.map TRow.c)] :=
  has_slice Try.underlying99 (fun m _ x h => has_224 h) h
theorem has_101_ : ∀ (n : Nat) (d : D), has Try.prog n 101 d → ∃ x : TValue, fl d = x.c := by
  intro n
  induction n using Nat.strongRecOn with
  | _ n ih =>
  intro d h
  cases n with
  | zero => exact h.elim
  | succ n =>
    simp only [has, Try.underlying101] at h
    obtain ⟨ds, rfl, hl, hf⟩ := h
    match ds, hl with
    | [x0, x1, x2, x3, x4, x5, x6], _ =>
      obtain ⟨y0, e0⟩ := has_int Try.underlying3 (hf 0 _ x0 rfl rfl)
      obtain ⟨y1, e1⟩ := has_int Try.underlying3 (hf 1 _ x1 rfl rfl)
      obtain ⟨y2, e2⟩ := has_int Try.underlying3 (hf 2 _ x2 rfl rfl)
      obtain ⟨y3, e3⟩ := has_str Try.underlying9 (hf 3 _ x3 rfl rfl)
      obtain ⟨y4, e4⟩ := has_slice (c := TValue.c) Try.underlying49 (fun m hm x h => ih m (by omega) x h) (hf 4 _ x4 rfl rfl)
      obtain ⟨y5, e5⟩ := has_98 (hf 5 _ x5 rfl rfl)
      obtain ⟨y6, e6⟩ := has_99 (hf 6 _ x6 rfl rfl)
      exact ⟨⟨y0, y1, y2, y3, y4, y5, y6⟩, by simp only [fl, flL, e0, e1, e2, e3, e4, e5, e6, TValue.c_eq]; try rfl⟩
theorem has_101 {n : Nat} {d : D} (h : has Try.prog n 101 d) : ∃ x : TValue, fl d = x.c := has_101_ n d h
theorem has_241 {n : Nat} {d : D} (h : has Try.prog n 241 d) : ∃ x : TRead, fl d = x.c := by
  cases n with
  | zero => exact h.elim
  | succ n =>
    simp only [has, Try.underlying241] at h
    obtain ⟨ds, rfl, hl, hf⟩ := h
    match ds, hl with
    | [x0, x1, x2, x3, x4], _ =>
      obtain ⟨y0, e0⟩ := has_int Try.underlying3 (hf 0 _ x0 rfl rfl)
      obtain ⟨y1, e1⟩ := has_int Try.underlying3 (hf 1 _ x1 rfl rfl)
      obtain ⟨y2, e2⟩ := has_int Try.underlying3 (hf 2 _ x2 rfl rfl)
      obtain ⟨y3, e3⟩ := has_str Try.underlying9 (hf 3 _ x3 rfl rfl)
      obtain ⟨y4, e4⟩ := has_101 (hf 4 _ x4 rfl rfl)
      exact ⟨⟨y0, y1, y2, y3, y4⟩, by simp only [fl, flL, e0, e1, e2, e3, e4, TRead.c_eq, TValue.c_eq]; try rfl⟩
theorem has_188 {n : Nat} {d : D} (h : has Try.prog n 188 d) : ∃ x : List TRead, fl d = [.sl (x.map TRead.c)] :=
  has_slice Try.underlying188 (fun m _ x h => has_241 h) h
theorem has_190 {n : Nat} {d : D} (h : has Try.prog n 190 d) : ∃ x : TTape, fl d = x.c := by
  cases n with
  | zero => exact h.elim
  | succ n =>
    simp only [has, Try.underlying190] at h
    obtain ⟨ds, rfl, hl, hf⟩ := h
    match ds, hl with
    | [x0, x1, x2], _ =>
      obtain ⟨y0, e0⟩ := has_int Try.underlying3 (hf 0 _ x0 rfl rfl)
      obtain ⟨y1, e1⟩ := has_int Try.underlying3 (hf 1 _ x1 rfl rfl)
      obtain ⟨y2, e2⟩ := has_188 (hf 2 _ x2 rfl rfl)
      exact ⟨⟨y0, y1, y2⟩, by simp only [fl, flL, e0, e1, e2, TTape.c_eq]; try rfl⟩
theorem has_28 {n : Nat} {d : D} (h : has Try.prog n 28 d) : ∃ x : List TTape, fl d = [.sl (x.map TTape.c)] :=
  has_slice Try.underlying28 (fun m _ x h => has_190 h) h
theorem has_193 {n : Nat} {d : D} (h : has Try.prog n 193 d) : ∃ x : TEntry, fl d = x.c := by
  cases n with
  | zero => exact h.elim
  | succ n =>
    simp only [has, Try.underlying193] at h
    obtain ⟨ds, rfl, hl, hf⟩ := h
    match ds, hl with
    | [x0, x1, x2, x3, x4, x5], _ =>
      obtain ⟨y0, e0⟩ := has_int Try.underlying3 (hf 0 _ x0 rfl rfl)
      obtain ⟨y1, e1⟩ := has_int Try.underlying3 (hf 1 _ x1 rfl rfl)
      obtain ⟨y2, e2⟩ := has_int Try.underlying3 (hf 2 _ x2 rfl rfl)
      obtain ⟨y3, e3⟩ := has_68 (hf 3 _ x3 rfl rfl)
      obtain ⟨y4, e4⟩ := has_101 (hf 4 _ x4 rfl rfl)
      obtain ⟨y5, e5⟩ := has_bool Try.underlying4 (hf 5 _ x5 rfl rfl)
      exact ⟨⟨y0, y1, y2, y3, y4, y5⟩, by simp only [fl, flL, e0, e1, e2, e3, e4, e5, TEntry.c_eq, TValue.c_eq]; try rfl⟩
theorem has_29 {n : Nat} {d : D} (h : has Try.prog n 29 d) : ∃ x : List TEntry, fl d = [.sl (x.map TEntry.c)] :=
  has_slice Try.underlying29 (fun m _ x h => has_193 h) h
theorem has_31 {n : Nat} {d : D} (h : has Try.prog n 31 d) : ∃ x : TEngine, fl d = x.c := by
  cases n with
  | zero => exact h.elim
  | succ n =>
    simp only [has, Try.underlying31] at h
    obtain ⟨ds, rfl, hl, hf⟩ := h
    match ds, hl with
    | [x0, x1, x2, x3, x4, x5, x6], _ =>
      obtain ⟨y0, e0⟩ := has_24 (hf 0 _ x0 rfl rfl)
      obtain ⟨y1, e1⟩ := has_27 (hf 1 _ x1 rfl rfl)
      obtain ⟨y2, e2⟩ := has_28 (hf 2 _ x2 rfl rfl)
      obtain ⟨y3, e3⟩ := has_29 (hf 3 _ x3 rfl rfl)
      obtain ⟨y4, e4⟩ := has_int Try.underlying3 (hf 4 _ x4 rfl rfl)
      obtain ⟨y5, e5⟩ := has_int Try.underlying3 (hf 5 _ x5 rfl rfl)
      obtain ⟨y6, e6⟩ := has_int Try.underlying3 (hf 6 _ x6 rfl rfl)
      exact ⟨⟨y0, y1, y2, y3, y4, y5, y6⟩, by simp only [fl, flL, e0, e1, e2, e3, e4, e5, e6, TEngine.c_eq, TNotebook.c_eq, TWorld.c_eq]; try rfl⟩

set_option maxRecDepth 100000 in
theorem lifted (os : Os) (started : os.Started) (H : Type) (enc : TypeId × Value → H) :
    ReturnsInHanded {} Try.checked os 4 .any (Rows.fnExactHeldSizeSpec.pre6 enc Try.prog Try.f4 Rows.fnExactHeldSizeRow.domain false) (Rows.fnExactHeldSizeSpec.post enc Try.prog Try.f4 false true false false) := by
  refine returnsInHanded_of_change (C := Try.checked) own started (by kernel_rfl) Try.func4
    (ChangeSpec.witness6 (enc := enc) (C := Try.checked) false ⟨#[], #[.agg #[.slice none 0 0, .int .i64 0, .int .i64 0, .slice none 0 0, .slice none 0 0, .slice none 0 0, .int .i64 0, .int .i64 0, .int .i64 0]], []⟩ 8 (by kernel_rfl) (by kernel_rfl) (by kernel_rfl) (by kernel_rfl)) ?_
  intro W base args ds gs before hval0 hW hcnd _
  have hW' := hW
  obtain ⟨p, q, hA0, hV, rfl, hfz, hnd⟩ := hW
  have hA : DataW.TrodAll enc Try.prog W 0 (fun _ => true) true Try.f4.params.toList args.toList ds p := hA0
  have hval : ∀ (j : Nat) t v, Try.f4.params[j]? = some t → args[j]? = some v → Value.okWide Try.prog W .any base t v := hval0
  rw [Try.params4] at hA hval
  obtain ⟨v0, vs0, d0, ds0, p0, q0, hargs, rfl, rfl, h0, r0⟩ := trodAll_cons hA
  obtain ⟨rfl, rfl, rfl⟩ := trodAll_nil r0
  obtain rfl : args = #[v0] := by cases args; simp_all
  obtain ⟨rfl, rfl⟩ := trodVars_none hV
  have lt0 : ∀ x ∈ p0, x.block < W.heap.size := by obtain ⟨m, hm⟩ := h0; exact DataW.trod_lt m _ _ _ hm
  obtain ⟨⟨cl0⟩, rfl, _⟩ := okWide_struct Try.underlying31 (hval 0 _ v0 rfl rfl)
  obtain ⟨x0, F0, w0⟩ : ∃ (x : TEngine) (F : List Nat), RpL W x.c cl0 F := by
    obtain ⟨fuel, hf⟩ := h0
    obtain ⟨d, F, k1, k2⟩ := open_plain _ types_ok fuel _ _ _ (by simp) hf
    obtain ⟨x, e⟩ := has_31 k2
    exact ⟨x, F, by rw [← e]; exact rep_fl.1 k1⟩
  clear hA0 hval0
  obtain ⟨k, hk⟩ := FnExactHeldSize_law x0 (RpL.dok w0)
  refine (law_true (w_FnExactHeldSize_ctr k x0 true hk) (dvs_cons (dv_of_struct w0) dvs_nil)).mono fun e W' ⟨he, bel⟩ => ?_
  subst he
  exact ⟨_, rfl, _, _, _, [], _, [], hW', trodAll_mk1 (shut_bool Try.underlying4 _), (trodAll_cons_mk (Below.trod laidOut (by kernel_rfl) (of_decide_eq_true (by kernel_rfl)) h0 bel lt0) trodAll_mk0), rfl, bel.frame _, fun h => by cases h⟩

theorem proved : Rows.FnExactHeldSizeSaid :=
  OpenClaim.holds_of_wide 4 Try.f4 rfl rfl rfl rfl rfl rfl rfl ⟨rfl, rfl, rfl, rfl, rfl⟩ rfl rfl rfl rfl rfl (by kernel_rfl) Try.func4 (by kernel_rfl)
    (of_decide_eq_true (by kernel_rfl)) (by unfold Func.isWrapper; first | (rw [if_pos (by decide +kernel)]; kernel_rfl) | (rw [if_neg (by decide +kernel)]; exact ⟨rfl, rfl⟩))
    (fun os started H enc _ => lifted os started H enc)
end Go.Proofs.Ytmiboaogfjgkjaa.fnExactHeldSize
