/- FnExactPointsOf: for all arguments that can be read the law returns true, and each argument reads afterwards as it read before. Conditions: none. Written by a program of mine. -/
import Derived.Test.YtmiboaogfjgkjaaPkC
import Derived.Test.YtmiboaogfjgkjaaLaFnExactPointsOf
import Derived.Test.YtmiboaogfjgkjaaPointsOfM
set_option linter.unusedSimpArgs false
set_option linter.unusedVariables false
namespace Go.Proofs.Ytmiboaogfjgkjaa.fnExactPointsOf
open Go.ChangeShapes Go.WideShapes Go.ChangeAt Go.RowKit Go.Deep Am
theorem own : ownKnob Try.prog.godebug = none := by kernel_rfl
theorem laidOut : laidOutB Try.prog = true := by kernel_rfl
theorem types_ok : [101, 3, 9, 49, 98, 99, 224, 68, 222, 246].all (okTy Try.prog [101, 3, 9, 49, 98, 99, 224, 68, 222, 246]) = true := by kernel_rfl
theorem has_98 {n : Nat} {d : D} (h : has Try.prog n 98 d) : ∃ x : List ByteArray, fl d = [.sl (x.map sC)] :=
  has_slice Try.underlying98 (fun m _ x h => has_str Try.underlying9 h) h
theorem has_68 {n : Nat} {d : D} (h : has Try.prog n 68 d) : ∃ x : List Int, fl d = [.sl (x.map iC)] :=
  has_slice Try.underlying68 (fun m _ x h => has_int Try.underlying3 h) h
theorem has_246 {n : Nat} {d : D} (h : has Try.prog n 246 d) : ∃ x : TOrigin, fl d = x.c := by
  cases n with
  | zero => exact h.elim
  | succ n =>
    simp only [has, Try.underlying246] at h
    obtain ⟨ds, rfl, hl, hf⟩ := h
    match ds, hl with
    | [x0, x1], _ =>
      obtain ⟨y0, e0⟩ := has_int Try.underlying3 (hf 0 _ x0 rfl rfl)
      obtain ⟨y1, e1⟩ := has_int Try.underlying3 (hf 1 _ x1 rfl rfl)
      exact ⟨⟨y0, y1⟩, by simp only [fl, flL, e0, e1, TOrigin.c_eq]; try rfl⟩
theorem has_222 {n : Nat} {d : D} (h : has Try.prog n 222 d) : ∃ x : List TOrigin, fl d = [.sl (x.map TOrigin.c)] :=
  has_slice Try.underlying222 (fun m _ x h => has_246 h) h
theorem has_224 {n : Nat} {d : D} (h : has Try.prog n 224 d) : ∃ x : TRow, fl d = x.c := by
  cases n with
  | zero => exact h.elim
  | succ n =>
    simp only [has, Try.underlying224] at h
    obtain ⟨ds, rfl, hl, hf⟩ := h
    match ds, hl with
    | [x0, x1], _ =>
      obtain ⟨y0, e0⟩ := has_68 (hf 0 _ x0 rfl rfl)
      obtain ⟨y1, e1⟩ := has_222 (hf 1 _ x1 rfl rfl)
      exact ⟨⟨y0, y1⟩, by simp only [fl, flL, e0, e1, TRow.c_eq]; try rfl⟩
theorem has_99 {n : Nat} {d : D} (h : has Try.prog n 99 d) : ∃ x : List TRow, fl d = [.sl (x.map TRow.c)] :=
  has_slice Try.underlying99 (fun m _ x h => has_224 h) h
theorem has_101_ : ∀ (n : Nat) (d : D), has Try.prog n 101 d → ∃ x : TValue, fl d = x.c := by
  intro n
  induction n using Nat.strongRecOn with
  | _ n ih =>
  intro d h
  cases n with
  | zero => exact h.elim
  | succ n =>
    simp only [has, Try.underlying101] at h
    obtain ⟨ds, rfl, hl, hf⟩ := h
    match ds, hl with
    | [x0, x1, x2, x3, x4, x5, x6], _ =>
      obtain ⟨y0, e0⟩ := has_int Try.underlying3 (hf 0 _ x0 rfl rfl)
      obtain ⟨y1, e1⟩ := has_int Try.underlying3 (hf 1 _ x1 rfl rfl)
      obtain ⟨y2, e2⟩ := has_int Try.underlying3 (hf 2 _ x2 rfl rfl)
      obtain ⟨y3, e3⟩ := has_str Try.underlying9 (hf 3 _ x3 rfl rfl)
      obtain ⟨y4, e4⟩ := has_slice (c := TValue.c) Try.underlying49 (fun m hm x h => ih m (by omega) x h) (hf 4 _ x4 rfl rfl)
      obtain ⟨y5, e5⟩ := has_98 (hf 5 _ x5 rfl rfl)
      obtain ⟨y6, e6⟩ := has_99 (hf 6 _ x6 rfl rfl)
      exact ⟨⟨y0, y1, y2, y3, y4, y5, y6⟩, by simp only [fl, flL, e0, e1, e2, e3, e4, e5, e6, TValue.c_eq]; try rfl⟩
theorem has_101 {n : Nat} {d : D} (h : has Try.prog n 101 d) : ∃ x : TValue, fl d = x.c := has_101_ n d h
set_option maxRecDepth 100000 in
theorem lifted (os : Os) (started : os.Started) (H : Type) (enc : TypeId × Value → H) :
    ReturnsInHanded {} Try.checked os 10 .any (Rows.fnExactPointsOfSpec.pre6 enc Try.prog Try.f10 Rows.fnExactPointsOfRow.domain false) (Rows.fnExactPointsOfSpec.post enc Try.prog Try.f10 false true false false) := by
  refine returnsInHanded_of_change (C := Try.checked) own started (by kernel_rfl) Try.func10
    (ChangeSpec.witness6 (enc := enc) (C := Try.checked) false ⟨#[], #[.agg #[.int .i64 0, .int .i64 0, .int .i64 0, .string ⟨#[]⟩, .slice none 0 0, .slice none 0 0, .slice none 0 0], .string ⟨#[]⟩, .string ⟨#[]⟩, .int .i64 0, .int .i64 0], []⟩ 8 (by kernel_rfl) (by kernel_rfl) (by kernel_rfl) (by kernel_rfl)) ?_
  intro W base args ds gs before hval0 hW hcnd _
  have hW' := hW
  obtain ⟨p, q, hA0, hV, rfl, hfz, hnd⟩ := hW
  have hA : DataW.TrodAll enc Try.prog W 0 (fun _ => true) true Try.f10.params.toList args.toList ds p := hA0
  have hval : ∀ (j : Nat) t v, Try.f10.params[j]? = some t → args[j]? = some v → Value.okWide Try.prog W .any base t v := hval0
  rw [Try.params10] at hA hval
  obtain ⟨v0, vs0, d0, ds0, p0, q0, hargs, rfl, rfl, h0, r0⟩ := trodAll_cons hA
  obtain ⟨v1, vs1, d1, ds1, p1, q1, rfl, rfl, rfl, h1, r1⟩ := trodAll_cons r0
  obtain ⟨v2, vs2, d2, ds2, p2, q2, rfl, rfl, rfl, h2, r2⟩ := trodAll_cons r1
  obtain ⟨v3, vs3, d3, ds3, p3, q3, rfl, rfl, rfl, h3, r3⟩ := trodAll_cons r2
  obtain ⟨v4, vs4, d4, ds4, p4, q4, rfl, rfl, rfl, h4, r4⟩ := trodAll_cons r3
  obtain ⟨rfl, rfl, rfl⟩ := trodAll_nil r4
  obtain rfl : args = #[v0, v1, v2, v3, v4] := by cases args; simp_all
  obtain ⟨rfl, rfl⟩ := trodVars_none hV
  have lt0 : ∀ x ∈ p0, x.block < W.heap.size := by obtain ⟨m, hm⟩ := h0; exact DataW.trod_lt m _ _ _ hm
  have lt1 : ∀ x ∈ p1, x.block < W.heap.size := by obtain ⟨m, hm⟩ := h1; exact DataW.trod_lt m _ _ _ hm
  have lt2 : ∀ x ∈ p2, x.block < W.heap.size := by obtain ⟨m, hm⟩ := h2; exact DataW.trod_lt m _ _ _ hm
  have lt3 : ∀ x ∈ p3, x.block < W.heap.size := by obtain ⟨m, hm⟩ := h3; exact DataW.trod_lt m _ _ _ hm
  have lt4 : ∀ x ∈ p4, x.block < W.heap.size := by obtain ⟨m, hm⟩ := h4; exact DataW.trod_lt m _ _ _ hm
  obtain ⟨⟨cl0⟩, rfl, _⟩ := okWide_struct Try.underlying101 (hval 0 _ v0 rfl rfl)
  obtain ⟨x0, F0, w0⟩ : ∃ (x : TValue) (F : List Nat), RpL W x.c cl0 F := by
    obtain ⟨fuel, hf⟩ := h0
    obtain ⟨d, F, k1, k2⟩ := open_plain _ types_ok fuel _ _ _ (by simp) hf
    obtain ⟨x, e⟩ := has_101 k2
    exact ⟨x, F, by rw [← e]; exact rep_fl.1 k1⟩
  obtain ⟨z1, rfl, _, _, wf1⟩ := Go.ChangeMaps.open_string Try.underlying9 (hval 1 _ v1 rfl rfl) h1
  obtain ⟨u1, k1⟩ := dv_str (w := W) (s := z1) wf1
  obtain ⟨z2, rfl, _, _, wf2⟩ := Go.ChangeMaps.open_string Try.underlying9 (hval 2 _ v2 rfl rfl) h2
  obtain ⟨u2, k2⟩ := dv_str (w := W) (s := z2) wf2
  obtain ⟨z3, rfl, _, _, wf3⟩ := open_int Try.underlying3 (hval 3 _ v3 rfl rfl) h3
  obtain ⟨u3, k3⟩ := dv_int (w := W) (n := z3) (by simpa [Lit.wf, IntKind.min, IntKind.max, IntKind.signed, IntKind.bits] using wf3)
  obtain ⟨z4, rfl, _, _, wf4⟩ := open_int Try.underlying3 (hval 4 _ v4 rfl rfl) h4
  obtain ⟨u4, k4⟩ := dv_int (w := W) (n := z4) (by simpa [Lit.wf, IntKind.min, IntKind.max, IntKind.signed, IntKind.bits] using wf4)
  clear hA0 hval0
  obtain ⟨k, hk⟩ := FnExactPointsOf_law x0 (RpL.dok w0) z1 k1 z2 k2 z3 k3 z4 k4
  refine (law_true (w_FnExactPointsOf_ctr k x0 z1 z2 z3 z4 true hk) ⟨fun _ => False, fun _ q => q.elim, by simp [glb]⟩ (dvs_cons (dv_of_struct w0) (dvs_cons u1 (dvs_cons u2 (dvs_cons u3 (dvs_cons u4 dvs_nil)))))).mono fun e W' ⟨he, bel⟩ => ?_
  subst he
  exact ⟨_, rfl, _, _, _, [], _, [], hW', trodAll_mk1 (shut_bool Try.underlying4 _), (trodAll_cons_mk (Below.trod laidOut (by kernel_rfl) (of_decide_eq_true (by kernel_rfl)) h0 bel lt0) (trodAll_cons_mk (Below.trod laidOut (by kernel_rfl) (of_decide_eq_true (by kernel_rfl)) h1 bel lt1) (trodAll_cons_mk (Below.trod laidOut (by kernel_rfl) (of_decide_eq_true (by kernel_rfl)) h2 bel lt2) (trodAll_cons_mk (Below.trod laidOut (by kernel_rfl) (of_decide_eq_true (by kernel_rfl)) h3 bel lt3) (trodAll_cons_mk (Below.trod laidOut (by kernel_rfl) (of_decide_eq_true (by kernel_rfl)) h4 bel lt4) trodAll_mk0))))), rfl, bel.frame _, fun h => by cases h⟩
theorem proved : Rows.FnExactPointsOfSaid :=
  OpenClaim.holds_of_wide 10 Try.f10 rfl rfl rfl rfl rfl rfl rfl ⟨rfl, rfl, rfl, rfl, rfl⟩ rfl rfl rfl rfl rfl (by kernel_rfl) Try.func10 (by kernel_rfl)
    (of_decide_eq_true (by kernel_rfl)) (by unfold Func.isWrapper; first | (rw [if_pos (by decide +kernel)]; kernel_rfl) | (rw [if_neg (by decide +kernel)]; exact ⟨rfl, rfl⟩))
    (fun os started H enc _ => lifted os started H enc)
end Go.Proofs.Ytmiboaogfjgkjaa.fnExactPointsOf
