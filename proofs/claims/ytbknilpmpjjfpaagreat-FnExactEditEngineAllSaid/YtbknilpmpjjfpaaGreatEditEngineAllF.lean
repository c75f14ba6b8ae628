/- FnExactEditEngineAll: for all arguments that can be read the law returns true, and each argument reads afterwards as it read before. Conditions: none. Written by a program of mine. -/
import Derived.Test.YtbknilpmpjjfpaaGreatPkC
import Derived.Test.YtbknilpmpjjfpaaGreatLaFnExactEditEngineAll
import Derived.Test.YtbknilpmpjjfpaaGreatEditEngineAllM
set_option linter.unusedSimpArgs false
set_option linter.unusedVariables false
namespace Go.Proofs.YtbknilpmpjjfpaaGreat.fnExactEditEngineAll
open Go.ChangeShapes Go.WideShapes Go.ChangeAt Go.RowKit Go.Deep Am
theorem own : ownKnob Tryz.prog.godebug = none := by kernel_rfl
theorem laidOut : laidOutB Tryz.prog = true := by kernel_rfl
theorem types_ok : [31, 24, 22, 33, 3, 9, 27, 25, 146, 28, 106, 104, 170, 111, 108, 80, 109, 187, 60, 185, 197, 29, 113, 4, 58, 35].all (okTy Tryz.prog [31, 24, 22, 33, 3, 9, 27, 25, 146, 28, 106, 104, 170, 111, 108, 80, 109, 187, 60, 185, 197, 29, 113, 4, 58, 35]) = true := by kernel_rfl
theorem has_33 {n : Nat} {d : D} (h : has Tryz.prog n 33 d) : ∃ x : TCell, fl d = x.c := by
  cases n with
  | zero => exact h.elim
  | succ n =>
    simp only [has, Tryz.underlying33] at h
    obtain ⟨ds, rfl, hl, hf⟩ := h
    match ds, hl with
    | [x0, x1, x2, x3, x4, x5], _ =>
      obtain ⟨y0, e0⟩ := has_int Tryz.underlying3 (hf 0 _ x0 rfl rfl)
      obtain ⟨y1, e1⟩ := has_int Tryz.underlying3 (hf 1 _ x1 rfl rfl)
      obtain ⟨y2, e2⟩ := has_int Tryz.underlying3 (hf 2 _ x2 rfl rfl)
      obtain ⟨y3, e3⟩ := has_str Tryz.underlying9 (hf 3 _ x3 rfl rfl)
      obtain ⟨y4, e4⟩ := has_str Tryz.underlying9 (hf 4 _ x4 rfl rfl)
      obtain ⟨y5, e5⟩ := has_int Tryz.underlying3 (hf 5 _ x5 rfl rfl)
      exact ⟨⟨y0, y1, y2, y3, y4, y5⟩, by simp only [fl, flL, e0, e1, e2, e3, e4, e5, TCell.c_eq]; try rfl⟩
theorem has_22 {n : Nat} {d : D} (h : has Tryz.prog n 22 d) : ∃ x : List TCell, fl d = [.sl (x.map TCell.c)] :=
  has_slice Tryz.underlying22 (fun m _ x h => has_33 h) h
theorem has_24 {n : Nat} {d : D} (h : has Tryz.prog n 24 d) : ∃ x : TNotebook, fl d = x.c := by
  cases n with
  | zero => exact h.elim
  | succ n =>
    simp only [has, Tryz.underlying24] at h
    obtain ⟨ds, rfl, hl, hf⟩ := h
    match ds, hl with
    | [x0], _ =>
      obtain ⟨y0, e0⟩ := has_22 (hf 0 _ x0 rfl rfl)
      exact ⟨⟨y0⟩, by simp only [fl, flL, e0, TNotebook.c_eq]; try rfl⟩
theorem has_146 {n : Nat} {d : D} (h : has Tryz.prog n 146 d) : ∃ x : TFile, fl d = x.c := by
  cases n with
  | zero => exact h.elim
  | succ n =>
    simp only [has, Tryz.underlying146] at h
    obtain ⟨ds, rfl, hl, hf⟩ := h
    match ds, hl with
    | [x0, x1], _ =>
      obtain ⟨y0, e0⟩ := has_str Tryz.underlying9 (hf 0 _ x0 rfl rfl)
      obtain ⟨y1, e1⟩ := has_int Tryz.underlying3 (hf 1 _ x1 rfl rfl)
      exact ⟨⟨y0, y1⟩, by simp only [fl, flL, e0, e1, TFile.c_eq]; try rfl⟩
theorem has_25 {n : Nat} {d : D} (h : has Tryz.prog n 25 d) : ∃ x : List TFile, fl d = [.sl (x.map TFile.c)] :=
  has_slice Tryz.underlying25 (fun m _ x h => has_146 h) h
theorem has_27 {n : Nat} {d : D} (h : has Tryz.prog n 27 d) : ∃ x : TWorld, fl d = x.c := by
  cases n with
  | zero => exact h.elim
  | succ n =>
    simp only [has, Tryz.underlying27] at h
    obtain ⟨ds, rfl, hl, hf⟩ := h
    match ds, hl with
    | [x0, x1, x2], _ =>
      obtain ⟨y0, e0⟩ := has_int Tryz.underlying3 (hf 0 _ x0 rfl rfl)
      obtain ⟨y1, e1⟩ := has_int Tryz.underlying3 (hf 1 _ x1 rfl rfl)
      obtain ⟨y2, e2⟩ := has_25 (hf 2 _ x2 rfl rfl)
      exact ⟨⟨y0, y1, y2⟩, by simp only [fl, flL, e0, e1, e2, TWorld.c_eq]; try rfl⟩
theorem has_80 {n : Nat} {d : D} (h : has Tryz.prog n 80 d) : ∃ x : List ByteArray, fl d = [.sl (x.map sC)] :=
  has_slice Tryz.underlying80 (fun m _ x h => has_str Tryz.underlying9 h) h
theorem has_60 {n : Nat} {d : D} (h : has Tryz.prog n 60 d) : ∃ x : List Int, fl d = [.sl (x.map iC)] :=
  has_slice Tryz.underlying60 (fun m _ x h => has_int Tryz.underlying3 h) h
theorem has_197 {n : Nat} {d : D} (h : has Tryz.prog n 197 d) : ∃ x : TOrigin, fl d = x.c := by
  cases n with
  | zero => exact h.elim
  | succ n =>
    simp only [has, Tryz.underlying197] at h
    obtain ⟨ds, rfl, hl, hf⟩ := h
    match ds, hl with
    | [x0, x1], _ =>
      obtain ⟨y0, e0⟩ := has_int Tryz.underlying3 (hf 0 _ x0 rfl rfl)
      obtain ⟨y1, e1⟩ := has_int Tryz.underlying3 (hf 1 _ x1 rfl rfl)
      exact ⟨⟨y0, y1⟩, by simp only [fl, flL, e0, e1, TOrigin.c_eq]; try rfl⟩
theorem has_185 {n : Nat} {d : D} (h : has Tryz.prog n 185 d) : ∃ x : List TOrigin, fl d = [.sl (x.map TOrigin.c)] :=
  has_slice Tryz.underlying185 (fun m _ x h => has_197 h) h
theorem has_187 {n : Nat} {d : D} (h : has Tryz.prog n 187 d) : ∃ x : TRow, fl d = x.c := by
  cases n with
  | zero => exact h.elim
  | succ n =>
    simp only [has, Tryz.underlying187] at h
    obtain ⟨ds, rfl, hl, hf⟩ := h
    match ds, hl with
    | [x0, x1], _ =>
      obtain ⟨y0, e0⟩ := has_60 (hf 0 _ x0 rfl rfl)
      obtain ⟨y1, e1⟩ := has_185 (hf 1 _ x1 rfl rfl)
      exact ⟨⟨y0, y1⟩, by simp only [fl, flL, e0, e1, TRow.c_eq]; try rfl⟩
theorem has_109 {n : Nat} {d : D} (h : has Tryz.prog n 109 d) : ∃ x : List TRow, fl d = [.sl (x.map TRow.c)] :=
  has_slice Tryz.underlying109 (fun m _ x h => has_187 h) h
theorem has_111_ : ∀ (n : Nat) (d : D), has Tryz.prog n 111 d → ∃ x : TValue, fl d = x.c := by
  intro n
  induction n using Nat.strongRecOn with
  | _ n ih =>
  intro d h
  cases n with
  | zero => exact h.elim
  | succ n =>
    simp only [has, Tryz.underlying111] at h
    obtain ⟨ds, rfl, hl, hf⟩ := h
    match ds, hl with
    | [x0, x1, x2, x3, x4, x5, x6], _ =>
      obtain ⟨y0, e0⟩ := has_int Tryz.underlying3 (hf 0 _ x0 rfl rfl)
      obtain ⟨y1, e1⟩ := has_int Tryz.underlying3 (hf 1 _ x1 rfl rfl)
      obtain ⟨y2, e2⟩ := has_int Tryz.underlying3 (hf 2 _ x2 rfl rfl)
      obtain ⟨y3, e3⟩ := has_str Tryz.underlying9 (hf 3 _ x3 rfl rfl)
      obtain ⟨y4, e4⟩ := has_slice (c := TValue.c) Tryz.underlying108 (fun m hm x h => ih m (by omega) x h) (hf 4 _ x4 rfl rfl)
      obtain ⟨y5, e5⟩ := has_80 (hf 5 _ x5 rfl rfl)
      obtain ⟨y6, e6⟩ := has_109 (hf 6 _ x6 rfl rfl)
      exact ⟨⟨y0, y1, y2, y3, y4, y5, y6⟩, by simp only [fl, flL, e0, e1, e2, e3, e4, e5, e6, TValue.c_eq]; try rfl⟩
theorem has_111 {n : Nat} {d : D} (h : has Tryz.prog n 111 d) : ∃ x : TValue, fl d = x.c := has_111_ n d h
theorem has_170 {n : Nat} {d : D} (h : has Tryz.prog n 170 d) : ∃ x : TRead, fl d = x.c := by
  cases n with
  | zero => exact h.elim
  | succ n =>
    simp only [has, Tryz.underlying170] at h
    obtain ⟨ds, rfl, hl, hf⟩ := h
    match ds, hl with
    | [x0, x1, x2, x3, x4], _ =>
      obtain ⟨y0, e0⟩ := has_int Tryz.underlying3 (hf 0 _ x0 rfl rfl)
      obtain ⟨y1, e1⟩ := has_int Tryz.underlying3 (hf 1 _ x1 rfl rfl)
      obtain ⟨y2, e2⟩ := has_int Tryz.underlying3 (hf 2 _ x2 rfl rfl)
      obtain ⟨y3, e3⟩ := has_str Tryz.underlying9 (hf 3 _ x3 rfl rfl)
      obtain ⟨y4, e4⟩ := has_111 (hf 4 _ x4 rfl rfl)
      exact ⟨⟨y0, y1, y2, y3, y4⟩, by simp only [fl, flL, e0, e1, e2, e3, e4, TRead.c_eq, TValue.c_eq]; try rfl⟩
theorem has_104 {n : Nat} {d : D} (h : has Tryz.prog n 104 d) : ∃ x : List TRead, fl d = [.sl (x.map TRead.c)] :=
  has_slice Tryz.underlying104 (fun m _ x h => has_170 h) h
theorem has_106 {n : Nat} {d : D} (h : has Tryz.prog n 106 d) : ∃ x : TTape, fl d = x.c := by
  cases n with
  | zero => exact h.elim
  | succ n =>
    simp only [has, Tryz.underlying106] at h
    obtain ⟨ds, rfl, hl, hf⟩ := h
    match ds, hl with
    | [x0, x1, x2], _ =>
      obtain ⟨y0, e0⟩ := has_int Tryz.underlying3 (hf 0 _ x0 rfl rfl)
      obtain ⟨y1, e1⟩ := has_int Tryz.underlying3 (hf 1 _ x1 rfl rfl)
      obtain ⟨y2, e2⟩ := has_104 (hf 2 _ x2 rfl rfl)
      exact ⟨⟨y0, y1, y2⟩, by simp only [fl, flL, e0, e1, e2, TTape.c_eq]; try rfl⟩
theorem has_28 {n : Nat} {d : D} (h : has Tryz.prog n 28 d) : ∃ x : List TTape, fl d = [.sl (x.map TTape.c)] :=
  has_slice Tryz.underlying28 (fun m _ x h => has_106 h) h
theorem has_113 {n : Nat} {d : D} (h : has Tryz.prog n 113 d) : ∃ x : TEntry, fl d = x.c := by
  cases n with
  | zero => exact h.elim
  | succ n =>
    simp only [has, Tryz.underlying113] at h
    obtain ⟨ds, rfl, hl, hf⟩ := h
    match ds, hl with
    | [x0, x1, x2, x3, x4, x5], _ =>
      obtain ⟨y0, e0⟩ := has_int Tryz.underlying3 (hf 0 _ x0 rfl rfl)
      obtain ⟨y1, e1⟩ := has_int Tryz.underlying3 (hf 1 _ x1 rfl rfl)
      obtain ⟨y2, e2⟩ := has_int Tryz.underlying3 (hf 2 _ x2 rfl rfl)
      obtain ⟨y3, e3⟩ := has_60 (hf 3 _ x3 rfl rfl)
      obtain ⟨y4, e4⟩ := has_111 (hf 4 _ x4 rfl rfl)
      obtain ⟨y5, e5⟩ := has_bool Tryz.underlying4 (hf 5 _ x5 rfl rfl)
      exact ⟨⟨y0, y1, y2, y3, y4, y5⟩, by simp only [fl, flL, e0, e1, e2, e3, e4, e5, TEntry.c_eq, TValue.c_eq]; try rfl⟩
theorem has_29 {n : Nat} {d : D} (h : has Tryz.prog n 29 d) : ∃ x : List TEntry, fl d = [.sl (x.map TEntry.c)] :=
  has_slice Tryz.underlying29 (fun m _ x h => has_113 h) h
theorem has_31 {n : Nat} {d : D} (h : has Tryz.prog n 31 d) : ∃ x : TEngine, fl d = x.c := by
  cases n with
  | zero => exact h.elim
  | succ n =>
    simp only [has, Tryz.underlying31] at h
    obtain ⟨ds, rfl, hl, hf⟩ := h
    match ds, hl with
    | [x0, x1, x2, x3, x4, x5, x6], _ =>
      obtain ⟨y0, e0⟩ := has_24 (hf 0 _ x0 rfl rfl)
      obtain ⟨y1, e1⟩ := has_27 (hf 1 _ x1 rfl rfl)
      obtain ⟨y2, e2⟩ := has_28 (hf 2 _ x2 rfl rfl)
      obtain ⟨y3, e3⟩ := has_29 (hf 3 _ x3 rfl rfl)
      obtain ⟨y4, e4⟩ := has_int Tryz.underlying3 (hf 4 _ x4 rfl rfl)
      obtain ⟨y5, e5⟩ := has_int Tryz.underlying3 (hf 5 _ x5 rfl rfl)
      obtain ⟨y6, e6⟩ := has_int Tryz.underlying3 (hf 6 _ x6 rfl rfl)
      exact ⟨⟨y0, y1, y2, y3, y4, y5, y6⟩, by simp only [fl, flL, e0, e1, e2, e3, e4, e5, e6, TEngine.c_eq, TNotebook.c_eq, TWorld.c_eq]; try rfl⟩
theorem has_35 {n : Nat} {d : D} (h : has Tryz.prog n 35 d) : ∃ x : TEdit, fl d = x.c := by
  cases n with
  | zero => exact h.elim
  | succ n =>
    simp only [has, Tryz.underlying35] at h
    obtain ⟨ds, rfl, hl, hf⟩ := h
    match ds, hl with
    | [x0, x1, x2], _ =>
      obtain ⟨y0, e0⟩ := has_int Tryz.underlying3 (hf 0 _ x0 rfl rfl)
      obtain ⟨y1, e1⟩ := has_int Tryz.underlying3 (hf 1 _ x1 rfl rfl)
      obtain ⟨y2, e2⟩ := has_33 (hf 2 _ x2 rfl rfl)
      exact ⟨⟨y0, y1, y2⟩, by simp only [fl, flL, e0, e1, e2, TEdit.c_eq, TCell.c_eq]; try rfl⟩
theorem has_58 {n : Nat} {d : D} (h : has Tryz.prog n 58 d) : ∃ x : List TEdit, fl d = [.sl (x.map TEdit.c)] :=
  has_slice Tryz.underlying58 (fun m _ x h => has_35 h) h
set_option maxRecDepth 100000 in
theorem lifted (os : Os) (started : os.Started) (H : Type) (enc : TypeId × Value → H) :
    ReturnsInHanded {} Tryz.checked os 4 .any (Rows.fnExactEditEngineAllSpec.pre6 enc Tryz.prog Tryz.f4 Rows.fnExactEditEngineAllRow.domain false) (Rows.fnExactEditEngineAllSpec.post enc Tryz.prog Tryz.f4 false true false false) := by
  refine returnsInHanded_of_change (C := Tryz.checked) own started (by kernel_rfl) Tryz.func4
    (ChangeSpec.witness6 (enc := enc) (C := Tryz.checked) false ⟨#[], #[.agg #[.slice none 0 0, .int .i64 0, .int .i64 0, .slice none 0 0, .slice none 0 0, .slice none 0 0, .int .i64 0, .int .i64 0, .int .i64 0], .slice none 0 0], []⟩ 8 (by kernel_rfl) (by kernel_rfl) (by kernel_rfl) (by kernel_rfl)) ?_
  intro W base args ds gs before hval0 hW hcnd _
  have hW' := hW
  obtain ⟨p, q, hA0, hV, rfl, hfz, hnd⟩ := hW
  have hA : DataW.TrodAll enc Tryz.prog W 0 (fun _ => true) true Tryz.f4.params.toList args.toList ds p := hA0
  have hval : ∀ (j : Nat) t v, Tryz.f4.params[j]? = some t → args[j]? = some v → Value.okWide Tryz.prog W .any base t v := hval0
  rw [Tryz.params4] at hA hval
  obtain ⟨v0, vs0, d0, ds0, p0, q0, hargs, rfl, rfl, h0, r0⟩ := trodAll_cons hA
  obtain ⟨v1, vs1, d1, ds1, p1, q1, rfl, rfl, rfl, h1, r1⟩ := trodAll_cons r0
  obtain ⟨rfl, rfl, rfl⟩ := trodAll_nil r1
  obtain rfl : args = #[v0, v1] := by cases args; simp_all
  obtain ⟨rfl, rfl⟩ := trodVars_none hV
  have lt0 : ∀ x ∈ p0, x.block < W.heap.size := by obtain ⟨m, hm⟩ := h0; exact DataW.trod_lt m _ _ _ hm
  have lt1 : ∀ x ∈ p1, x.block < W.heap.size := by obtain ⟨m, hm⟩ := h1; exact DataW.trod_lt m _ _ _ hm
  obtain ⟨⟨cl0⟩, rfl, _⟩ := okWide_struct Tryz.underlying31 (hval 0 _ v0 rfl rfl)
  obtain ⟨x0, F0, w0⟩ : ∃ (x : TEngine) (F : List Nat), RpL W x.c cl0 F := by
    obtain ⟨fuel, hf⟩ := h0
    obtain ⟨d, F, k1, k2⟩ := open_plain _ types_ok fuel _ _ _ (by simp) hf
    obtain ⟨x, e⟩ := has_31 k2
    exact ⟨x, F, by rw [← e]; exact rep_fl.1 k1⟩
  obtain ⟨a1, len1, cap1, rfl⟩ := okWide_slice Tryz.underlying58 (hval 1 _ v1 rfl rfl)
  obtain ⟨x1, F1, w1⟩ : ∃ (x : List TEdit) (F : List Nat), RpL W [.sl (x.map TEdit.c)] [.slice a1 len1 cap1] F := by
    obtain ⟨fuel, hf⟩ := h1
    obtain ⟨d, F, k1, k2⟩ := open_plain _ types_ok fuel _ _ _ (by simp) hf
    obtain ⟨x, e⟩ := has_58 k2
    exact ⟨x, F, by rw [← e]; exact rep_fl.1 k1⟩
  obtain ⟨u1, k1⟩ := dv_of_one w1
  clear hA0 hval0
  obtain ⟨k, hk⟩ := FnExactEditEngineAll_law x0 (RpL.dok w0) x1 k1
  refine (law_true (w_FnExactEditEngineAll_ctr k x0 x1 true hk) ⟨fun _ => False, fun _ q => q.elim, by simp [glb]⟩ (dvs_cons (dv_of_struct w0) (dvs_cons u1 dvs_nil))).mono fun e W' ⟨he, bel⟩ => ?_
  subst he
  exact ⟨_, rfl, _, _, _, [], _, [], hW', trodAll_mk1 (shut_bool Tryz.underlying4 _), (trodAll_cons_mk (Below.trod laidOut (by kernel_rfl) (of_decide_eq_true (by kernel_rfl)) h0 bel lt0) (trodAll_cons_mk (Below.trod laidOut (by kernel_rfl) (of_decide_eq_true (by kernel_rfl)) h1 bel lt1) trodAll_mk0)), rfl, bel.frame _, fun h => by cases h⟩
theorem proved : Rows.FnExactEditEngineAllSaid :=
  OpenClaim.holds_of_wide 4 Tryz.f4 rfl rfl rfl rfl rfl rfl rfl ⟨rfl, rfl, rfl, rfl, rfl⟩ rfl rfl rfl rfl rfl (by kernel_rfl) Tryz.func4 (by kernel_rfl)
    (of_decide_eq_true (by kernel_rfl)) (by unfold Func.isWrapper; first | (rw [if_pos (by decide +kernel)]; kernel_rfl) | (rw [if_neg (by decide +kernel)]; exact ⟨rfl, rfl⟩))
    (fun os started H enc _ => lifted os started H enc)
end Go.Proofs.YtbknilpmpjjfpaaGreat.fnExactEditEngineAll
