/- FnExactFreshView: for all arguments that can be read the law returns true, and each argument reads afterwards as it read before. Conditions: none. Written by a program of mine. -/
import Derived.Test.YtmiboaogfjgkjaaGreatDoorPkC
import Derived.Test.YtmiboaogfjgkjaaGreatDoorLaFnExactFreshView
import Derived.Test.YtmiboaogfjgkjaaGreatDoorFreshViewM
import Derived.Test.YtmiboaogfjgkjaaGreatDoorCards
import Derived.Test.YtmiboaogfjgkjaaGreatDoorTie
import Derived.Test.YtmiboaogfjgkjaaGreatDoorLc
import Derived.Test.YtmiboaogfjgkjaaGreatDoorLe
import Derived.ProofKit
import Derived.LaidMore
import Derived.OpenShut
import Derived.Stop.Joined
import Derived.SevenTiedAt
import Derived.Lib.LaidTab
import Derived.ChangeSame
import Derived.ChangeVars
import Derived.OpenVars
import Derived.JoinedOf
import Derived.LaidLaws
set_option linter.unusedSimpArgs false
set_option linter.unusedVariables false
namespace Go.Proofs.YtmiboaogfjgkjaaGreatDoor.fnExactFreshView
open Go.ChangeShapes Go.WideShapes Go.ChangeAt Go.RowKit Go.Deep Am
theorem own : ownKnob Tryz.prog.godebug = none := by kernel_rfl
theorem laidOut : laidOutB Tryz.prog = true := by kernel_rfl
theorem types_ok : [24, 22, 74, 3, 9, 28, 25, 78, 58, 76, 122, 106, 120, 157, 26, 82, 80, 125].all (okTy Tryz.prog [24, 22, 74, 3, 9, 28, 25, 78, 58, 76, 122, 106, 120, 157, 26, 82, 80, 125]) = true := by kernel_rfl
theorem has_74 {n : Nat} {d : D} (h : has Tryz.prog n 74 d) : ∃ x : TCell, fl d = x.c := by
  cases n with
  | zero => exact h.elim
  | succ n =>
    simp only [has, Tryz.underlying74] at h
    obtain ⟨ds, rfl, hl, hf⟩ := h
    match ds, hl with
    | [x0, x1, x2, x3, x4, x5], _ =>
      obtain ⟨y0, e0⟩ := has_int Tryz.underlying3 (hf 0 _ x0 rfl rfl)
      obtain ⟨y1, e1⟩ := has_int Tryz.underlying3 (hf 1 _ x1 rfl rfl)
      obtain ⟨y2, e2⟩ := has_int Tryz.underlying3 (hf 2 _ x2 rfl rfl)
      obtain ⟨y3, e3⟩ := has_str Tryz.underlying9 (hf 3 _ x3 rfl rfl)
      obtain ⟨y4, e4⟩ := has_str Tryz.underlying9 (hf 4 _ x4 rfl rfl)
      obtain ⟨y5, e5⟩ := has_int Tryz.underlying3 (hf 5 _ x5 rfl rfl)
      exact ⟨⟨y0, y1, y2, y3, y4, y5⟩, by simp only [fl, flL, e0, e1, e2, e3, e4, e5, TCell.c_eq]; try rfl⟩
theorem has_22 {n : Nat} {d : D} (h : has Tryz.prog n 22 d) : ∃ x : List TCell, fl d = [.sl (x.map TCell.c)] :=
  has_slice Tryz.underlying22 (fun m _ x h => has_74 h) h
theorem has_24 {n : Nat} {d : D} (h : has Tryz.prog n 24 d) : ∃ x : TNotebook, fl d = x.c := by
  cases n with
  | zero => exact h.elim
  | succ n =>
    simp only [has, Tryz.underlying24] at h
    obtain ⟨ds, rfl, hl, hf⟩ := h
    match ds, hl with
    | [x0], _ =>
      obtain ⟨y0, e0⟩ := has_22 (hf 0 _ x0 rfl rfl)
      exact ⟨⟨y0⟩, by simp only [fl, flL, e0, TNotebook.c_eq]; try rfl⟩
theorem has_58 {n : Nat} {d : D} (h : has Tryz.prog n 58 d) : ∃ x : List ByteArray, fl d = [.sl (x.map sC)] :=
  has_slice Tryz.underlying58 (fun m _ x h => has_str Tryz.underlying9 h) h
theorem has_106 {n : Nat} {d : D} (h : has Tryz.prog n 106 d) : ∃ x : List Int, fl d = [.sl (x.map iC)] :=
  has_slice Tryz.underlying106 (fun m _ x h => has_int Tryz.underlying3 h) h
theorem has_157 {n : Nat} {d : D} (h : has Tryz.prog n 157 d) : ∃ x : TOrigin, fl d = x.c := by
  cases n with
  | zero => exact h.elim
  | succ n =>
    simp only [has, Tryz.underlying157] at h
    obtain ⟨ds, rfl, hl, hf⟩ := h
    match ds, hl with
    | [x0, x1], _ =>
      obtain ⟨y0, e0⟩ := has_int Tryz.underlying3 (hf 0 _ x0 rfl rfl)
      obtain ⟨y1, e1⟩ := has_int Tryz.underlying3 (hf 1 _ x1 rfl rfl)
      exact ⟨⟨y0, y1⟩, by simp only [fl, flL, e0, e1, TOrigin.c_eq]; try rfl⟩
theorem has_120 {n : Nat} {d : D} (h : has Tryz.prog n 120 d) : ∃ x : List TOrigin, fl d = [.sl (x.map TOrigin.c)] :=
  has_slice Tryz.underlying120 (fun m _ x h => has_157 h) h
theorem has_122 {n : Nat} {d : D} (h : has Tryz.prog n 122 d) : ∃ x : TRow, fl d = x.c := by
  cases n with
  | zero => exact h.elim
  | succ n =>
    simp only [has, Tryz.underlying122] at h
    obtain ⟨ds, rfl, hl, hf⟩ := h
    match ds, hl with
    | [x0, x1], _ =>
      obtain ⟨y0, e0⟩ := has_106 (hf 0 _ x0 rfl rfl)
      obtain ⟨y1, e1⟩ := has_120 (hf 1 _ x1 rfl rfl)
      exact ⟨⟨y0, y1⟩, by simp only [fl, flL, e0, e1, TRow.c_eq]; try rfl⟩
theorem has_76 {n : Nat} {d : D} (h : has Tryz.prog n 76 d) : ∃ x : List TRow, fl d = [.sl (x.map TRow.c)] :=
  has_slice Tryz.underlying76 (fun m _ x h => has_122 h) h
theorem has_78_ : ∀ (n : Nat) (d : D), has Tryz.prog n 78 d → ∃ x : TValue, fl d = x.c := by
  intro n
  induction n using Nat.strongRecOn with
  | _ n ih =>
  intro d h
  cases n with
  | zero => exact h.elim
  | succ n =>
    simp only [has, Tryz.underlying78] at h
    obtain ⟨ds, rfl, hl, hf⟩ := h
    match ds, hl with
    | [x0, x1, x2, x3, x4, x5, x6], _ =>
      obtain ⟨y0, e0⟩ := has_int Tryz.underlying3 (hf 0 _ x0 rfl rfl)
      obtain ⟨y1, e1⟩ := has_int Tryz.underlying3 (hf 1 _ x1 rfl rfl)
      obtain ⟨y2, e2⟩ := has_int Tryz.underlying3 (hf 2 _ x2 rfl rfl)
      obtain ⟨y3, e3⟩ := has_str Tryz.underlying9 (hf 3 _ x3 rfl rfl)
      obtain ⟨y4, e4⟩ := has_slice (c := TValue.c) Tryz.underlying25 (fun m hm x h => ih m (by omega) x h) (hf 4 _ x4 rfl rfl)
      obtain ⟨y5, e5⟩ := has_58 (hf 5 _ x5 rfl rfl)
      obtain ⟨y6, e6⟩ := has_76 (hf 6 _ x6 rfl rfl)
      exact ⟨⟨y0, y1, y2, y3, y4, y5, y6⟩, by simp only [fl, flL, e0, e1, e2, e3, e4, e5, e6, TValue.c_eq]; try rfl⟩
theorem has_78 {n : Nat} {d : D} (h : has Tryz.prog n 78 d) : ∃ x : TValue, fl d = x.c := has_78_ n d h
theorem has_25 {n : Nat} {d : D} (h : has Tryz.prog n 25 d) : ∃ x : List TValue, fl d = [.sl (x.map TValue.c)] :=
  has_slice Tryz.underlying25 (fun m _ x h => has_78 h) h
theorem has_125 {n : Nat} {d : D} (h : has Tryz.prog n 125 d) : ∃ x : TRead, fl d = x.c := by
  cases n with
  | zero => exact h.elim
  | succ n =>
    simp only [has, Tryz.underlying125] at h
    obtain ⟨ds, rfl, hl, hf⟩ := h
    match ds, hl with
    | [x0, x1, x2, x3, x4], _ =>
      obtain ⟨y0, e0⟩ := has_int Tryz.underlying3 (hf 0 _ x0 rfl rfl)
      obtain ⟨y1, e1⟩ := has_int Tryz.underlying3 (hf 1 _ x1 rfl rfl)
      obtain ⟨y2, e2⟩ := has_int Tryz.underlying3 (hf 2 _ x2 rfl rfl)
      obtain ⟨y3, e3⟩ := has_str Tryz.underlying9 (hf 3 _ x3 rfl rfl)
      obtain ⟨y4, e4⟩ := has_78 (hf 4 _ x4 rfl rfl)
      exact ⟨⟨y0, y1, y2, y3, y4⟩, by simp only [fl, flL, e0, e1, e2, e3, e4, TRead.c_eq, TValue.c_eq]; try rfl⟩
theorem has_80 {n : Nat} {d : D} (h : has Tryz.prog n 80 d) : ∃ x : List TRead, fl d = [.sl (x.map TRead.c)] :=
  has_slice Tryz.underlying80 (fun m _ x h => has_125 h) h
theorem has_82 {n : Nat} {d : D} (h : has Tryz.prog n 82 d) : ∃ x : TTape, fl d = x.c := by
  cases n with
  | zero => exact h.elim
  | succ n =>
    simp only [has, Tryz.underlying82] at h
    obtain ⟨ds, rfl, hl, hf⟩ := h
    match ds, hl with
    | [x0, x1, x2], _ =>
      obtain ⟨y0, e0⟩ := has_int Tryz.underlying3 (hf 0 _ x0 rfl rfl)
      obtain ⟨y1, e1⟩ := has_int Tryz.underlying3 (hf 1 _ x1 rfl rfl)
      obtain ⟨y2, e2⟩ := has_80 (hf 2 _ x2 rfl rfl)
      exact ⟨⟨y0, y1, y2⟩, by simp only [fl, flL, e0, e1, e2, TTape.c_eq]; try rfl⟩
theorem has_26 {n : Nat} {d : D} (h : has Tryz.prog n 26 d) : ∃ x : List TTape, fl d = [.sl (x.map TTape.c)] :=
  has_slice Tryz.underlying26 (fun m _ x h => has_82 h) h
theorem has_28 {n : Nat} {d : D} (h : has Tryz.prog n 28 d) : ∃ x : TRun, fl d = x.c := by
  cases n with
  | zero => exact h.elim
  | succ n =>
    simp only [has, Tryz.underlying28] at h
    obtain ⟨ds, rfl, hl, hf⟩ := h
    match ds, hl with
    | [x0, x1, x2], _ =>
      obtain ⟨y0, e0⟩ := has_25 (hf 0 _ x0 rfl rfl)
      obtain ⟨y1, e1⟩ := has_26 (hf 1 _ x1 rfl rfl)
      obtain ⟨y2, e2⟩ := has_int Tryz.underlying3 (hf 2 _ x2 rfl rfl)
      exact ⟨⟨y0, y1, y2⟩, by simp only [fl, flL, e0, e1, e2, TRun.c_eq]; try rfl⟩
theorem door_met (os : Os) (args : Array Value) : laidMetH Tryz.prog Rows.fnExactFreshViewRow.laid ((World.doorLaid Tryz.prog 2000 os).forCall (fun _ _ => 0) ⟨#[], args, []⟩).memory :=
  laidMetH_of_parts3 (fuel := 8) (laidMet_of_run' 8 (by kernel_rfl) (by kernel_rfl)) (by kernel_rfl) (by kernel_rfl)
theorem glb_of {W : World} (h : laidMetH Tryz.prog Rows.fnExactFreshViewRow.laid W) : ∃ G, Glb W G := by
  rw [MakeChecks.laidMetH_plain _ _ _ (by kernel_rfl)] at h
  obtain ⟨ps, ⟨g0, t0, cs0, f0, p0, q0, hg0, ht0, hv0, hd0, ⟨g1, t1, cs1, f1, p1, q1, hg1, ht1, hv1, hd1, ⟨g2, t2, cs2, f2, p2, q2, hg2, ht2, hv2, hd2, ⟨g3, t3, cs3, f3, p3, q3, hg3, ht3, hv3, hd3, _, _⟩, _⟩, _⟩, _⟩, _, _⟩ := h
  have eg0 : Tryz.prog.globalNamed "internal/strconv.uint64pow10" = some 1 := by kernel_rfl
  obtain rfl := Option.some.inj (eg0.symm.trans hg2)
  have et0 : (Tryz.prog.globals[1]?).map (·.type) = some 172 := by kernel_rfl
  obtain rfl := Option.some.inj (et0.symm.trans ht2)
  have st0 : Stands W (1, tabL) := tab_stands Tryz.underlying172 Tryz.underlying162 (by kernel_rfl) (by kernel_rfl) eg0 hv2 hd2
  have eg1 : Tryz.prog.globalNamed "loop.example/g00510/impl.errorNames" = some 0 := by kernel_rfl
  obtain rfl := Option.some.inj (eg1.symm.trans hg3)
  have et1 : (Tryz.prog.globals[0]?).map (·.type) = some 58 := by kernel_rfl
  obtain rfl := Option.some.inj (et1.symm.trans ht3)
  have st1 : Stands W (0, errL) := err_stands Tryz.underlying58 Tryz.underlying9 (by kernel_rfl) eg1 hv3 hd3
  refine glb_all fun p hp => ?_
  rw [show glb = [(1, tabL), (0, errL)] from rfl] at hp
  simp only [List.mem_cons, List.not_mem_nil, or_false] at hp
  rcases hp with rfl | rfl
  · exact st0
  · exact st1
set_option maxRecDepth 100000 in
theorem lifted (os : Os) (started : os.Started) (H : Type) (enc : TypeId × Value → H) :
    ReturnsInHanded {} Tryz.checked os 3 .any (fun w args => (Rows.fnExactFreshViewSpec.pre enc Tryz.prog Tryz.f3 Rows.fnExactFreshViewRow.domain false w args ∧ laidMetH Tryz.prog Rows.fnExactFreshViewRow.laid w) ∧ sizedMet enc Tryz.prog Tryz.f3 (OpenSpec.ofChange Rows.fnExactFreshViewSpec) false w args) (Rows.fnExactFreshViewSpec.post enc Tryz.prog Tryz.f3 false true false false) := by
  refine returnsInHanded_of_change_and (C := Tryz.checked) (X := fun w _ => laidMetH Tryz.prog Rows.fnExactFreshViewRow.laid w) (fun _ _ _ hh h => h.of_heap hh) own started (by kernel_rfl) Tryz.func3
    (ChangeSpec.witness_shaped (enc := enc) (C := Tryz.checked) (os := os) (X := fun w _ => laidMetH Tryz.prog Rows.fnExactFreshViewRow.laid w) false (World.doorLaid Tryz.prog 2000 os) #[.agg #[.slice none 0 0], .agg #[.slice none 0 0, .slice none 0 0, .int .i64 0]] 8 rfl (World.shaped_of_RefB (by kernel_rfl) (by kernel_rfl)) (by kernel_rfl) (by kernel_rfl) (by kernel_rfl) (door_met os _)) ?_
  intro W base args ds gs before hval0 hW hcnd _ hL _
  have hglb := glb_of hL
  have hW' := hW
  obtain ⟨p, q, hA0, hV, rfl, hfz, hnd⟩ := hW
  have hA : DataW.TrodAll enc Tryz.prog W 0 (fun _ => true) true Tryz.f3.params.toList args.toList ds p := hA0
  have hval : ∀ (j : Nat) t v, Tryz.f3.params[j]? = some t → args[j]? = some v → Value.okWide Tryz.prog W .any base t v := hval0
  rw [Tryz.params3] at hA hval
  obtain ⟨v0, vs0, d0, ds0, p0, q0, hargs, rfl, rfl, h0, r0⟩ := trodAll_cons hA
  obtain ⟨v1, vs1, d1, ds1, p1, q1, rfl, rfl, rfl, h1, r1⟩ := trodAll_cons r0
  obtain ⟨rfl, rfl, rfl⟩ := trodAll_nil r1
  obtain rfl : args = #[v0, v1] := by cases args; simp_all
  have hV0 := hV
  obtain ⟨_, _, _, _, gd, _, rfl, _⟩ := trodVars_one hV0
  have lt0 : ∀ x ∈ p0, x.block < W.heap.size := by obtain ⟨m, hm⟩ := h0; exact DataW.trod_lt m _ _ _ hm
  have lt1 : ∀ x ∈ p1, x.block < W.heap.size := by obtain ⟨m, hm⟩ := h1; exact DataW.trod_lt m _ _ _ hm
  obtain ⟨⟨cl0⟩, rfl, _⟩ := okWide_struct Tryz.underlying24 (hval 0 _ v0 rfl rfl)
  obtain ⟨x0, F0, w0⟩ : ∃ (x : TNotebook) (F : List Nat), RpL W x.c cl0 F := by
    obtain ⟨fuel, hf⟩ := h0
    obtain ⟨d, F, k1, k2⟩ := open_plain _ types_ok fuel _ _ _ (by simp) hf
    obtain ⟨x, e⟩ := has_24 k2
    exact ⟨x, F, by rw [← e]; exact rep_fl.1 k1⟩
  obtain ⟨⟨cl1⟩, rfl, _⟩ := okWide_struct Tryz.underlying28 (hval 1 _ v1 rfl rfl)
  obtain ⟨x1, F1, w1⟩ : ∃ (x : TRun) (F : List Nat), RpL W x.c cl1 F := by
    obtain ⟨fuel, hf⟩ := h1
    obtain ⟨d, F, k1, k2⟩ := open_plain _ types_ok fuel _ _ _ (by simp) hf
    obtain ⟨x, e⟩ := has_28 k2
    exact ⟨x, F, by rw [← e]; exact rep_fl.1 k1⟩
  clear hA0 hval0
  obtain ⟨k, hk⟩ := FnExactFreshView_law x0 (RpL.dok w0) x1 (RpL.dok w1)
  refine (law_true (w_FnExactFreshView_ctr k x0 x1 true hk) hglb (dvs_cons (dv_of_struct w0) (dvs_cons (dv_of_struct w1) dvs_nil))).mono fun e W' ⟨he, bel⟩ => ?_
  subst he
  exact ⟨_, rfl, _, _, _, [], _, _, hW', trodAll_mk1 (shut_bool Tryz.underlying4 _), (trodAll_cons_mk (Below.trod laidOut (by kernel_rfl) (of_decide_eq_true (by kernel_rfl)) h0 bel lt0) (trodAll_cons_mk (Below.trod laidOut (by kernel_rfl) (of_decide_eq_true (by kernel_rfl)) h1 bel lt1) trodAll_mk0)), Below.trodVars laidOut bel (by kernel_rfl) hV, bel.frame _, fun h => by cases h⟩
theorem holds : Rows.FnExactFreshViewSaid :=
  OpenClaim.holds_of_wide 3 Tryz.f3 rfl rfl rfl rfl rfl rfl rfl ⟨rfl, rfl, rfl, rfl, rfl⟩ rfl rfl rfl rfl rfl (by kernel_rfl) Tryz.func3 (by kernel_rfl)
    (of_decide_eq_true (by kernel_rfl)) (by unfold Func.isWrapper; first | (rw [if_pos (by decide +kernel)]; kernel_rfl) | (rw [if_neg (by decide +kernel)]; exact ⟨rfl, rfl⟩))
    (fun os started H enc _ => lifted os started H enc)
theorem proved : Rows.FnExactFreshViewCardSaid :=
  Claim7.holds_tied_plain_at .later [] [.data, .data, .data, .widerDeep] true (true, "28fa6c139b60d0bef089534e3f733b616826997eea63e36ce81aaf135fd0391f") false
    holds (fun _ h => by cases h) (by kernel_rfl) (fun _ h => by cases h) fnExactFreshView_row_tie rfl ⟨rfl, rfl⟩ (by kernel_rfl) rfl
    (fun f fn hf hfn => by
      obtain rfl : f = 3 := Option.some.inj ((show Tryz.prog.funcNamed "loop.example/g00510/laws.FnExactFreshView" = some 3 by kernel_rfl).symm.trans hf) |>.symm
      obtain rfl : fn = Tryz.f3 := (Option.some.inj (Tryz.func3.symm.trans hfn)).symm
      exact ⟨by kernel_rfl, fun j t ht => by
        rw [Tryz.params3] at ht
        have hm : t ∈ [24, 28] := by simpa using Array.mem_of_getElem? ht
        have hall : ([24, 28].all fun u => !Tryz.prog.wantsStandIn u) = true := by kernel_rfl
        exact (show Tryz.prog.wantsStandIn t = false by simpa using List.all_eq_true.1 hall t hm)⟩)
    (by kernel_rfl)
end Go.Proofs.YtmiboaogfjgkjaaGreatDoor.fnExactFreshView
