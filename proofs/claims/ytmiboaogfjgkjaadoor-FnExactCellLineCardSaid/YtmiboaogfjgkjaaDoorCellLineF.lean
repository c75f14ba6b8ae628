/- FnExactCellLine: for all arguments that can be read the law returns true, and each argument reads afterwards as it read before. Conditions: none. Written by a program of mine. -/
import Derived.Test.YtmiboaogfjgkjaaDoorPkC
import Derived.Test.YtmiboaogfjgkjaaDoorLaFnExactCellLine
import Derived.Test.YtmiboaogfjgkjaaDoorCellLineM
import Derived.Test.YtmiboaogfjgkjaaDoorCards
import Derived.Test.YtmiboaogfjgkjaaDoorTie
import Derived.Test.YtmiboaogfjgkjaaDoorLc
import Derived.Test.YtmiboaogfjgkjaaDoorLe
import Derived.ProofKit
import Derived.LaidMore
import Derived.OpenShut
import Derived.Stop.Joined
import Derived.SevenTiedAt
import Derived.Lib.LaidTab
import Derived.ChangeSame
import Derived.ChangeVars
import Derived.OpenVars
import Derived.JoinedOf
import Derived.LaidLaws
set_option linter.unusedSimpArgs false
set_option linter.unusedVariables false
namespace Go.Proofs.YtmiboaogfjgkjaaDoor.fnExactCellLine
open Go.ChangeShapes Go.WideShapes Go.ChangeAt Go.RowKit Go.Deep Am
theorem own : ownKnob Tryd.prog.godebug = none := by kernel_rfl
theorem laidOut : laidOutB Tryd.prog = true := by kernel_rfl
theorem types_ok : [30, 3, 9, 35, 31, 32, 33, 70, 67, 68, 97, 4].all (okTy Tryd.prog [30, 3, 9, 35, 31, 32, 33, 70, 67, 68, 97, 4]) = true := by kernel_rfl
theorem has_30 {n : Nat} {d : D} (h : has Tryd.prog n 30 d) : ∃ x : TCell, fl d = x.c := by
  cases n with
  | zero => exact h.elim
  | succ n =>
    simp only [has, Tryd.underlying30] at h
    obtain ⟨ds, rfl, hl, hf⟩ := h
    match ds, hl with
    | [x0, x1, x2, x3, x4, x5], _ =>
      obtain ⟨y0, e0⟩ := has_int Tryd.underlying3 (hf 0 _ x0 rfl rfl)
      obtain ⟨y1, e1⟩ := has_int Tryd.underlying3 (hf 1 _ x1 rfl rfl)
      obtain ⟨y2, e2⟩ := has_int Tryd.underlying3 (hf 2 _ x2 rfl rfl)
      obtain ⟨y3, e3⟩ := has_str Tryd.underlying9 (hf 3 _ x3 rfl rfl)
      obtain ⟨y4, e4⟩ := has_str Tryd.underlying9 (hf 4 _ x4 rfl rfl)
      obtain ⟨y5, e5⟩ := has_int Tryd.underlying3 (hf 5 _ x5 rfl rfl)
      exact ⟨⟨y0, y1, y2, y3, y4, y5⟩, by simp only [fl, flL, e0, e1, e2, e3, e4, e5, TCell.c_eq]; try rfl⟩
theorem has_32 {n : Nat} {d : D} (h : has Tryd.prog n 32 d) : ∃ x : List ByteArray, fl d = [.sl (x.map sC)] :=
  has_slice Tryd.underlying32 (fun m _ x h => has_str Tryd.underlying9 h) h
theorem has_67 {n : Nat} {d : D} (h : has Tryd.prog n 67 d) : ∃ x : List Int, fl d = [.sl (x.map iC)] :=
  has_slice Tryd.underlying67 (fun m _ x h => has_int Tryd.underlying3 h) h
theorem has_97 {n : Nat} {d : D} (h : has Tryd.prog n 97 d) : ∃ x : TOrigin, fl d = x.c := by
  cases n with
  | zero => exact h.elim
  | succ n =>
    simp only [has, Tryd.underlying97] at h
    obtain ⟨ds, rfl, hl, hf⟩ := h
    match ds, hl with
    | [x0, x1], _ =>
      obtain ⟨y0, e0⟩ := has_int Tryd.underlying3 (hf 0 _ x0 rfl rfl)
      obtain ⟨y1, e1⟩ := has_int Tryd.underlying3 (hf 1 _ x1 rfl rfl)
      exact ⟨⟨y0, y1⟩, by simp only [fl, flL, e0, e1, TOrigin.c_eq]; try rfl⟩
theorem has_68 {n : Nat} {d : D} (h : has Tryd.prog n 68 d) : ∃ x : List TOrigin, fl d = [.sl (x.map TOrigin.c)] :=
  has_slice Tryd.underlying68 (fun m _ x h => has_97 h) h
theorem has_70 {n : Nat} {d : D} (h : has Tryd.prog n 70 d) : ∃ x : TRow, fl d = x.c := by
  cases n with
  | zero => exact h.elim
  | succ n =>
    simp only [has, Tryd.underlying70] at h
    obtain ⟨ds, rfl, hl, hf⟩ := h
    match ds, hl with
    | [x0, x1], _ =>
      obtain ⟨y0, e0⟩ := has_67 (hf 0 _ x0 rfl rfl)
      obtain ⟨y1, e1⟩ := has_68 (hf 1 _ x1 rfl rfl)
      exact ⟨⟨y0, y1⟩, by simp only [fl, flL, e0, e1, TRow.c_eq]; try rfl⟩
theorem has_33 {n : Nat} {d : D} (h : has Tryd.prog n 33 d) : ∃ x : List TRow, fl d = [.sl (x.map TRow.c)] :=
  has_slice Tryd.underlying33 (fun m _ x h => has_70 h) h
theorem has_35_ : ∀ (n : Nat) (d : D), has Tryd.prog n 35 d → ∃ x : TValue, fl d = x.c := by
  intro n
  induction n using Nat.strongRecOn with
  | _ n ih =>
  intro d h
  cases n with
  | zero => exact h.elim
  | succ n =>
    simp only [has, Tryd.underlying35] at h
    obtain ⟨ds, rfl, hl, hf⟩ := h
    match ds, hl with
    | [x0, x1, x2, x3, x4, x5, x6], _ =>
      obtain ⟨y0, e0⟩ := has_int Tryd.underlying3 (hf 0 _ x0 rfl rfl)
      obtain ⟨y1, e1⟩ := has_int Tryd.underlying3 (hf 1 _ x1 rfl rfl)
      obtain ⟨y2, e2⟩ := has_int Tryd.underlying3 (hf 2 _ x2 rfl rfl)
      obtain ⟨y3, e3⟩ := has_str Tryd.underlying9 (hf 3 _ x3 rfl rfl)
      obtain ⟨y4, e4⟩ := has_slice (c := TValue.c) Tryd.underlying31 (fun m hm x h => ih m (by omega) x h) (hf 4 _ x4 rfl rfl)
      obtain ⟨y5, e5⟩ := has_32 (hf 5 _ x5 rfl rfl)
      obtain ⟨y6, e6⟩ := has_33 (hf 6 _ x6 rfl rfl)
      exact ⟨⟨y0, y1, y2, y3, y4, y5, y6⟩, by simp only [fl, flL, e0, e1, e2, e3, e4, e5, e6, TValue.c_eq]; try rfl⟩
theorem has_35 {n : Nat} {d : D} (h : has Tryd.prog n 35 d) : ∃ x : TValue, fl d = x.c := has_35_ n d h
theorem door_met (os : Os) (args : Array Value) : laidMetH Tryd.prog Rows.fnExactCellLineRow.laid ((World.doorLaid Tryd.prog 2000 os).forCall (fun _ _ => 0) ⟨#[], args, []⟩).memory :=
  laidMetH_of_parts3 (fuel := 8) (laidMet_of_run' 8 (by kernel_rfl) (by kernel_rfl)) (by kernel_rfl) (by kernel_rfl)
theorem glb_of {W : World} (h : laidMetH Tryd.prog Rows.fnExactCellLineRow.laid W) : ∃ G, Glb W G := by
  rw [MakeChecks.laidMetH_plain _ _ _ (by kernel_rfl)] at h
  obtain ⟨ps, ⟨g0, t0, cs0, f0, p0, q0, hg0, ht0, hv0, hd0, ⟨g1, t1, cs1, f1, p1, q1, hg1, ht1, hv1, hd1, ⟨g2, t2, cs2, f2, p2, q2, hg2, ht2, hv2, hd2, ⟨g3, t3, cs3, f3, p3, q3, hg3, ht3, hv3, hd3, _, _⟩, _⟩, _⟩, _⟩, _, _⟩ := h
  have eg0 : Tryd.prog.globalNamed "internal/strconv.uint64pow10" = some 1 := by kernel_rfl
  obtain rfl := Option.some.inj (eg0.symm.trans hg2)
  have et0 : (Tryd.prog.globals[1]?).map (·.type) = some 118 := by kernel_rfl
  obtain rfl := Option.some.inj (et0.symm.trans ht2)
  have st0 : Stands W (1, tabL) := tab_stands Tryd.underlying118 Tryd.underlying109 (by kernel_rfl) (by kernel_rfl) eg0 hv2 hd2
  have eg1 : Tryd.prog.globalNamed "loop.example/g00510/impl.errorNames" = some 0 := by kernel_rfl
  obtain rfl := Option.some.inj (eg1.symm.trans hg3)
  have et1 : (Tryd.prog.globals[0]?).map (·.type) = some 32 := by kernel_rfl
  obtain rfl := Option.some.inj (et1.symm.trans ht3)
  have st1 : Stands W (0, errL) := err_stands Tryd.underlying32 Tryd.underlying9 (by kernel_rfl) eg1 hv3 hd3
  refine glb_all fun p hp => ?_
  rw [show glb = [(1, tabL), (0, errL)] from rfl] at hp
  simp only [List.mem_cons, List.not_mem_nil, or_false] at hp
  rcases hp with rfl | rfl
  · exact st0
  · exact st1
set_option maxRecDepth 100000 in
theorem lifted (os : Os) (started : os.Started) (H : Type) (enc : TypeId × Value → H) :
    ReturnsInHanded {} Tryd.checked os 4 .any (fun w args => (Rows.fnExactCellLineSpec.pre enc Tryd.prog Tryd.f4 Rows.fnExactCellLineRow.domain false w args ∧ laidMetH Tryd.prog Rows.fnExactCellLineRow.laid w) ∧ sizedMet enc Tryd.prog Tryd.f4 (OpenSpec.ofChange Rows.fnExactCellLineSpec) false w args) (Rows.fnExactCellLineSpec.post enc Tryd.prog Tryd.f4 false true false false) := by
  refine returnsInHanded_of_change_and (C := Tryd.checked) (X := fun w _ => laidMetH Tryd.prog Rows.fnExactCellLineRow.laid w) (fun _ _ _ hh h => h.of_heap hh) own started (by kernel_rfl) Tryd.func4
    (ChangeSpec.witness_shaped (enc := enc) (C := Tryd.checked) (os := os) (X := fun w _ => laidMetH Tryd.prog Rows.fnExactCellLineRow.laid w) false (World.doorLaid Tryd.prog 2000 os) #[.agg #[.int .i64 0, .int .i64 0, .int .i64 0, .string ⟨#[]⟩, .string ⟨#[]⟩, .int .i64 0], .agg #[.int .i64 0, .int .i64 0, .int .i64 0, .string ⟨#[]⟩, .slice none 0 0, .slice none 0 0, .slice none 0 0], .bool false] 8 rfl (World.shaped_of_RefB (by kernel_rfl) (by kernel_rfl)) (by kernel_rfl) (by kernel_rfl) (by kernel_rfl) (door_met os _)) ?_
  intro W base args ds gs before hval0 hW hcnd _ hL _
  have hglb := glb_of hL
  have hW' := hW
  obtain ⟨p, q, hA0, hV, rfl, hfz, hnd⟩ := hW
  have hA : DataW.TrodAll enc Tryd.prog W 0 (fun _ => true) true Tryd.f4.params.toList args.toList ds p := hA0
  have hval : ∀ (j : Nat) t v, Tryd.f4.params[j]? = some t → args[j]? = some v → Value.okWide Tryd.prog W .any base t v := hval0
  rw [Tryd.params4] at hA hval
  obtain ⟨v0, vs0, d0, ds0, p0, q0, hargs, rfl, rfl, h0, r0⟩ := trodAll_cons hA
  obtain ⟨v1, vs1, d1, ds1, p1, q1, rfl, rfl, rfl, h1, r1⟩ := trodAll_cons r0
  obtain ⟨v2, vs2, d2, ds2, p2, q2, rfl, rfl, rfl, h2, r2⟩ := trodAll_cons r1
  obtain ⟨rfl, rfl, rfl⟩ := trodAll_nil r2
  obtain rfl : args = #[v0, v1, v2] := by cases args; simp_all
  have hV0 := hV
  obtain ⟨_, _, _, _, gd, _, rfl, _⟩ := trodVars_one hV0
  have lt0 : ∀ x ∈ p0, x.block < W.heap.size := by obtain ⟨m, hm⟩ := h0; exact DataW.trod_lt m _ _ _ hm
  have lt1 : ∀ x ∈ p1, x.block < W.heap.size := by obtain ⟨m, hm⟩ := h1; exact DataW.trod_lt m _ _ _ hm
  have lt2 : ∀ x ∈ p2, x.block < W.heap.size := by obtain ⟨m, hm⟩ := h2; exact DataW.trod_lt m _ _ _ hm
  obtain ⟨⟨cl0⟩, rfl, _⟩ := okWide_struct Tryd.underlying30 (hval 0 _ v0 rfl rfl)
  obtain ⟨x0, F0, w0⟩ : ∃ (x : TCell) (F : List Nat), RpL W x.c cl0 F := by
    obtain ⟨fuel, hf⟩ := h0
    obtain ⟨d, F, k1, k2⟩ := open_plain _ types_ok fuel _ _ _ (by simp) hf
    obtain ⟨x, e⟩ := has_30 k2
    exact ⟨x, F, by rw [← e]; exact rep_fl.1 k1⟩
  obtain ⟨⟨cl1⟩, rfl, _⟩ := okWide_struct Tryd.underlying35 (hval 1 _ v1 rfl rfl)
  obtain ⟨x1, F1, w1⟩ : ∃ (x : TValue) (F : List Nat), RpL W x.c cl1 F := by
    obtain ⟨fuel, hf⟩ := h1
    obtain ⟨d, F, k1, k2⟩ := open_plain _ types_ok fuel _ _ _ (by simp) hf
    obtain ⟨x, e⟩ := has_35 k2
    exact ⟨x, F, by rw [← e]; exact rep_fl.1 k1⟩
  obtain ⟨z2, rfl, _, _⟩ := open_bool Tryd.underlying4 (hval 2 _ v2 rfl rfl) h2
  obtain ⟨u2, k2⟩ := dv_bool (w := W) (b := z2)
  clear hA0 hval0
  obtain ⟨k, hk⟩ := FnExactCellLine_law x0 (RpL.dok w0) x1 (RpL.dok w1) z2 k2
  refine (law_true (w_FnExactCellLine_ctr k x0 x1 z2 true hk) hglb (dvs_cons (dv_of_struct w0) (dvs_cons (dv_of_struct w1) (dvs_cons u2 dvs_nil)))).mono fun e W' ⟨he, bel⟩ => ?_
  subst he
  exact ⟨_, rfl, _, _, _, [], _, _, hW', trodAll_mk1 (shut_bool Tryd.underlying4 _), (trodAll_cons_mk (Below.trod laidOut (by kernel_rfl) (of_decide_eq_true (by kernel_rfl)) h0 bel lt0) (trodAll_cons_mk (Below.trod laidOut (by kernel_rfl) (of_decide_eq_true (by kernel_rfl)) h1 bel lt1) (trodAll_cons_mk (Below.trod laidOut (by kernel_rfl) (of_decide_eq_true (by kernel_rfl)) h2 bel lt2) trodAll_mk0))), Below.trodVars laidOut bel (by kernel_rfl) hV, bel.frame _, fun h => by cases h⟩
theorem holds : Rows.FnExactCellLineSaid :=
  OpenClaim.holds_of_wide 4 Tryd.f4 rfl rfl rfl rfl rfl rfl rfl ⟨rfl, rfl, rfl, rfl, rfl⟩ rfl rfl rfl rfl rfl (by kernel_rfl) Tryd.func4 (by kernel_rfl)
    (of_decide_eq_true (by kernel_rfl)) (by unfold Func.isWrapper; first | (rw [if_pos (by decide +kernel)]; kernel_rfl) | (rw [if_neg (by decide +kernel)]; exact ⟨rfl, rfl⟩))
    (fun os started H enc _ => lifted os started H enc)
theorem proved : Rows.FnExactCellLineCardSaid :=
  Claim7.holds_tied_plain_at .later [] [.data, .data, .data, .widerDeep] true (true, "e9a33f4f7e1085824c66627809b6e86e469c30e757cb372a09af7a725fcd87e6") false
    holds (fun _ h => by cases h) (by kernel_rfl) (fun _ h => by cases h) fnExactCellLine_row_tie rfl ⟨rfl, rfl⟩ (by kernel_rfl) rfl
    (fun f fn hf hfn => by
      obtain rfl : f = 4 := Option.some.inj ((show Tryd.prog.funcNamed "loop.example/g00510/laws.FnExactCellLine" = some 4 by kernel_rfl).symm.trans hf) |>.symm
      obtain rfl : fn = Tryd.f4 := (Option.some.inj (Tryd.func4.symm.trans hfn)).symm
      exact ⟨by kernel_rfl, fun j t ht => by
        rw [Tryd.params4] at ht
        have hm : t ∈ [30, 35, 4] := by simpa using Array.mem_of_getElem? ht
        have hall : ([30, 35, 4].all fun u => !Tryd.prog.wantsStandIn u) = true := by kernel_rfl
        exact (show Tryd.prog.wantsStandIn t = false by simpa using List.all_eq_true.1 hall t hm)⟩)
    (by kernel_rfl)
end Go.Proofs.YtmiboaogfjgkjaaDoor.fnExactCellLine
