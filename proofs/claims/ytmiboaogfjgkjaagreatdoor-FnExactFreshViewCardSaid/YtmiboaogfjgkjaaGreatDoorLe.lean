/- The contract of ErrorName, which reads the package's list of names. -/
import Derived.Test.YtmiboaogfjgkjaaGreatDoorLc
import Derived.Deep.Strs
set_option linter.unusedSimpArgs false
set_option linter.unusedVariables false
namespace Go.Proofs.YtmiboaogfjgkjaaGreatDoor
open Go.RowKit Am
theorem glb_err {w : World} {G : Nat → Prop} (h : Glb w G) : ∃ b off c, w.cell? ⟨0, 0, none⟩ = some (.slice (some ⟨b, off, none⟩) 8 c) ∧ ∀ (j : Nat) s, errNames[j]? = some s → w.cell? ⟨b, off + j, none⟩ = some (.string s) := by
  obtain ⟨cur, ty, fz, F, h1, _, h3, _⟩ := h.2 (0, [.sl (errNames.map fun s => [L.str s])]) (List.mem_of_mem_getLast? rfl)
  simp only [RpL, Rp] at h3
  obtain ⟨v, vs', F1, F2, hc, rfl, ⟨A, c, rfl, h4, h5, h6⟩, rfl, rfl⟩ := h3
  rcases h6 with ⟨h6, _⟩ | ⟨b, off, xs, Fs, rfl, k2, rfl, k4, k5⟩
  · exact absurd h6 (by simp [errNames])
  · refine ⟨b, off, c, ?_, fun j s hs => k4 j (.string s) ?_⟩
    · have e0 : w.cell? ⟨0, 0, none⟩ = cur[0]? := by simp [World.cell?, h1]
      rw [e0, ← Array.getElem?_toList, hc]; rfl
    · rw [rpE_strs k5]; simp [hs]
def errL : List L := [.sl (errNames.map fun s => [L.str s])]
theorem rpE_strs_mk {w : World} : ∀ {ss : List ByteArray}, (∀ s ∈ ss, Fit s) → RpE w (ss.map fun s => [L.str s]) (ss.map Value.string) []
  | [], _ => by simp [RpE]
  | s :: ss, h => by
    simp only [List.map_cons, RpE, RpL, Rp]
    exact ⟨[_], _, [], [], rfl, rfl, ⟨_, [], [], [], rfl, rfl, ⟨rfl, rfl, h s (by simp)⟩, rfl, rfl⟩, rpE_strs_mk fun y hy => h y (by simp [hy])⟩
theorem err_stands {H : Type} {enc : TypeId × Value → H} {W : World} {base : Nat} {sp : Nat → Bool} {held : Bool} {fuel : Nat} {t e : Nat} {cs : Array Value} {q : List MemPlace} (ht : Tryz.prog.underlying t = some (.slice e)) (he : Tryz.prog.underlying e = some .string) (hce : Tryz.prog.cellsOf e = 1)
    (hg : Tryz.prog.globalNamed "loop.example/g00510/impl.errorNames" = some 0) (hv : W.var? Tryz.prog "loop.example/g00510/impl.errorNames" = some cs) (hd : DataW.trod enc Tryz.prog W base sp held fuel t cs.toList = some (Rows.laid_loop_example_g00510_impl_errorNames, q)) : Stands W (0, errL) := by
  obtain ⟨ty, fz, hh⟩ := var_heap hg hv
  have ed : (Rows.laid_loop_example_g00510_impl_errorNames : DataW H) = .slice (errNames.map fun s => .lit (.string s.data.toList)) [] := rfl
  rw [ed] at hd
  rcases Go.Deep.open_strs ht he hce hd with ⟨_, hx⟩ | ⟨⟨b, off, spot⟩, len, cap, m, Sx, hc, _, hlc, hcm, _, hx, hs⟩
  · cases hx
  · injection hx with hx _
    injection hx with hx _
    have hl : len = 8 := by have := congrArg List.length hx; simpa [errNames] using this.symm
    subst hl
    have hm : 8 ≤ m := by split at * <;> omega
    have h0 := (hs 0 (by omega)).1
    have hspot : spot = none := by simpa [Addr.add] using World.cell?_spot h0
    subst hspot
    have hb : b < W.heap.size := World.block_lt_of_cell? W _ h0
    have hS : ∀ j s, errNames[j]? = some s → Sx j = s := fun j s hj => by
      have hj8 : j < 8 := (List.getElem?_eq_some_iff.1 hj).1
      have h1 : (errNames.map fun s => (DataW.lit (.string s.data.toList) : DataW H))[j]? = ((List.range 8).map fun i => (DataW.lit (.string (Sx i).data.toList) : DataW H))[j]? := by rw [hx]
      rw [List.getElem?_map, hj, List.getElem?_map, List.getElem?_range hj8] at h1
      simp only [Option.map_some, Option.some.injEq, DataW.lit.injEq, Lit.string.injEq] at h1
      apply ByteArray.ext
      rw [← Array.toList_inj]; exact h1.symm
    refine ⟨_, _, _, [b], hh, ?_⟩
    rw [hc]
    simp only [errL, RpL, Rp]
    refine ⟨_, [], [b], [], rfl, rfl, ⟨some ⟨b, off, none⟩, cap, rfl, hlc, by simp only [maxLen] at hcm; omega, .inr ⟨b, off, errNames.map Value.string, [], rfl, hb, rfl, fun j u hu => ?_, rpE_strs_mk (by unfold Fit; decide)⟩⟩, rfl, rfl⟩
    rw [List.getElem?_map] at hu
    obtain ⟨s, hj, rfl⟩ := Option.map_eq_some_iff.1 hu
    have h2 := (hs j (by have := (List.getElem?_eq_some_iff.1 hj).1; have : errNames.length = 8 := rfl; omega)).1
    rw [hS j s hj] at h2
    rw [← Addr.add_lit]; exact h2
set_option maxRecDepth 100000 in
theorem within_calls (w : World) (a l h : Int) :
    Calls Tryz.prog 64 #[.int .i64 a, .int .i64 l, .int .i64 h] w fun e w' => e = .returned (.bool (decide (l ≤ a ∧ a ≤ h))) ∧ Below w.heap.size w w' := by
  go_enter Tryz.func64, Tryz.ntmps64
  go_wp2_with fail
  all_goals go_ret
  all_goals exact ⟨by simp; omega, Below.refl _ _⟩
set_option maxRecDepth 100000 in
theorem errorName_calls (w : World) (a0 : Int) (h0 : -9223372036854775808 ≤ a0 ∧ a0 ≤ 9223372036854775807) {G : Nat → Prop} (hG : Glb w G) (r : ByteArray) (hM : i_ErrorName a0 = some r) :
    Calls Tryz.prog 69 #[.int .i64 a0] w fun e w' => e = .returned (.string r) ∧ Below w.heap.size w w' := by
  go_enter Tryz.func69, Tryz.ntmps69
  go_wp2_with fail
  go_at_call 64
  refine (within_calls w a0 1 8).mono ?_
  rintro e w1 ⟨rfl, hb⟩
  obtain ⟨b, off, c, hv, hcell⟩ := glb_err hG
  have hv1 : w1.cell? ⟨0, 0, none⟩ = some (.slice (some ⟨b, off, none⟩) 8 c) := (World.cell?_of_block (hb.block _ (World.block_lt_of_cell? _ _ hv))).trans hv
  by_cases h18 : 1 ≤ a0 ∧ a0 ≤ 8
  · have hs : errNames[(a0 - 1).toNat]? = some r := by simpa [i_ErrorName, h18] using hM
    have hc0 := hcell _ _ hs
    have hc1 : w1.cell? ⟨b, off + (a0.toNat - 1), none⟩ = some (.string r) := by
      rw [← show (a0 - 1).toNat = a0.toNat - 1 by omega]
      exact (World.cell?_of_block (hb.block _ (World.block_lt_of_cell? _ _ hc0))).trans hc0
    clear hc0 hcell
    go_wp2_with fail
    all_goals (try omega)
    all_goals go_ret
    all_goals exact ⟨rfl, hb⟩
  · have hs : r = ⟨#[63]⟩ := by simpa [i_ErrorName, h18] using hM.symm
    subst hs
    go_wp2_with fail
    all_goals (try omega)
    all_goals (try (exfalso; simp only [Bool.not_eq_false', decide_eq_true_eq] at *; omega))
    all_goals go_ret
    all_goals exact ⟨rfl, hb⟩
theorem i_ErrorName_ctr (a0 : Int) (r : ByteArray) (hM : i_ErrorName a0 = some r) : Ctr Tryz.prog 69 [.one (.int .i64 a0)] true [.one (.str r)] := by
  refine ⟨by kernel_rfl, fun w vs FA ⟨G, hG⟩ hd => ?_⟩
  obtain ⟨v, F1, rfl, rfl, h1⟩ := dvs_1 hd
  simp only [dvRel, Rp] at h1
  obtain ⟨rfl, rfl, h2⟩ := h1
  refine (errorName_calls w a0 ((inK_i64 a0).1 h2) hG r hM).mono ?_
  rintro e w' ⟨rfl, hb⟩
  refine ⟨[_], rfl, res_str ?_, hb⟩
  have : ∀ s ∈ errNames, s.size ≤ 100 := by decide
  unfold i_ErrorName at hM
  split at hM
  · have := this _ (List.mem_of_getElem? hM); omega
  · obtain rfl := Option.some.inj hM; decide
end Go.Proofs.YtmiboaogfjgkjaaGreatDoor
