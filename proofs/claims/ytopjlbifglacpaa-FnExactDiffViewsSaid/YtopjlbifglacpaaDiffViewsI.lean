/- DiffViews: the program's side. UNDER WAY: does not build yet. -/
import Derived.Test.YtopjlbifglacpaaDiffViewsA
namespace Go.Proofs.Ytopjlbifglacpaa
open Go.RowKit

set_option maxHeartbeats 4000000 in
set_option maxRecDepth 100000 in
theorem implDiffViews_any (w : World) (u : Value) (ls : List TLine) (F : List Nat) (h : SlAt w u (ls.map TLine.d) F) (v : Value) (ms : List TLine) (G : List Nat) (k : SlAt w v (ms.map TLine.d) G) (hb : ls.length + bkL (ls.map TLine.d) ≤ 1048576) (kb : ms.length + bkL (ms.map TLine.d) ≤ 1048576) :
    Calls Try.prog 34 #[u, v] w fun e w' => ∃ (cs' : List Value) (F' : List Nat), e = .returned (.agg cs'.toArray) ∧ Rep w' (diffViews ls ms).d cs' F' ∧ Fr w.heap.size w' F' ∧ Below w.heap.size w w' := by
  obtain ⟨A, c, rfl, hc, hcm⟩ := h.form
  obtain ⟨A', c', rfl, hc', hcm'⟩ := k.form
  simp only [List.length_map] at h k hc hc' ⊢
  go_enter Try.func34, Try.ntmps34
  go_wp2_with fail
  go_loopw [13] (fun i wr => ∃ (j : Nat) (A2 : Option Addr) (c2 : Nat), j ≤ ms.length ∧ i = .int .i64 j ∧ wr.cell? ⟨w.heap.size + 1, 0, none⟩ = some (.int .i64 ms.length) ∧ wr.cell? ⟨w.heap.size + 1, 1, none⟩ = some (.slice A2 (chg ls ms j).length c2) ∧
    Bld (w.heap.size + 2) 122 4 wr (.slice A2 (chg ls ms j).length c2) ((chg ls ms j).map TChange.d) [] ∧ Plain wr w.heap.size ∧ Plain wr (w.heap.size + 1) ∧ Below w.heap.size w wr ∧ wr.cell? ⟨w.heap.size, 0, none⟩ = some (.int .i64 0) ∧ wr.cell? ⟨w.heap.size, 1, none⟩ = some (.slice none 0 0)) (fun i _ => ms.length - (intOf i).toNat)
  case atStart => exact ⟨0, none, 0, Nat.zero_le _, rfl, by simp, by simp [chg], by simpa [chg] using Bld.nil _ _ _ _, Plain.next ⟨_, _, heap_alloc_new w _⟩ (bnew (Below.refl _ _) _), ⟨_, _, by have := heap_alloc_new (w.alloc (.cells #[.int .i64 0, .slice none 0 0] 46)) (.cells #[.int .i64 ms.length, .slice none 0 0] 46); simpa using this⟩, bnew (bnew (Below.refl _ _) _) _, by simp, by simp⟩
  case round =>
    obtain ⟨j, A2, c2, hj, rfl, k0, k1, hB, p0, p1, hbe, r0, r1⟩ := hrel
    by_cases hlt : j < ms.length
    · obtain ⟨b', off', ys', Fi', rfl, hbl', _, hr', hlen', _, hcell'⟩ := (k.below hbe).at_ (i := j) (TLine.wds ms) (by simpa using hlt)
      simp only [List.getElem_map] at hr'
      obtain ⟨rfl, -, i0, i2⟩ := TLine.open_ hr'
      have d0 : wr.cell? ⟨b', off' + j * 3, none⟩ = _ := hcell' 0 _ rfl
      have d1 := hcell' 1 _ rfl
      have d2 := hcell' 2 _ rfl
      have I0 := Lib.hid i0
      have I2 := Lib.hid i2
      have HB := Lib.hid hB
      have HP0 := Lib.hid p0
      have HP1 := Lib.hid p1
      have z0 := p0.free
      have z1 := p1.free
      clear hcell' hr' hlen' i0 i2 hB p0 p1
      have hi2 : (j : Int) < (ms.length : Int) := by omega
      by_cases hl1 : j < ls.length
      · obtain ⟨b, off, ys, Fi, rfl, hbl, _, hr, hlen, _, hcell⟩ := (h.below hbe).at_ (i := j) (TLine.wds ls) (by simpa using hl1)
        simp only [List.getElem_map] at hr
        obtain ⟨rfl, -, -, -⟩ := TLine.open_ hr
        have c0 : wr.cell? ⟨b, off + j * 3, none⟩ = _ := hcell 0 _ rfl
        have c1 := hcell 1 _ rfl
        have c2' := hcell 2 _ rfl
        clear hcell hr hlen
        have hi1 : (j : Int) < (ls.length : Int) := by omega
        have hg : decide ((ls.length : Int) ≤ (j : Int)) = false := by simp; omega
        by_cases heq : ls[j] = ms[j]
        · have hq := neqTLine_eq heq
          have HE := Lib.hid (chg_same hlt hl1 heq)
          clear heq
          go_wp2_with fail
          go_quiet (fail)
          go_wp2_with fail
          go_roundw
          case rel =>
            have hbx := below_drewN (bnew (Below.refl wr.heap.size wr) (.cells #[.int .i64 ms[j].cell, .bool ms[j].fresh, .string ms[j].text] 109)) nq
            exact ⟨j + 1, A2, c2, by omega, by go_num, cell_next hbx k0, by rw [HE.out]; exact cell_next hbx k1, by rw [HE.out]; exact HB.out.below hbx, HP0.out.next hbx, HP1.out.next hbx, bnext hbe hbx, cell_next hbx r0, cell_next hbx r1⟩
          case measure => simp [intOf]; omega
        · have HE := Lib.hid (chg_new (a := ls) hlt (by rw [List.getElem?_eq_getElem hl1]; intro e; exact heq (Option.some.inj e)))
          have hq := neqTLine_ne heq
          clear heq
          go_wp2_with fail
          go_quiet (fail)
          have hbx := below_drewN (bnew (Below.refl wr.heap.size wr) (.cells #[.int .i64 ms[j].cell, .bool ms[j].fresh, .string ms[j].text] 109)) nq
          obtain ⟨wx, hwx⟩ : ∃ wx, wx = (wr.alloc (.cells #[.int .i64 ms[j].cell, .bool ms[j].fresh, .string ms[j].text] 109)).drewN nq := ⟨_, rfl⟩
          have hby := below_drewN (Below.refl (wr.alloc (.cells #[.int .i64 ms[j].cell, .bool ms[j].fresh, .string ms[j].text] 109)).heap.size (wr.alloc (.cells #[.int .i64 ms[j].cell, .bool ms[j].fresh, .string ms[j].text] 109))) nq
          rw [← hwx] at hbx hby ⊢
          have V0 := cell_next hby (cell_new wr #[.int .i64 ms[j].cell, .bool ms[j].fresh, .string ms[j].text] 109 0 _ rfl)
          have V1 := cell_next hby (cell_new wr #[.int .i64 ms[j].cell, .bool ms[j].fresh, .string ms[j].text] 109 1 _ rfl)
          have V2 := cell_next hby (cell_new wr #[.int .i64 ms[j].cell, .bool ms[j].fresh, .string ms[j].text] 109 2 _ rfl)
          clear hby
          have K0 := cell_next hbx k0
          have K1 := cell_next hbx k1
          have Z0 := (HP0.out.next hbx).free
          have Z1 := (HP1.out.next hbx).free
          have BX := Lib.hid (HB.out.below hbx)
          have Hbx := Lib.hid hbx
          have IJ := Lib.hid (show I64 (j : Int) from by unfold I64; omega)
          have hcl := chg_len ls ms j
          have hp1 := (HP1.out.next hbx).lt
          have PX := Lib.hid (HP1.out.next hbx)
          have RX0 := cell_next hbx r0
          have RX1 := cell_next hbx r1
          clear r0 r1
          have P0X := Lib.hid (HP0.out.next hbx)
          clear hbx hwx k0 k1 d0 d1 d2 z0 z1
          go_wp2_with (at_builtin; go_loud (refine wpList_append_bld _ rfl _ _ _ rfl (w.heap.size + 2) 122 4 40 (.agg #[.int .i64 0, .int .i64 0, .bool false, .string ⟨#[]⟩]) Try.underlying44 (by kernel_rfl) rfl (by omega) _ _ _ rfl (BX.out.below (by first | exact Below.drew (bnew (Below.refl _ _) _) | exact bnew (Below.drew (Below.refl _ _)) _ | exact bnew (Below.refl _ _) _)) _ 1 1 [TChange.d ⟨j, ms[j]⟩] _ [] rfl (src_one (TChange.mk_ (x := ⟨j, ms[j]⟩) IJ.out I0.out I2.out) (by simp)) rfl (Fr.nil _ _) (by simp) (by rw [List.length_map]; omega) (by omega) (by have := Hbx.out.size; simp; omega) ?_); rintro A3 c3 w3 hB3 hg3; go_loud (have C3 := hg3.cell (cell_next (by first | exact Below.drew (bnew (Below.refl _ _) _) | exact bnew (Below.drew (Below.refl _ _)) _ | exact bnew (Below.refl _ _) _) K1) (fun e => by have h9 : w.heap.size + 2 ≤ w.heap.size + 1 := (BX.out.own _ e.symm).1; omega)); go_loud (have C4 := hg3.cell (cell_next (by first | exact Below.drew (bnew (Below.refl _ _) _) | exact bnew (Below.drew (Below.refl _ _)) _ | exact bnew (Below.refl _ _) _) K0) (fun e => by have h9 : w.heap.size + 2 ≤ w.heap.size + 1 := (BX.out.own _ e.symm).1; omega)); go_loud (have Z3 := (Plain.grown hg3 (PX.out.next (by first | exact Below.drew (bnew (Below.refl _ _) _) | exact bnew (Below.drew (Below.refl _ _)) _ | exact bnew (Below.refl _ _) _)) (fun e => by have h9 : w.heap.size + 2 ≤ w.heap.size + 1 := (BX.out.own _ e.symm).1; omega)).free))
          all_goals
            have el : (chg ls ms (j + 1)).length = (chg ls ms j).length + 1 := by rw [HE.out]; simp
            have EL := Lib.hid el
            have HB3 := Lib.hid hB3
            have G3 : Hid (Below w.heap.size w w3) := Lib.hid (bgrown (by first | exact bnext hbe (bnext Hbx.out (Below.drew (bnew (Below.refl _ _) _))) | exact bnext hbe (bnext Hbx.out (bnew (Below.drew (Below.refl _ _)) _)) | exact bnext hbe (bnext Hbx.out (bnew (Below.refl _ _) _))) hg3 (fun g hg => by have := (BX.out.own g hg).1; omega))
            have P30 := Lib.hid (Plain.grown hg3 (P0X.out.next (by first | exact Below.drew (bnew (Below.refl _ _) _) | exact bnew (Below.drew (Below.refl _ _)) _ | exact bnew (Below.refl _ _) _)) (fun e => by have h9 := (BX.out.own _ e.symm).1; omega))
            have R0 := hg3.cell (cell_next (by first | exact Below.drew (bnew (Below.refl _ _) _) | exact bnew (Below.drew (Below.refl _ _)) _ | exact bnew (Below.refl _ _) _) RX0) (fun e => by have h9 : w.heap.size + 2 ≤ w.heap.size := (BX.out.own _ e.symm).1; omega)
            have R1 := hg3.cell (cell_next (by first | exact Below.drew (bnew (Below.refl _ _) _) | exact bnew (Below.drew (Below.refl _ _)) _ | exact bnew (Below.refl _ _) _) RX1) (fun e => by have h9 : w.heap.size + 2 ≤ w.heap.size := (BX.out.own _ e.symm).1; omega)
            have P31 := Lib.hid (Plain.grown hg3 (PX.out.next (by first | exact Below.drew (bnew (Below.refl _ _) _) | exact bnew (Below.drew (Below.refl _ _)) _ | exact bnew (Below.refl _ _) _)) (fun e => by have h9 := (BX.out.own _ e.symm).1; omega))
            clear el hB3 hg3
            go_wp2_with fail
            go_roundw
            case rel => exact ⟨j + 1, A3, c3, by omega, by go_num, (World.cell?_setCell_other _ _ _ _ (fun e' => by injection e' with _ e'; omega)).trans C4, by rw [EL.out]; exact World.cell?_setCell_same _ _ _ C3, by (rw [EL.out, HE.out, List.map_append]; have h2 := HB3.out; rw [List.length_map] at h2; exact h2.setLow (Nat.lt_succ_self (w.heap.size + 1)) _), P30.out.set _ _, P31.out.set _ _, bset G3.out (Nat.le_succ w.heap.size) _, (World.cell?_setCell_other _ _ _ _ (fun e' => by injection e' with e' _; omega)).trans R0, (World.cell?_setCell_other _ _ _ _ (fun e' => by injection e' with e' _; omega)).trans R1⟩
            case measure => simp [intOf]; omega
      · have hg : decide ((ls.length : Int) ≤ (j : Int)) = true := by simp; omega
        have HE := Lib.hid (chg_new (a := ls) hlt (by rw [List.getElem?_eq_none (by omega)]; simp))
        go_wp2_with fail
        go_quiet (fail)
        have hbx := below_drewN (bnew (Below.refl wr.heap.size wr) (.cells #[.int .i64 ms[j].cell, .bool ms[j].fresh, .string ms[j].text] 109)) nq
        obtain ⟨wx, hwx⟩ : ∃ wx, wx = (wr.alloc (.cells #[.int .i64 ms[j].cell, .bool ms[j].fresh, .string ms[j].text] 109)).drewN nq := ⟨_, rfl⟩
        have hby := below_drewN (Below.refl (wr.alloc (.cells #[.int .i64 ms[j].cell, .bool ms[j].fresh, .string ms[j].text] 109)).heap.size (wr.alloc (.cells #[.int .i64 ms[j].cell, .bool ms[j].fresh, .string ms[j].text] 109))) nq
        rw [← hwx] at hbx hby ⊢
        have V0 := cell_next hby (cell_new wr #[.int .i64 ms[j].cell, .bool ms[j].fresh, .string ms[j].text] 109 0 _ rfl)
        have V1 := cell_next hby (cell_new wr #[.int .i64 ms[j].cell, .bool ms[j].fresh, .string ms[j].text] 109 1 _ rfl)
        have V2 := cell_next hby (cell_new wr #[.int .i64 ms[j].cell, .bool ms[j].fresh, .string ms[j].text] 109 2 _ rfl)
        clear hby
        have K0 := cell_next hbx k0
        have K1 := cell_next hbx k1
        have Z0 := (HP0.out.next hbx).free
        have Z1 := (HP1.out.next hbx).free
        have BX := Lib.hid (HB.out.below hbx)
        have Hbx := Lib.hid hbx
        have IJ := Lib.hid (show I64 (j : Int) from by unfold I64; omega)
        have hcl := chg_len ls ms j
        have hp1 := (HP1.out.next hbx).lt
        have PX := Lib.hid (HP1.out.next hbx)
        have RX0 := cell_next hbx r0
        have RX1 := cell_next hbx r1
        clear r0 r1
        have P0X := Lib.hid (HP0.out.next hbx)
        clear hbx hwx k0 k1 d0 d1 d2 z0 z1
        go_wp2_with (at_builtin; go_loud (refine wpList_append_bld _ rfl _ _ _ rfl (w.heap.size + 2) 122 4 40 (.agg #[.int .i64 0, .int .i64 0, .bool false, .string ⟨#[]⟩]) Try.underlying44 (by kernel_rfl) rfl (by omega) _ _ _ rfl (BX.out.below (by first | exact Below.drew (bnew (Below.refl _ _) _) | exact bnew (Below.drew (Below.refl _ _)) _ | exact bnew (Below.refl _ _) _)) _ 1 1 [TChange.d ⟨j, ms[j]⟩] _ [] rfl (src_one (TChange.mk_ (x := ⟨j, ms[j]⟩) IJ.out I0.out I2.out) (by simp)) rfl (Fr.nil _ _) (by simp) (by rw [List.length_map]; omega) (by omega) (by have := Hbx.out.size; simp; omega) ?_); rintro A3 c3 w3 hB3 hg3; go_loud (have C3 := hg3.cell (cell_next (by first | exact Below.drew (bnew (Below.refl _ _) _) | exact bnew (Below.drew (Below.refl _ _)) _ | exact bnew (Below.refl _ _) _) K1) (fun e => by have h9 : w.heap.size + 2 ≤ w.heap.size + 1 := (BX.out.own _ e.symm).1; omega)); go_loud (have C4 := hg3.cell (cell_next (by first | exact Below.drew (bnew (Below.refl _ _) _) | exact bnew (Below.drew (Below.refl _ _)) _ | exact bnew (Below.refl _ _) _) K0) (fun e => by have h9 : w.heap.size + 2 ≤ w.heap.size + 1 := (BX.out.own _ e.symm).1; omega)); go_loud (have Z3 := (Plain.grown hg3 (PX.out.next (by first | exact Below.drew (bnew (Below.refl _ _) _) | exact bnew (Below.drew (Below.refl _ _)) _ | exact bnew (Below.refl _ _) _)) (fun e => by have h9 : w.heap.size + 2 ≤ w.heap.size + 1 := (BX.out.own _ e.symm).1; omega)).free))
        all_goals
          have el : (chg ls ms (j + 1)).length = (chg ls ms j).length + 1 := by rw [HE.out]; simp
          have EL := Lib.hid el
          have HB3 := Lib.hid hB3
          have G3 : Hid (Below w.heap.size w w3) := Lib.hid (bgrown (by first | exact bnext hbe (bnext Hbx.out (Below.drew (bnew (Below.refl _ _) _))) | exact bnext hbe (bnext Hbx.out (bnew (Below.drew (Below.refl _ _)) _)) | exact bnext hbe (bnext Hbx.out (bnew (Below.refl _ _) _))) hg3 (fun g hg => by have := (BX.out.own g hg).1; omega))
          have P30 := Lib.hid (Plain.grown hg3 (P0X.out.next (by first | exact Below.drew (bnew (Below.refl _ _) _) | exact bnew (Below.drew (Below.refl _ _)) _ | exact bnew (Below.refl _ _) _)) (fun e => by have h9 := (BX.out.own _ e.symm).1; omega))
          have R0 := hg3.cell (cell_next (by first | exact Below.drew (bnew (Below.refl _ _) _) | exact bnew (Below.drew (Below.refl _ _)) _ | exact bnew (Below.refl _ _) _) RX0) (fun e => by have h9 : w.heap.size + 2 ≤ w.heap.size := (BX.out.own _ e.symm).1; omega)
          have R1 := hg3.cell (cell_next (by first | exact Below.drew (bnew (Below.refl _ _) _) | exact bnew (Below.drew (Below.refl _ _)) _ | exact bnew (Below.refl _ _) _) RX1) (fun e => by have h9 : w.heap.size + 2 ≤ w.heap.size := (BX.out.own _ e.symm).1; omega)
          have P31 := Lib.hid (Plain.grown hg3 (PX.out.next (by first | exact Below.drew (bnew (Below.refl _ _) _) | exact bnew (Below.drew (Below.refl _ _)) _ | exact bnew (Below.refl _ _) _)) (fun e => by have h9 := (BX.out.own _ e.symm).1; omega))
          clear el hB3 hg3
          go_wp2_with fail
          go_roundw
          case rel => exact ⟨j + 1, A3, c3, by omega, by go_num, (World.cell?_setCell_other _ _ _ _ (fun e' => by injection e' with _ e'; omega)).trans C4, by rw [EL.out]; exact World.cell?_setCell_same _ _ _ C3, by (rw [EL.out, HE.out, List.map_append]; have h2 := HB3.out; rw [List.length_map] at h2; exact h2.setLow (Nat.lt_succ_self (w.heap.size + 1)) _), P30.out.set _ _, P31.out.set _ _, bset G3.out (Nat.le_succ w.heap.size) _, (World.cell?_setCell_other _ _ _ _ (fun e' => by injection e' with e' _; omega)).trans R0, (World.cell?_setCell_other _ _ _ _ (fun e' => by injection e' with e' _; omega)).trans R1⟩
          case measure => simp [intOf]; omega
    · have hj' : j = ms.length := by omega
      subst hj'
      obtain ⟨F', s1, f1, -⟩ := hB.done
      have el : ((chg ls ms ms.length).map TChange.d).length = (chg ls ms ms.length).length := List.length_map _
      have S1 := Lib.hid s1
      have z0 := p0.free
      have z1 := p1.free
      clear hB s1
      have hmsI : I64 (ms.length : Int) := by unfold I64; omega
      have HI := Lib.hid hmsI
      clear hmsI
      have q1 : ((wr.setCell ⟨w.heap.size, 0, none⟩ (.int .i64 ms.length)).setCell ⟨w.heap.size, 1, none⟩ (.slice A2 (chg ls ms ms.length).length c2)).cell? ⟨w.heap.size, 1, none⟩ = some (.slice A2 (chg ls ms ms.length).length c2) :=
        World.cell?_setCell_same _ _ _ ((World.cell?_setCell_other _ _ _ _ (fun e' => by injection e' with _ e'; omega)).trans r1)
      have q0 : ((wr.setCell ⟨w.heap.size, 0, none⟩ (.int .i64 ms.length)).setCell ⟨w.heap.size, 1, none⟩ (.slice A2 (chg ls ms ms.length).length c2)).cell? ⟨w.heap.size, 0, none⟩ = some (.int .i64 ms.length) :=
        (World.cell?_setCell_other _ _ _ _ (fun e' => by injection e' with _ e'; omega)).trans (World.cell?_setCell_same _ _ _ r0)
      have HF := Lib.hid f1
      have HBE := Lib.hid hbe
      clear f1 hbe
      go_wp2_with fail
      have hlo : ∀ q ∈ F', w.heap.size + 2 ≤ q := fun q hq => (HF.out.2 q hq).1
      have hsame : Same wr ((wr.setCell ⟨w.heap.size, 0, none⟩ (.int .i64 ms.length)).setCell ⟨w.heap.size, 1, none⟩ (.slice A2 (chg ls ms ms.length).length c2)) F' :=
        ⟨by rw [size_set, size_set]; exact Nat.le_refl _, fun b hb => by
          have := hlo b hb
          rw [Below.heap_setCell _ _ _ _ (show b ≠ _ from by show b ≠ w.heap.size; omega), Below.heap_setCell _ _ _ _ (show b ≠ _ from by show b ≠ w.heap.size; omega)]⟩
      refine bodyPost_ret (v := .agg #[.int .i64 ms.length, .slice A2 (chg ls ms ms.length).length c2]) (by simp [results, Try.results34, go_sem, q0, q1]) rfl ⟨[.int .i64 ms.length, .slice A2 (chg ls ms ms.length).length c2], F', rfl, ?_, (HF.out.keep hsame).mono (by omega), bset (bset HBE.out (Nat.le_refl w.heap.size) _) (Nat.le_refl w.heap.size) _⟩
      exact TDiff.mk_ (x := diffViews ls ms) HI.out (Rep.keep S1.out hsame)
end Go.Proofs.Ytopjlbifglacpaa
