/- Contracts of the program's functions: where the mirrored function answers, the program's function returns this answer. Written by a program of mine. -/
import Derived.Test.YtmiboaogfjgkjaaGreatWn
import Derived.Test.YtmiboaogfjgkjaaGreatMdA4
import Derived.Test.YtmiboaogfjgkjaaGreatCtA3
set_option linter.unusedSimpArgs false
set_option linter.unusedVariables false
namespace Go.Proofs.YtmiboaogfjgkjaaGreat
open Go.RowKit Am

set_option maxHeartbeats 4000000 in
set_option maxRecDepth 100000 in
theorem w_eqReadS_ctr (k : Nat) (a0 : List TRead) (a1 : List TRead) (r : Bool) (hM : w_eqReadS k a0 a1 = some r) : Ctr Tryz.prog 96 [.one (.sl (a0.map TRead.c)), .one (.sl (a1.map TRead.c))] true [.one (.bool r)] := by
  unfold w_eqReadS at hM
  refine Ctr.of_walk (by kernel_rfl) Tryz.func96 rfl Tryz.ntmps96 Tryz.results96 (by simp) ?_; intro N w0 hbad
  refine AW_seq fun K1 hK1 => ?_
  refine AW_region ?_
  simp (maxSteps := 10000000) [go_sem]
  refine hK1 _ ?_
  refine AW_seq fun K2 hK2 => ?_
  refine AW_seq fun K3 hK3 => ?_
  refine AW_region ?_
  simp (maxSteps := 10000000) [go_sem]
  refine hK3 _ ?_
  refine AW_cond (b := (!decide ((a0.length : Int) = (a1.length : Int)))) (by simp (maxSteps := 10000000) [go_sem]) (fun h4 => ?_) (fun h4 => ?_)
  · rw [if_pos h4] at hM
    have h4' := h4; try simp at h4'
    refine AW_seq fun K5 hK5 => ?_
    refine AW_region ?_
    simp (maxSteps := 10000000) [go_sem, h4, h4']
    refine hK5 _ ?_
    obtain rfl := Option.some.inj hM
    refine AW_ret ?_
    simp (maxSteps := 10000000) [go_sem, h4, h4']
  · rw [if_neg (ne_true h4)] at hM
    have h4' := h4; try simp at h4'
    refine AW_skip ?_
    refine hK2 _ ?_
    obtain ⟨e6, hU8, hR7⟩ := bind_some hM; clear hM
    refine AW_mid (ι := Unit) (fun i => ⟨27, [], [], []⟩) (fun i => (.inl i) = e6) ?_ ?_
    · intro K9 hK9
      have hM := hU8; clear hU8
      refine AW_seq fun K10 hK10 => ?_
      refine AW_region ?_
      simp (maxSteps := 10000000) [go_sem, h4, h4']
      refine hK10 _ ?_
      refine AW_block ?_
      refine AW_go (ι := Int) (fun i => ⟨27, [(0, .one (.l (.sl (a0.map TRead.c)))), (1, .one (.l (.sl (a1.map TRead.c)))), (5, .one (.l (.int .i64 i)))], [], []⟩) (fun n i => w_eqReadS_u1 k a0 a1 n i = some e6) k 0 hM (Lift.into (by constructor <;> simp [go_sem, h4, h4'])) (fun _ h => by simp [w_eqReadS_u1] at h) ?_
      intro KL11 n x1 hL11 hM
      have hM : w_eqReadS_u1 k a0 a1 (n + 1) x1 = some e6 := hM; rw [w_eqReadS_u1] at hM
      refine AW_seq fun K12 hK12 => ?_
      refine AW_seq fun K13 hK13 => ?_
      refine AW_region ?_
      simp (maxSteps := 10000000) [go_sem]
      refine hK13 _ ?_
      refine AW_cond (b := (decide (x1 < (a0.length : Int)))) (by simp (maxSteps := 10000000) [go_sem]) (fun h14 => ?_) (fun h14 => ?_)
      · rw [if_pos h14] at hM
        have h14' := h14; try simp at h14'
        have h14'' : ¬ ((a0.length : Int) ≤ x1) := by first | (have := h14; simp only [decide_eq_true_eq, decide_eq_false_iff_not, Bool.not_eq_true', Bool.not_eq_false', Bool.not_eq_true, Bool.not_eq_false] at this; omega) | (have := h14; simp at this; omega)
        refine AW_skip ?_
        refine hK12 _ ?_
        refine AW_seq fun K15 hK15 => ?_
        refine AW_block ?_
        refine AW_seq fun K16 hK16 => ?_
        obtain ⟨x2, e17, hM⟩ := bind_some hM
        obtain ⟨p18, q19, l20, g21⟩ := at_spec e17
        obtain ⟨x3, e22, hM⟩ := bind_some hM
        obtain ⟨p23, q24, l25, g26⟩ := at_spec e22
        obtain ⟨x4, e27, hM⟩ := bind_some hM
        refine AW_quick [[], [], [0, 1], [0, 1, 2], [], [], [4, 5], [4, 5, 6], [0, 1, 2, 3, 4, 5, 6, 7], [0, 1, 2, 3, 4, 5, 6, 7, 8]] 8 mixed (by kernel_rfl) (by kernel_rfl) ?_
        simp (maxSteps := 10000000) [go_sem, h14, h14', h14'', p18, q19, g21, p23, q24, g26]
        refine by_ctr false (w_eqRead_ctr k x2 x3 x4 e27) (by simp (maxSteps := 10000000) [go_sem, h14, h14', h14'', p18, q19, g21, p23, q24, g26]) (by simp) ?_
        simp (maxSteps := 10000000) [go_sem, h14, h14', h14'', p18, q19, g21, p23, q24, g26]
        refine hK16 _ ?_
        refine AW_cond (b := (!x4)) (by simp (maxSteps := 10000000) [go_sem, h14, h14', h14'', p18, q19, g21, p23, q24, g26]) (fun h28 => ?_) (fun h28 => ?_)
        · rw [if_pos h28] at hM
          have h28' := h28; try simp at h28'
          refine AW_seq fun K29 hK29 => ?_
          refine AW_region ?_
          simp (maxSteps := 10000000) [go_sem, h14, h14', h14'', p18, q19, g21, p23, q24, g26, h28, h28']
          refine hK29 _ ?_
          obtain rfl := Option.some.inj hM
          have hM := hR7; dsimp only at hM
          obtain rfl := Option.some.inj hM
          refine AW_ret ?_
          simp (maxSteps := 10000000) [go_sem, h14, h14', h14'', p18, q19, g21, p23, q24, g26, h28, h28']
        · rw [if_neg (ne_true h28)] at hM
          have h28' := h28; try simp at h28'
          refine AW_skip ?_
          refine hK15 _ ?_
          refine AW_region ?_
          simp (maxSteps := 10000000) [go_sem, h14, h14', h14'', p18, q19, g21, p23, q24, g26, h28, h28']
          exact hL11 (IntKind.i64.wrap (x1 + 1)) _ hM (Lift.into (by constructor <;> simp [go_sem, h14, h14', h14'', p18, q19, g21, p23, q24, g26, h28, h28']))
      · rw [if_neg (ne_true h14)] at hM
        have h14' := h14; try simp at h14'
        have h14'' : ¬ (x1 < (a0.length : Int)) := by first | (have := h14; simp only [decide_eq_true_eq, decide_eq_false_iff_not, Bool.not_eq_true', Bool.not_eq_false', Bool.not_eq_true, Bool.not_eq_false] at this; omega) | (have := h14; simp at this; omega)
        refine AW_exit ?_
        obtain rfl := Option.some.inj hM
        exact hK9 () _ rfl (Lift.into (by constructor <;> simp [go_sem, h14, h14', h14'']))
    · rintro _ rfl
      have hM := hR7
      dsimp only at hM
      refine AW_seq fun K30 hK30 => ?_
      refine AW_region ?_
      simp (maxSteps := 10000000) [go_sem, h4, h4']
      refine hK30 _ ?_
      obtain rfl := Option.some.inj hM
      refine AW_ret ?_
      simp (maxSteps := 10000000) [go_sem, h4, h4']
set_option maxHeartbeats 4000000 in
set_option maxRecDepth 100000 in
theorem w_eqTape_ctr (k : Nat) (a0 : TTape) (a1 : TTape) (r : Bool) (hM : w_eqTape k a0 a1 = some r) : Ctr Tryz.prog 61 [.agg (TTape.c a0), .agg (TTape.c a1)] true [.one (.bool r)] := by
  unfold w_eqTape at hM
  refine Ctr.of_walk (by kernel_rfl) Tryz.func61 rfl Tryz.ntmps61 Tryz.results61 (by simp) ?_; intro N w0 hbad
  refine AW_seq fun K1 hK1 => ?_
  refine AW_region ?_
  simp (maxSteps := 10000000) [go_sem]
  refine hK1 _ ?_
  refine AW_seq fun K2 hK2 => ?_
  refine AW_seq fun K3 hK3 => ?_
  refine AW_region ?_
  simp (maxSteps := 10000000) [go_sem]
  refine hK3 _ ?_
  refine AW_cond (b := (!decide (a0.cell = a1.cell))) (by simp (maxSteps := 10000000) [go_sem]) (fun h4 => ?_) (fun h4 => ?_)
  · rw [if_pos h4] at hM
    have h4' := h4; try simp at h4'
    refine AW_seq fun K5 hK5 => ?_
    refine AW_region ?_
    simp (maxSteps := 10000000) [go_sem, h4, h4']
    refine hK5 _ ?_
    obtain rfl := Option.some.inj hM
    refine AW_ret ?_
    simp (maxSteps := 10000000) [go_sem, h4, h4']
  · rw [if_neg (ne_true h4)] at hM
    have h4' := h4; try simp at h4'
    refine AW_skip ?_
    refine hK2 _ ?_
    refine AW_seq fun K6 hK6 => ?_
    refine AW_seq fun K7 hK7 => ?_
    refine AW_region ?_
    simp (maxSteps := 10000000) [go_sem, h4, h4']
    refine hK7 _ ?_
    refine AW_cond (b := (!decide (a0.version = a1.version))) (by simp (maxSteps := 10000000) [go_sem, h4, h4']) (fun h8 => ?_) (fun h8 => ?_)
    · rw [if_pos h8] at hM
      have h8' := h8; try simp at h8'
      refine AW_seq fun K9 hK9 => ?_
      refine AW_region ?_
      simp (maxSteps := 10000000) [go_sem, h4, h4', h8, h8']
      refine hK9 _ ?_
      obtain rfl := Option.some.inj hM
      refine AW_ret ?_
      simp (maxSteps := 10000000) [go_sem, h4, h4', h8, h8']
    · rw [if_neg (ne_true h8)] at hM
      have h8' := h8; try simp at h8'
      refine AW_skip ?_
      refine hK6 _ ?_
      refine AW_seq fun K10 hK10 => ?_
      refine AW_seq fun K11 hK11 => ?_
      obtain ⟨x1, e12, hM⟩ := bind_some hM
      refine AW_region ?_
      simp (maxSteps := 10000000) [go_sem, h4, h4', h8, h8']
      refine by_ctr false (w_eqReadS_ctr k a0.reads a1.reads x1 e12) (by simp (maxSteps := 10000000) [go_sem, h4, h4', h8, h8']) (by simp) ?_
      simp (maxSteps := 10000000) [go_sem, h4, h4', h8, h8']
      refine hK11 _ ?_
      refine AW_cond (b := (!x1)) (by simp (maxSteps := 10000000) [go_sem, h4, h4', h8, h8']) (fun h13 => ?_) (fun h13 => ?_)
      · rw [if_pos h13] at hM
        have h13' := h13; try simp at h13'
        refine AW_seq fun K14 hK14 => ?_
        refine AW_region ?_
        simp (maxSteps := 10000000) [go_sem, h4, h4', h8, h8', h13, h13']
        refine hK14 _ ?_
        obtain rfl := Option.some.inj hM
        refine AW_ret ?_
        simp (maxSteps := 10000000) [go_sem, h4, h4', h8, h8', h13, h13']
      · rw [if_neg (ne_true h13)] at hM
        have h13' := h13; try simp at h13'
        refine AW_skip ?_
        refine hK10 _ ?_
        refine AW_seq fun K15 hK15 => ?_
        refine AW_region ?_
        simp (maxSteps := 10000000) [go_sem, h4, h4', h8, h8', h13, h13']
        refine hK15 _ ?_
        obtain rfl := Option.some.inj hM
        refine AW_ret ?_
        simp (maxSteps := 10000000) [go_sem, h4, h4', h8, h8', h13, h13']
set_option maxHeartbeats 4000000 in
set_option maxRecDepth 100000 in
theorem w_eqTapeS_ctr (k : Nat) (a0 : List TTape) (a1 : List TTape) (r : Bool) (hM : w_eqTapeS k a0 a1 = some r) : Ctr Tryz.prog 30 [.one (.sl (a0.map TTape.c)), .one (.sl (a1.map TTape.c))] true [.one (.bool r)] := by
  unfold w_eqTapeS at hM
  refine Ctr.of_walk (by kernel_rfl) Tryz.func30 rfl Tryz.ntmps30 Tryz.results30 (by simp) ?_; intro N w0 hbad
  refine AW_seq fun K1 hK1 => ?_
  refine AW_region ?_
  simp (maxSteps := 10000000) [go_sem]
  refine hK1 _ ?_
  refine AW_seq fun K2 hK2 => ?_
  refine AW_seq fun K3 hK3 => ?_
  refine AW_region ?_
  simp (maxSteps := 10000000) [go_sem]
  refine hK3 _ ?_
  refine AW_cond (b := (!decide ((a0.length : Int) = (a1.length : Int)))) (by simp (maxSteps := 10000000) [go_sem]) (fun h4 => ?_) (fun h4 => ?_)
  · rw [if_pos h4] at hM
    have h4' := h4; try simp at h4'
    refine AW_seq fun K5 hK5 => ?_
    refine AW_region ?_
    simp (maxSteps := 10000000) [go_sem, h4, h4']
    refine hK5 _ ?_
    obtain rfl := Option.some.inj hM
    refine AW_ret ?_
    simp (maxSteps := 10000000) [go_sem, h4, h4']
  · rw [if_neg (ne_true h4)] at hM
    have h4' := h4; try simp at h4'
    refine AW_skip ?_
    refine hK2 _ ?_
    obtain ⟨e6, hU8, hR7⟩ := bind_some hM; clear hM
    refine AW_mid (ι := Unit) (fun i => ⟨27, [], [], []⟩) (fun i => (.inl i) = e6) ?_ ?_
    · intro K9 hK9
      have hM := hU8; clear hU8
      refine AW_seq fun K10 hK10 => ?_
      refine AW_region ?_
      simp (maxSteps := 10000000) [go_sem, h4, h4']
      refine hK10 _ ?_
      refine AW_block ?_
      refine AW_go (ι := Int) (fun i => ⟨27, [(0, .one (.l (.sl (a0.map TTape.c)))), (1, .one (.l (.sl (a1.map TTape.c)))), (5, .one (.l (.int .i64 i)))], [], []⟩) (fun n i => w_eqTapeS_u1 k a0 a1 n i = some e6) k 0 hM (Lift.into (by constructor <;> simp [go_sem, h4, h4'])) (fun _ h => by simp [w_eqTapeS_u1] at h) ?_
      intro KL11 n x1 hL11 hM
      have hM : w_eqTapeS_u1 k a0 a1 (n + 1) x1 = some e6 := hM; rw [w_eqTapeS_u1] at hM
      refine AW_seq fun K12 hK12 => ?_
      refine AW_seq fun K13 hK13 => ?_
      refine AW_region ?_
      simp (maxSteps := 10000000) [go_sem]
      refine hK13 _ ?_
      refine AW_cond (b := (decide (x1 < (a0.length : Int)))) (by simp (maxSteps := 10000000) [go_sem]) (fun h14 => ?_) (fun h14 => ?_)
      · rw [if_pos h14] at hM
        have h14' := h14; try simp at h14'
        have h14'' : ¬ ((a0.length : Int) ≤ x1) := by first | (have := h14; simp only [decide_eq_true_eq, decide_eq_false_iff_not, Bool.not_eq_true', Bool.not_eq_false', Bool.not_eq_true, Bool.not_eq_false] at this; omega) | (have := h14; simp at this; omega)
        refine AW_skip ?_
        refine hK12 _ ?_
        refine AW_seq fun K15 hK15 => ?_
        refine AW_block ?_
        refine AW_seq fun K16 hK16 => ?_
        obtain ⟨x2, e17, hM⟩ := bind_some hM
        obtain ⟨p18, q19, l20, g21⟩ := at_spec e17
        obtain ⟨x3, e22, hM⟩ := bind_some hM
        obtain ⟨p23, q24, l25, g26⟩ := at_spec e22
        obtain ⟨x4, e27, hM⟩ := bind_some hM
        refine AW_quick [[], [], [0, 1], [0, 1, 2], [], [], [4, 5], [4, 5, 6], [0, 1, 2, 3, 4, 5, 6, 7], [0, 1, 2, 3, 4, 5, 6, 7, 8]] 8 mixed (by kernel_rfl) (by kernel_rfl) ?_
        simp (maxSteps := 10000000) [go_sem, h14, h14', h14'', p18, q19, g21, p23, q24, g26]
        refine by_ctr false (w_eqTape_ctr k x2 x3 x4 e27) (by simp (maxSteps := 10000000) [go_sem, h14, h14', h14'', p18, q19, g21, p23, q24, g26]) (by simp) ?_
        simp (maxSteps := 10000000) [go_sem, h14, h14', h14'', p18, q19, g21, p23, q24, g26]
        refine hK16 _ ?_
        refine AW_cond (b := (!x4)) (by simp (maxSteps := 10000000) [go_sem, h14, h14', h14'', p18, q19, g21, p23, q24, g26]) (fun h28 => ?_) (fun h28 => ?_)
        · rw [if_pos h28] at hM
          have h28' := h28; try simp at h28'
          refine AW_seq fun K29 hK29 => ?_
          refine AW_region ?_
          simp (maxSteps := 10000000) [go_sem, h14, h14', h14'', p18, q19, g21, p23, q24, g26, h28, h28']
          refine hK29 _ ?_
          obtain rfl := Option.some.inj hM
          have hM := hR7; dsimp only at hM
          obtain rfl := Option.some.inj hM
          refine AW_ret ?_
          simp (maxSteps := 10000000) [go_sem, h14, h14', h14'', p18, q19, g21, p23, q24, g26, h28, h28']
        · rw [if_neg (ne_true h28)] at hM
          have h28' := h28; try simp at h28'
          refine AW_skip ?_
          refine hK15 _ ?_
          refine AW_region ?_
          simp (maxSteps := 10000000) [go_sem, h14, h14', h14'', p18, q19, g21, p23, q24, g26, h28, h28']
          exact hL11 (IntKind.i64.wrap (x1 + 1)) _ hM (Lift.into (by constructor <;> simp [go_sem, h14, h14', h14'', p18, q19, g21, p23, q24, g26, h28, h28']))
      · rw [if_neg (ne_true h14)] at hM
        have h14' := h14; try simp at h14'
        have h14'' : ¬ (x1 < (a0.length : Int)) := by first | (have := h14; simp only [decide_eq_true_eq, decide_eq_false_iff_not, Bool.not_eq_true', Bool.not_eq_false', Bool.not_eq_true, Bool.not_eq_false] at this; omega) | (have := h14; simp at this; omega)
        refine AW_exit ?_
        obtain rfl := Option.some.inj hM
        exact hK9 () _ rfl (Lift.into (by constructor <;> simp [go_sem, h14, h14', h14'']))
    · rintro _ rfl
      have hM := hR7
      dsimp only at hM
      refine AW_seq fun K30 hK30 => ?_
      refine AW_region ?_
      simp (maxSteps := 10000000) [go_sem, h4, h4']
      refine hK30 _ ?_
      obtain rfl := Option.some.inj hM
      refine AW_ret ?_
      simp (maxSteps := 10000000) [go_sem, h4, h4']
set_option maxHeartbeats 4000000 in
set_option maxRecDepth 100000 in
theorem w_eqEntry_ctr (k : Nat) (a0 : TEntry) (a1 : TEntry) (r : Bool) (hM : w_eqEntry k a0 a1 = some r) : Ctr Tryz.prog 62 [.agg (TEntry.c a0), .agg (TEntry.c a1)] true [.one (.bool r)] := by
  unfold w_eqEntry at hM
  refine Ctr.of_walk (by kernel_rfl) Tryz.func62 rfl Tryz.ntmps62 Tryz.results62 (by simp) ?_; intro N w0 hbad
  refine AW_seq fun K1 hK1 => ?_
  refine AW_region ?_
  simp (maxSteps := 10000000) [go_sem]
  refine hK1 _ ?_
  refine AW_seq fun K2 hK2 => ?_
  refine AW_seq fun K3 hK3 => ?_
  refine AW_region ?_
  simp (maxSteps := 10000000) [go_sem]
  refine hK3 _ ?_
  refine AW_cond (b := (!decide (a0.cell = a1.cell))) (by simp (maxSteps := 10000000) [go_sem]) (fun h4 => ?_) (fun h4 => ?_)
  · rw [if_pos h4] at hM
    have h4' := h4; try simp at h4'
    refine AW_seq fun K5 hK5 => ?_
    refine AW_region ?_
    simp (maxSteps := 10000000) [go_sem, h4, h4']
    refine hK5 _ ?_
    obtain rfl := Option.some.inj hM
    refine AW_ret ?_
    simp (maxSteps := 10000000) [go_sem, h4, h4']
  · rw [if_neg (ne_true h4)] at hM
    have h4' := h4; try simp at h4'
    refine AW_skip ?_
    refine hK2 _ ?_
    refine AW_seq fun K6 hK6 => ?_
    refine AW_seq fun K7 hK7 => ?_
    refine AW_region ?_
    simp (maxSteps := 10000000) [go_sem, h4, h4']
    refine hK7 _ ?_
    refine AW_cond (b := (!decide (a0.version = a1.version))) (by simp (maxSteps := 10000000) [go_sem, h4, h4']) (fun h8 => ?_) (fun h8 => ?_)
    · rw [if_pos h8] at hM
      have h8' := h8; try simp at h8'
      refine AW_seq fun K9 hK9 => ?_
      refine AW_region ?_
      simp (maxSteps := 10000000) [go_sem, h4, h4', h8, h8']
      refine hK9 _ ?_
      obtain rfl := Option.some.inj hM
      refine AW_ret ?_
      simp (maxSteps := 10000000) [go_sem, h4, h4', h8, h8']
    · rw [if_neg (ne_true h8)] at hM
      have h8' := h8; try simp at h8'
      refine AW_skip ?_
      refine hK6 _ ?_
      refine AW_seq fun K10 hK10 => ?_
      refine AW_seq fun K11 hK11 => ?_
      refine AW_region ?_
      simp (maxSteps := 10000000) [go_sem, h4, h4', h8, h8']
      refine hK11 _ ?_
      refine AW_cond (b := (!decide (a0.stamp = a1.stamp))) (by simp (maxSteps := 10000000) [go_sem, h4, h4', h8, h8']) (fun h12 => ?_) (fun h12 => ?_)
      · rw [if_pos h12] at hM
        have h12' := h12; try simp at h12'
        refine AW_seq fun K13 hK13 => ?_
        refine AW_region ?_
        simp (maxSteps := 10000000) [go_sem, h4, h4', h8, h8', h12, h12']
        refine hK13 _ ?_
        obtain rfl := Option.some.inj hM
        refine AW_ret ?_
        simp (maxSteps := 10000000) [go_sem, h4, h4', h8, h8', h12, h12']
      · rw [if_neg (ne_true h12)] at hM
        have h12' := h12; try simp at h12'
        refine AW_skip ?_
        refine hK10 _ ?_
        refine AW_seq fun K14 hK14 => ?_
        refine AW_seq fun K15 hK15 => ?_
        obtain ⟨x1, e16, hM⟩ := bind_some hM
        refine AW_region ?_
        simp (maxSteps := 10000000) [go_sem, h4, h4', h8, h8', h12, h12']
        refine by_ctr false (w_eqIntS_ctr k a0.inputs a1.inputs x1 e16) (by simp (maxSteps := 10000000) [go_sem, h4, h4', h8, h8', h12, h12']) (by simp) ?_
        simp (maxSteps := 10000000) [go_sem, h4, h4', h8, h8', h12, h12']
        refine hK15 _ ?_
        refine AW_cond (b := (!x1)) (by simp (maxSteps := 10000000) [go_sem, h4, h4', h8, h8', h12, h12']) (fun h17 => ?_) (fun h17 => ?_)
        · rw [if_pos h17] at hM
          have h17' := h17; try simp at h17'
          refine AW_seq fun K18 hK18 => ?_
          refine AW_region ?_
          simp (maxSteps := 10000000) [go_sem, h4, h4', h8, h8', h12, h12', h17, h17']
          refine hK18 _ ?_
          obtain rfl := Option.some.inj hM
          refine AW_ret ?_
          simp (maxSteps := 10000000) [go_sem, h4, h4', h8, h8', h12, h12', h17, h17']
        · rw [if_neg (ne_true h17)] at hM
          have h17' := h17; try simp at h17'
          refine AW_skip ?_
          refine hK14 _ ?_
          refine AW_seq fun K19 hK19 => ?_
          refine AW_seq fun K20 hK20 => ?_
          obtain ⟨x2, e21, hM⟩ := bind_some hM
          refine AW_region ?_
          simp (maxSteps := 10000000) [go_sem, h4, h4', h8, h8', h12, h12', h17, h17']
          refine by_ctr false (w_eqValue_ctr k a0.value a1.value x2 e21) (by simp (maxSteps := 10000000) [go_sem, h4, h4', h8, h8', h12, h12', h17, h17']) (by simp) ?_
          simp (maxSteps := 10000000) [go_sem, h4, h4', h8, h8', h12, h12', h17, h17']
          refine hK20 _ ?_
          refine AW_cond (b := (!x2)) (by simp (maxSteps := 10000000) [go_sem, h4, h4', h8, h8', h12, h12', h17, h17']) (fun h22 => ?_) (fun h22 => ?_)
          · rw [if_pos h22] at hM
            have h22' := h22; try simp at h22'
            refine AW_seq fun K23 hK23 => ?_
            refine AW_region ?_
            simp (maxSteps := 10000000) [go_sem, h4, h4', h8, h8', h12, h12', h17, h17', h22, h22']
            refine hK23 _ ?_
            obtain rfl := Option.some.inj hM
            refine AW_ret ?_
            simp (maxSteps := 10000000) [go_sem, h4, h4', h8, h8', h12, h12', h17, h17', h22, h22']
          · rw [if_neg (ne_true h22)] at hM
            have h22' := h22; try simp at h22'
            refine AW_skip ?_
            refine hK19 _ ?_
            refine AW_seq fun K24 hK24 => ?_
            refine AW_seq fun K25 hK25 => ?_
            refine AW_region ?_
            simp (maxSteps := 10000000) [go_sem, h4, h4', h8, h8', h12, h12', h17, h17', h22, h22']
            refine hK25 _ ?_
            refine AW_cond (b := (!(a0.has == a1.has))) (by simp (maxSteps := 10000000) [go_sem, h4, h4', h8, h8', h12, h12', h17, h17', h22, h22']) (fun h26 => ?_) (fun h26 => ?_)
            · rw [if_pos h26] at hM
              have h26' := h26; try simp at h26'
              refine AW_seq fun K27 hK27 => ?_
              refine AW_region ?_
              simp (maxSteps := 10000000) [go_sem, h4, h4', h8, h8', h12, h12', h17, h17', h22, h22', h26, h26']
              refine hK27 _ ?_
              obtain rfl := Option.some.inj hM
              refine AW_ret ?_
              simp (maxSteps := 10000000) [go_sem, h4, h4', h8, h8', h12, h12', h17, h17', h22, h22', h26, h26']
            · rw [if_neg (ne_true h26)] at hM
              have h26' := h26; try simp at h26'
              refine AW_skip ?_
              refine hK24 _ ?_
              refine AW_seq fun K28 hK28 => ?_
              refine AW_region ?_
              simp (maxSteps := 10000000) [go_sem, h4, h4', h8, h8', h12, h12', h17, h17', h22, h22', h26, h26']
              refine hK28 _ ?_
              obtain rfl := Option.some.inj hM
              refine AW_ret ?_
              simp (maxSteps := 10000000) [go_sem, h4, h4', h8, h8', h12, h12', h17, h17', h22, h22', h26, h26']
set_option maxHeartbeats 4000000 in
set_option maxRecDepth 100000 in
theorem w_eqEntryS_ctr (k : Nat) (a0 : List TEntry) (a1 : List TEntry) (r : Bool) (hM : w_eqEntryS k a0 a1 = some r) : Ctr Tryz.prog 31 [.one (.sl (a0.map TEntry.c)), .one (.sl (a1.map TEntry.c))] true [.one (.bool r)] := by
  unfold w_eqEntryS at hM
  refine Ctr.of_walk (by kernel_rfl) Tryz.func31 rfl Tryz.ntmps31 Tryz.results31 (by simp) ?_; intro N w0 hbad
  refine AW_seq fun K1 hK1 => ?_
  refine AW_region ?_
  simp (maxSteps := 10000000) [go_sem]
  refine hK1 _ ?_
  refine AW_seq fun K2 hK2 => ?_
  refine AW_seq fun K3 hK3 => ?_
  refine AW_region ?_
  simp (maxSteps := 10000000) [go_sem]
  refine hK3 _ ?_
  refine AW_cond (b := (!decide ((a0.length : Int) = (a1.length : Int)))) (by simp (maxSteps := 10000000) [go_sem]) (fun h4 => ?_) (fun h4 => ?_)
  · rw [if_pos h4] at hM
    have h4' := h4; try simp at h4'
    refine AW_seq fun K5 hK5 => ?_
    refine AW_region ?_
    simp (maxSteps := 10000000) [go_sem, h4, h4']
    refine hK5 _ ?_
    obtain rfl := Option.some.inj hM
    refine AW_ret ?_
    simp (maxSteps := 10000000) [go_sem, h4, h4']
  · rw [if_neg (ne_true h4)] at hM
    have h4' := h4; try simp at h4'
    refine AW_skip ?_
    refine hK2 _ ?_
    obtain ⟨e6, hU8, hR7⟩ := bind_some hM; clear hM
    refine AW_mid (ι := Unit) (fun i => ⟨27, [], [], []⟩) (fun i => (.inl i) = e6) ?_ ?_
    · intro K9 hK9
      have hM := hU8; clear hU8
      refine AW_seq fun K10 hK10 => ?_
      refine AW_region ?_
      simp (maxSteps := 10000000) [go_sem, h4, h4']
      refine hK10 _ ?_
      refine AW_block ?_
      refine AW_go (ι := Int) (fun i => ⟨27, [(0, .one (.l (.sl (a0.map TEntry.c)))), (1, .one (.l (.sl (a1.map TEntry.c)))), (5, .one (.l (.int .i64 i)))], [], []⟩) (fun n i => w_eqEntryS_u1 k a0 a1 n i = some e6) k 0 hM (Lift.into (by constructor <;> simp [go_sem, h4, h4'])) (fun _ h => by simp [w_eqEntryS_u1] at h) ?_
      intro KL11 n x1 hL11 hM
      have hM : w_eqEntryS_u1 k a0 a1 (n + 1) x1 = some e6 := hM; rw [w_eqEntryS_u1] at hM
      refine AW_seq fun K12 hK12 => ?_
      refine AW_seq fun K13 hK13 => ?_
      refine AW_region ?_
      simp (maxSteps := 10000000) [go_sem]
      refine hK13 _ ?_
      refine AW_cond (b := (decide (x1 < (a0.length : Int)))) (by simp (maxSteps := 10000000) [go_sem]) (fun h14 => ?_) (fun h14 => ?_)
      · rw [if_pos h14] at hM
        have h14' := h14; try simp at h14'
        have h14'' : ¬ ((a0.length : Int) ≤ x1) := by first | (have := h14; simp only [decide_eq_true_eq, decide_eq_false_iff_not, Bool.not_eq_true', Bool.not_eq_false', Bool.not_eq_true, Bool.not_eq_false] at this; omega) | (have := h14; simp at this; omega)
        refine AW_skip ?_
        refine hK12 _ ?_
        refine AW_seq fun K15 hK15 => ?_
        refine AW_block ?_
        refine AW_seq fun K16 hK16 => ?_
        obtain ⟨x2, e17, hM⟩ := bind_some hM
        obtain ⟨p18, q19, l20, g21⟩ := at_spec e17
        obtain ⟨x3, e22, hM⟩ := bind_some hM
        obtain ⟨p23, q24, l25, g26⟩ := at_spec e22
        obtain ⟨x4, e27, hM⟩ := bind_some hM
        refine AW_quick [[], [], [0, 1], [0, 1, 2], [], [], [4, 5], [4, 5, 6], [0, 1, 2, 3, 4, 5, 6, 7], [0, 1, 2, 3, 4, 5, 6, 7, 8]] 8 mixed (by kernel_rfl) (by kernel_rfl) ?_
        simp (maxSteps := 10000000) [go_sem, h14, h14', h14'', p18, q19, g21, p23, q24, g26]
        refine by_ctr false (w_eqEntry_ctr k x2 x3 x4 e27) (by simp (maxSteps := 10000000) [go_sem, h14, h14', h14'', p18, q19, g21, p23, q24, g26]) (by simp) ?_
        simp (maxSteps := 10000000) [go_sem, h14, h14', h14'', p18, q19, g21, p23, q24, g26]
        refine hK16 _ ?_
        refine AW_cond (b := (!x4)) (by simp (maxSteps := 10000000) [go_sem, h14, h14', h14'', p18, q19, g21, p23, q24, g26]) (fun h28 => ?_) (fun h28 => ?_)
        · rw [if_pos h28] at hM
          have h28' := h28; try simp at h28'
          refine AW_seq fun K29 hK29 => ?_
          refine AW_region ?_
          simp (maxSteps := 10000000) [go_sem, h14, h14', h14'', p18, q19, g21, p23, q24, g26, h28, h28']
          refine hK29 _ ?_
          obtain rfl := Option.some.inj hM
          have hM := hR7; dsimp only at hM
          obtain rfl := Option.some.inj hM
          refine AW_ret ?_
          simp (maxSteps := 10000000) [go_sem, h14, h14', h14'', p18, q19, g21, p23, q24, g26, h28, h28']
        · rw [if_neg (ne_true h28)] at hM
          have h28' := h28; try simp at h28'
          refine AW_skip ?_
          refine hK15 _ ?_
          refine AW_region ?_
          simp (maxSteps := 10000000) [go_sem, h14, h14', h14'', p18, q19, g21, p23, q24, g26, h28, h28']
          exact hL11 (IntKind.i64.wrap (x1 + 1)) _ hM (Lift.into (by constructor <;> simp [go_sem, h14, h14', h14'', p18, q19, g21, p23, q24, g26, h28, h28']))
      · rw [if_neg (ne_true h14)] at hM
        have h14' := h14; try simp at h14'
        have h14'' : ¬ (x1 < (a0.length : Int)) := by first | (have := h14; simp only [decide_eq_true_eq, decide_eq_false_iff_not, Bool.not_eq_true', Bool.not_eq_false', Bool.not_eq_true, Bool.not_eq_false] at this; omega) | (have := h14; simp at this; omega)
        refine AW_exit ?_
        obtain rfl := Option.some.inj hM
        exact hK9 () _ rfl (Lift.into (by constructor <;> simp [go_sem, h14, h14', h14'']))
    · rintro _ rfl
      have hM := hR7
      dsimp only at hM
      refine AW_seq fun K30 hK30 => ?_
      refine AW_region ?_
      simp (maxSteps := 10000000) [go_sem, h4, h4']
      refine hK30 _ ?_
      obtain rfl := Option.some.inj hM
      refine AW_ret ?_
      simp (maxSteps := 10000000) [go_sem, h4, h4']
set_option maxHeartbeats 4000000 in
set_option maxRecDepth 100000 in
theorem w_eqEngine_ctr (k : Nat) (a0 : TEngine) (a1 : TEngine) (r : Bool) (hM : w_eqEngine k a0 a1 = some r) : Ctr Tryz.prog 10 [.agg (TEngine.c a0), .agg (TEngine.c a1)] true [.one (.bool r)] := by
  unfold w_eqEngine at hM
  refine Ctr.of_walk (by kernel_rfl) Tryz.func10 rfl Tryz.ntmps10 Tryz.results10 (by simp) ?_; intro N w0 hbad
  refine AW_seq fun K1 hK1 => ?_
  refine AW_region ?_
  simp (maxSteps := 10000000) [go_sem]
  refine hK1 _ ?_
  refine AW_seq fun K2 hK2 => ?_
  refine AW_seq fun K3 hK3 => ?_
  obtain ⟨x1, e4, hM⟩ := bind_some hM
  refine AW_region ?_
  simp (maxSteps := 10000000) [go_sem]
  refine by_ctr false (w_eqNotebook_ctr k a0.notebook a1.notebook x1 e4) (by simp (maxSteps := 10000000) [go_sem]) (by simp) ?_
  simp (maxSteps := 10000000) [go_sem]
  refine hK3 _ ?_
  refine AW_cond (b := (!x1)) (by simp (maxSteps := 10000000) [go_sem]) (fun h5 => ?_) (fun h5 => ?_)
  · rw [if_pos h5] at hM
    have h5' := h5; try simp at h5'
    refine AW_seq fun K6 hK6 => ?_
    refine AW_region ?_
    simp (maxSteps := 10000000) [go_sem, h5, h5']
    refine hK6 _ ?_
    obtain rfl := Option.some.inj hM
    refine AW_ret ?_
    simp (maxSteps := 10000000) [go_sem, h5, h5']
  · rw [if_neg (ne_true h5)] at hM
    have h5' := h5; try simp at h5'
    refine AW_skip ?_
    refine hK2 _ ?_
    refine AW_seq fun K7 hK7 => ?_
    refine AW_seq fun K8 hK8 => ?_
    obtain ⟨x2, e9, hM⟩ := bind_some hM
    refine AW_region ?_
    simp (maxSteps := 10000000) [go_sem, h5, h5']
    refine by_ctr false (w_eqWorld_ctr k a0.world a1.world x2 e9) (by simp (maxSteps := 10000000) [go_sem, h5, h5']) (by simp) ?_
    simp (maxSteps := 10000000) [go_sem, h5, h5']
    refine hK8 _ ?_
    refine AW_cond (b := (!x2)) (by simp (maxSteps := 10000000) [go_sem, h5, h5']) (fun h10 => ?_) (fun h10 => ?_)
    · rw [if_pos h10] at hM
      have h10' := h10; try simp at h10'
      refine AW_seq fun K11 hK11 => ?_
      refine AW_region ?_
      simp (maxSteps := 10000000) [go_sem, h5, h5', h10, h10']
      refine hK11 _ ?_
      obtain rfl := Option.some.inj hM
      refine AW_ret ?_
      simp (maxSteps := 10000000) [go_sem, h5, h5', h10, h10']
    · rw [if_neg (ne_true h10)] at hM
      have h10' := h10; try simp at h10'
      refine AW_skip ?_
      refine hK7 _ ?_
      refine AW_seq fun K12 hK12 => ?_
      refine AW_seq fun K13 hK13 => ?_
      obtain ⟨x3, e14, hM⟩ := bind_some hM
      refine AW_region ?_
      simp (maxSteps := 10000000) [go_sem, h5, h5', h10, h10']
      refine by_ctr false (w_eqTapeS_ctr k a0.tapes a1.tapes x3 e14) (by simp (maxSteps := 10000000) [go_sem, h5, h5', h10, h10']) (by simp) ?_
      simp (maxSteps := 10000000) [go_sem, h5, h5', h10, h10']
      refine hK13 _ ?_
      refine AW_cond (b := (!x3)) (by simp (maxSteps := 10000000) [go_sem, h5, h5', h10, h10']) (fun h15 => ?_) (fun h15 => ?_)
      · rw [if_pos h15] at hM
        have h15' := h15; try simp at h15'
        refine AW_seq fun K16 hK16 => ?_
        refine AW_region ?_
        simp (maxSteps := 10000000) [go_sem, h5, h5', h10, h10', h15, h15']
        refine hK16 _ ?_
        obtain rfl := Option.some.inj hM
        refine AW_ret ?_
        simp (maxSteps := 10000000) [go_sem, h5, h5', h10, h10', h15, h15']
      · rw [if_neg (ne_true h15)] at hM
        have h15' := h15; try simp at h15'
        refine AW_skip ?_
        refine hK12 _ ?_
        refine AW_seq fun K17 hK17 => ?_
        refine AW_seq fun K18 hK18 => ?_
        obtain ⟨x4, e19, hM⟩ := bind_some hM
        refine AW_region ?_
        simp (maxSteps := 10000000) [go_sem, h5, h5', h10, h10', h15, h15']
        refine by_ctr false (w_eqEntryS_ctr k a0.entries a1.entries x4 e19) (by simp (maxSteps := 10000000) [go_sem, h5, h5', h10, h10', h15, h15']) (by simp) ?_
        simp (maxSteps := 10000000) [go_sem, h5, h5', h10, h10', h15, h15']
        refine hK18 _ ?_
        refine AW_cond (b := (!x4)) (by simp (maxSteps := 10000000) [go_sem, h5, h5', h10, h10', h15, h15']) (fun h20 => ?_) (fun h20 => ?_)
        · rw [if_pos h20] at hM
          have h20' := h20; try simp at h20'
          refine AW_seq fun K21 hK21 => ?_
          refine AW_region ?_
          simp (maxSteps := 10000000) [go_sem, h5, h5', h10, h10', h15, h15', h20, h20']
          refine hK21 _ ?_
          obtain rfl := Option.some.inj hM
          refine AW_ret ?_
          simp (maxSteps := 10000000) [go_sem, h5, h5', h10, h10', h15, h15', h20, h20']
        · rw [if_neg (ne_true h20)] at hM
          have h20' := h20; try simp at h20'
          refine AW_skip ?_
          refine hK17 _ ?_
          refine AW_seq fun K22 hK22 => ?_
          refine AW_seq fun K23 hK23 => ?_
          refine AW_region ?_
          simp (maxSteps := 10000000) [go_sem, h5, h5', h10, h10', h15, h15', h20, h20']
          refine hK23 _ ?_
          refine AW_cond (b := (!decide (a0.next = a1.next))) (by simp (maxSteps := 10000000) [go_sem, h5, h5', h10, h10', h15, h15', h20, h20']) (fun h24 => ?_) (fun h24 => ?_)
          · rw [if_pos h24] at hM
            have h24' := h24; try simp at h24'
            refine AW_seq fun K25 hK25 => ?_
            refine AW_region ?_
            simp (maxSteps := 10000000) [go_sem, h5, h5', h10, h10', h15, h15', h20, h20', h24, h24']
            refine hK25 _ ?_
            obtain rfl := Option.some.inj hM
            refine AW_ret ?_
            simp (maxSteps := 10000000) [go_sem, h5, h5', h10, h10', h15, h15', h20, h20', h24, h24']
          · rw [if_neg (ne_true h24)] at hM
            have h24' := h24; try simp at h24'
            refine AW_skip ?_
            refine hK22 _ ?_
            refine AW_seq fun K26 hK26 => ?_
            refine AW_seq fun K27 hK27 => ?_
            refine AW_region ?_
            simp (maxSteps := 10000000) [go_sem, h5, h5', h10, h10', h15, h15', h20, h20', h24, h24']
            refine hK27 _ ?_
            refine AW_cond (b := (!decide (a0.limit = a1.limit))) (by simp (maxSteps := 10000000) [go_sem, h5, h5', h10, h10', h15, h15', h20, h20', h24, h24']) (fun h28 => ?_) (fun h28 => ?_)
            · rw [if_pos h28] at hM
              have h28' := h28; try simp at h28'
              refine AW_seq fun K29 hK29 => ?_
              refine AW_region ?_
              simp (maxSteps := 10000000) [go_sem, h5, h5', h10, h10', h15, h15', h20, h20', h24, h24', h28, h28']
              refine hK29 _ ?_
              obtain rfl := Option.some.inj hM
              refine AW_ret ?_
              simp (maxSteps := 10000000) [go_sem, h5, h5', h10, h10', h15, h15', h20, h20', h24, h24', h28, h28']
            · rw [if_neg (ne_true h28)] at hM
              have h28' := h28; try simp at h28'
              refine AW_skip ?_
              refine hK26 _ ?_
              refine AW_seq fun K30 hK30 => ?_
              refine AW_seq fun K31 hK31 => ?_
              refine AW_region ?_
              simp (maxSteps := 10000000) [go_sem, h5, h5', h10, h10', h15, h15', h20, h20', h24, h24', h28, h28']
              refine hK31 _ ?_
              refine AW_cond (b := (!decide (a0.work = a1.work))) (by simp (maxSteps := 10000000) [go_sem, h5, h5', h10, h10', h15, h15', h20, h20', h24, h24', h28, h28']) (fun h32 => ?_) (fun h32 => ?_)
              · rw [if_pos h32] at hM
                have h32' := h32; try simp at h32'
                refine AW_seq fun K33 hK33 => ?_
                refine AW_into (σ' := ⟨44, [], [], []⟩) (Lift.into (by constructor <;> simp [go_sem, h5, h5', h10, h10', h15, h15', h20, h20', h24, h24', h28, h28', h32, h32'])) ?_
                refine AW_region ?_
                simp (maxSteps := 10000000) [go_sem, h5, h5', h10, h10', h15, h15', h20, h20', h24, h24', h28, h28', h32, h32']
                refine hK33 _ ?_
                obtain rfl := Option.some.inj hM
                refine AW_ret ?_
                simp (maxSteps := 10000000) [go_sem, h5, h5', h10, h10', h15, h15', h20, h20', h24, h24', h28, h28', h32, h32']
              · rw [if_neg (ne_true h32)] at hM
                have h32' := h32; try simp at h32'
                refine AW_skip ?_
                refine hK30 _ ?_
                refine AW_seq fun K34 hK34 => ?_
                refine AW_into (σ' := ⟨44, [], [], []⟩) (Lift.into (by constructor <;> simp [go_sem, h5, h5', h10, h10', h15, h15', h20, h20', h24, h24', h28, h28', h32, h32'])) ?_
                refine AW_region ?_
                simp (maxSteps := 10000000) [go_sem, h5, h5', h10, h10', h15, h15', h20, h20', h24, h24', h28, h28', h32, h32']
                refine hK34 _ ?_
                obtain rfl := Option.some.inj hM
                refine AW_ret ?_
                simp (maxSteps := 10000000) [go_sem, h5, h5', h10, h10', h15, h15', h20, h20', h24, h24', h28, h28', h32, h32']
end Go.Proofs.YtmiboaogfjgkjaaGreat
