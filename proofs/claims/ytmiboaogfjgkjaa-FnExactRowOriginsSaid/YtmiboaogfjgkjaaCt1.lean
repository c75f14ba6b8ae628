/- Contracts of the program's functions: where the mirrored function answers, the program's function returns this answer. Written by a program of mine. -/
import Derived.Test.YtmiboaogfjgkjaaWn
import Derived.Test.YtmiboaogfjgkjaaMd1
set_option linter.unusedSimpArgs false
set_option linter.unusedVariables false
namespace Go.Proofs.Ytmiboaogfjgkjaa
open Go.RowKit Am

set_option maxHeartbeats 4000000 in
set_option maxRecDepth 100000 in
theorem s_l1In_ctr (a0 : Int) (a1 : Int) (a2 : Int) (r : Bool) (hM : s_l1In a0 a1 a2 = some r) : Ctr Try.prog 77 [.one (.int .i64 a0), .one (.int .i64 a1), .one (.int .i64 a2)] true [.one (.bool r)] := by
  unfold s_l1In at hM
  refine Ctr.of_walk (by kernel_rfl) Try.func77 rfl Try.ntmps77 Try.results77 (by simp) ?_; intro N w0 hbad
  refine AW_seq fun K1 hK1 => ?_
  refine AW_region ?_
  simp (maxSteps := 10000000) [go_sem]
  refine hK1 _ ?_
  obtain ⟨e2, hU4, hR3⟩ := bind_some hM; clear hM
  refine AW_mid (ι := Bool) (fun i => ⟨15, [(6, .one (.l (.bool i)))], [], []⟩) (fun i => i = e2) ?_ ?_
  · intro K5 hK5
    have hM := hU4; clear hU4
    by_cases h6 : (decide (a1 ≤ a0)) = true
    · rw [if_pos h6] at hM
      have h6' := h6; try simp at h6'
      have h6'' : ¬ (a0 < a1) := by first | (have := h6; simp only [decide_eq_true_eq, decide_eq_false_iff_not, Bool.not_eq_true', Bool.not_eq_false', Bool.not_eq_true, Bool.not_eq_false] at this; omega) | (have := h6; simp at this; omega)
      refine AW_region ?_
      simp (maxSteps := 10000000) [go_sem, h6, h6', h6'']
      obtain rfl := Option.some.inj hM
      exact hK5 (decide (a0 ≤ a2)) _ rfl (Lift.into (by constructor <;> simp [go_sem, h6, h6', h6'']))
    · rw [if_neg h6] at hM
      have h6 := Bool.eq_false_iff.2 h6
      have h6' := h6; try simp at h6'
      have h6'' : ¬ (a1 ≤ a0) := by first | (have := h6; simp only [decide_eq_true_eq, decide_eq_false_iff_not, Bool.not_eq_true', Bool.not_eq_false', Bool.not_eq_true, Bool.not_eq_false] at this; omega) | (have := h6; simp at this; omega)
      refine AW_region ?_
      simp (maxSteps := 10000000) [go_sem, h6, h6', h6'']
      obtain rfl := Option.some.inj hM
      exact hK5 false _ rfl (Lift.into (by constructor <;> simp [go_sem, h6, h6', h6'']))
  · rintro x1 rfl
    have hM := hR3
    try dsimp only at hM
    obtain rfl := Option.some.inj hM
    refine AW_ret ?_
    simp (maxSteps := 10000000) [go_sem]
set_option maxHeartbeats 4000000 in
set_option maxRecDepth 100000 in
theorem s_ApplyDiff_ctr (k : Nat) (a0 : List TLine) (a1 : TDiff) (r : List TLine) (hM : s_ApplyDiff k a0 a1 = some r) : Ctr Try.prog 38 [.one (.sl (a0.map TLine.c)), .agg (TDiff.c a1)] true [.one (.sl (r.map TLine.c))] := by
  unfold s_ApplyDiff at hM
  refine Ctr.of_walk (by kernel_rfl) Try.func38 rfl Try.ntmps38 Try.results38 (by simp) ?_; intro N w0 hbad
  refine AW_seq fun K1 hK1 => ?_
  refine AW_region ?_
  simp (maxSteps := 10000000) [go_sem]
  refine hK1 _ ?_
  refine AW_seq fun K2 hK2 => ?_
  refine AW_seq fun K3 hK3 => ?_
  obtain ⟨x1, e4, hM⟩ := bind_some hM
  refine AW_region ?_
  simp (maxSteps := 10000000) [go_sem]
  refine by_ctr false (s_l1In_ctr a1.length 0 8 x1 e4) (by simp (maxSteps := 10000000) [go_sem]) (by simp) ?_
  simp (maxSteps := 10000000) [go_sem]
  refine hK3 _ ?_
  refine AW_cond (b := (!x1)) (by simp (maxSteps := 10000000) [go_sem]) (fun h5 => ?_) (fun h5 => ?_)
  · rw [if_pos h5] at hM
    have h5' := h5; try simp at h5'
    refine AW_seq fun K6 hK6 => ?_
    obtain ⟨x2, e7, hM⟩ := bind_some hM
    obtain ⟨c8, s9, s10⟩ := app_spec e7
    replace c8 := c8.symm; subst c8
    try simp at s9
    try simp at s10
    refine AW_region ?_
    simp (maxSteps := 10000000) [go_sem, h5, h5', s9, s10]
    refine hK6 _ ?_
    obtain rfl := Option.some.inj hM
    refine AW_ret ?_
    simp (maxSteps := 10000000) [go_sem, h5, h5', s9, s10]
  · rw [if_neg (ne_true h5)] at hM
    have h5' := h5; try simp at h5'
    refine AW_skip ?_
    refine hK2 _ ?_
    refine AW_seq fun K11 hK11 => ?_
    obtain ⟨x3, e12, hM⟩ := bind_some hM
    obtain ⟨c13, s14, s15, s16⟩ := mk_spec e12
    replace c13 := c13.symm; subst c13
    try simp at s14
    try simp at s15
    try simp at s16
    refine AW_region ?_
    simp (maxSteps := 10000000) [go_sem, h5, h5', s14, s15, s16]
    refine hK11 _ ?_
    refine AW_seq fun K17 hK17 => ?_
    obtain ⟨x4, e18, hM⟩ := bind_some hM
    obtain ⟨c19, s20, s21⟩ := cpy_spec e18
    replace c19 := c19.symm; subst c19
    try simp at s20
    try simp at s21
    refine AW_region ?_
    simp (maxSteps := 10000000) [go_sem, h5, h5', s14, s15, s16, s20, s21]
    refine hK17 _ ?_
    obtain ⟨e22, hU24, hR23⟩ := bind_some hM; clear hM
    refine AW_mid (ι := List TLine) (fun i => ⟨52, [(5, .one (.own 1024 i.length))], [], [(1024, some ⟨true, i.map TLine.c⟩)]⟩) (fun i => i = e22) ?_ ?_
    · intro K25 hK25
      have hM := hU24; clear hU24
      refine AW_seq fun K26 hK26 => ?_
      refine AW_region ?_
      simp (maxSteps := 10000000) [go_sem, h5, h5', s14, s15, s16, s20, s21]
      refine hK26 _ ?_
      refine AW_block ?_
      refine AW_go (ι := (List TLine) × Int) (fun i => ⟨52, [(3, .one (.box 3 0)), (5, .one (.own 1024 i.1.length)), (6, .one (.l (.int .i64 i.2)))], [(3, [.l (.int .i64 a1.length), .l (.sl (a1.changes.map TChange.c))])], [(1024, some ⟨true, i.1.map TLine.c⟩)]⟩) (fun n i => s_ApplyDiff_u1 a1 n i.1 i.2 = some e22) k ((over (List.replicate (a1.length.toNat) (TLine.mk 0 false (⟨#[]⟩ : ByteArray))) a0), 0) hM (Lift.into (by constructor <;> simp [go_sem, h5, h5', s14, s15, s16, s20, s21])) (fun _ h => by simp [s_ApplyDiff_u1] at h) ?_
      intro KL27 n ⟨x6, x7⟩ hL27 hM
      have hM : s_ApplyDiff_u1 a1 (n + 1) x6 x7 = some e22 := hM; rw [s_ApplyDiff_u1] at hM
      refine AW_seq fun K28 hK28 => ?_
      refine AW_seq fun K29 hK29 => ?_
      refine AW_region ?_
      simp (maxSteps := 10000000) [go_sem]
      refine hK29 _ ?_
      refine AW_cond (b := (decide (x7 < (a1.changes.length : Int)))) (by simp (maxSteps := 10000000) [go_sem]) (fun h30 => ?_) (fun h30 => ?_)
      · rw [if_pos h30] at hM
        have h30' := h30; try simp at h30'
        have h30'' : ¬ ((a1.changes.length : Int) ≤ x7) := by first | (have := h30; simp only [decide_eq_true_eq, decide_eq_false_iff_not, Bool.not_eq_true', Bool.not_eq_false', Bool.not_eq_true, Bool.not_eq_false] at this; omega) | (have := h30; simp at this; omega)
        refine AW_skip ?_
        refine hK28 _ ?_
        obtain ⟨e31, hU33, hR32⟩ := bind_some hM; clear hM
        refine AW_mid (ι := List TLine) (fun i => ⟨52, [(3, .one (.box 3 0)), (5, .one (.own 1024 i.length)), (6, .one (.l (.int .i64 x7)))], [(3, [.l (.int .i64 a1.length), .l (.sl (a1.changes.map TChange.c))])], [(1024, some ⟨true, i.map TLine.c⟩)]⟩) (fun i => i = e31) ?_ ?_
        · intro K34 hK34
          have hM := hU33; clear hU33
          refine AW_block ?_
          refine AW_seq fun K35 hK35 => ?_
          obtain ⟨x9, e36, hM⟩ := bind_some hM
          obtain ⟨p37, q38, l39, g40⟩ := at_spec e36
          obtain ⟨x10, e41, hM⟩ := bind_some hM
          refine AW_quick [[], [0], [], [0, 1, 2], [0, 1, 2, 3], [0, 1, 2, 3, 4], [], [6], [6, 7], [0, 1, 2, 3, 4, 5, 6, 7, 8]] 9 mixed (by kernel_rfl) (by kernel_rfl) ?_
          simp (maxSteps := 10000000) [go_sem, h30, h30', h30'', p37, q38, g40]
          refine by_ctr false (s_l1In_ctr x9.at_ 0 (IntKind.i64.wrap (a1.length - 1)) x10 e41) (by simp (maxSteps := 10000000) [go_sem, h30, h30', h30'', p37, q38, g40]) (by simp) ?_
          simp (maxSteps := 10000000) [go_sem, h30, h30', h30'', p37, q38, g40]
          refine hK35 _ ?_
          refine AW_cond (b := x10) (by simp (maxSteps := 10000000) [go_sem, h30, h30', h30'', p37, q38, g40]) (fun h42 => ?_) (fun h42 => ?_)
          · rw [if_pos h42] at hM
            have h42' := h42; try simp at h42'
            obtain ⟨x11, e43, hM⟩ := bind_some hM
            obtain ⟨p44, q45, l46, g47⟩ := at_spec e43
            refine AW_quick [[], [], [1], [], [1, 2, 3], [1, 2, 3, 4], [1, 2, 3, 4, 5], [], [7], [], [7, 8, 9], [7, 8, 9, 10], [7, 8, 9, 10, 11], [0, 1, 2, 3, 4, 5, 6, 7, 8, 9, 10, 11, 12], [0, 1, 2, 3, 4, 5, 6, 7, 8, 9, 10, 11, 12, 13]] 13 mixed (by kernel_rfl) (by kernel_rfl) ?_
            simp (maxSteps := 10000000) [go_sem, h30, h30', h30'', p37, q38, g40, h42, h42', p44, q45, g47, l46]
            obtain rfl := Option.some.inj hM
            exact hK34 (x6.set x9.at_.toNat x9.line) _ rfl (Lift.into (by constructor <;> simp [go_sem, h30, h30', h30'', p37, q38, g40, h42, h42', p44, q45, g47, l46]))
          · rw [if_neg (ne_true h42)] at hM
            have h42' := h42; try simp at h42'
            refine AW_skip ?_
            obtain rfl := Option.some.inj hM
            exact hK34 x6 _ rfl (Lift.into (by constructor <;> simp [go_sem, h30, h30', h30'', p37, q38, g40, h42, h42']))
        · rintro x8 rfl
          have hM := hR32
          try dsimp only at hM
          refine AW_region ?_
          simp (maxSteps := 10000000) [go_sem, h30, h30', h30'']
          exact hL27 (x8, (IntKind.i64.wrap (x7 + 1))) _ hM (Lift.into (by constructor <;> simp [go_sem, h30, h30', h30'']))
      · rw [if_neg (ne_true h30)] at hM
        have h30' := h30; try simp at h30'
        have h30'' : ¬ (x7 < (a1.changes.length : Int)) := by first | (have := h30; simp only [decide_eq_true_eq, decide_eq_false_iff_not, Bool.not_eq_true', Bool.not_eq_false', Bool.not_eq_true, Bool.not_eq_false] at this; omega) | (have := h30; simp at this; omega)
        refine AW_exit ?_
        obtain rfl := Option.some.inj hM
        exact hK25 x6 _ rfl (Lift.into (by constructor <;> simp [go_sem, h30, h30', h30'']))
    · rintro x5 rfl
      have hM := hR23
      try dsimp only at hM
      refine AW_seq fun K48 hK48 => ?_
      refine AW_region ?_
      simp (maxSteps := 10000000) [go_sem, h5, h5', s14, s15, s16, s20, s21]
      refine hK48 _ ?_
      obtain rfl := Option.some.inj hM
      refine AW_ret ?_
      simp (maxSteps := 10000000) [go_sem, h5, h5', s14, s15, s16, s20, s21]
set_option maxHeartbeats 4000000 in
set_option maxRecDepth 100000 in
theorem i_within_ctr (a0 : Int) (a1 : Int) (a2 : Int) (r : Bool) (hM : i_within a0 a1 a2 = some r) : Ctr Try.prog 92 [.one (.int .i64 a0), .one (.int .i64 a1), .one (.int .i64 a2)] true [.one (.bool r)] := by
  unfold i_within at hM
  refine Ctr.of_walk (by kernel_rfl) Try.func92 rfl Try.ntmps92 Try.results92 (by simp) ?_; intro N w0 hbad
  refine AW_seq fun K1 hK1 => ?_
  refine AW_region ?_
  simp (maxSteps := 10000000) [go_sem]
  refine hK1 _ ?_
  obtain ⟨e2, hU4, hR3⟩ := bind_some hM; clear hM
  refine AW_mid (ι := Bool) (fun i => ⟨15, [(6, .one (.l (.bool i)))], [], []⟩) (fun i => i = e2) ?_ ?_
  · intro K5 hK5
    have hM := hU4; clear hU4
    by_cases h6 : (decide (a1 ≤ a0)) = true
    · rw [if_pos h6] at hM
      have h6' := h6; try simp at h6'
      have h6'' : ¬ (a0 < a1) := by first | (have := h6; simp only [decide_eq_true_eq, decide_eq_false_iff_not, Bool.not_eq_true', Bool.not_eq_false', Bool.not_eq_true, Bool.not_eq_false] at this; omega) | (have := h6; simp at this; omega)
      refine AW_region ?_
      simp (maxSteps := 10000000) [go_sem, h6, h6', h6'']
      obtain rfl := Option.some.inj hM
      exact hK5 (decide (a0 ≤ a2)) _ rfl (Lift.into (by constructor <;> simp [go_sem, h6, h6', h6'']))
    · rw [if_neg h6] at hM
      have h6 := Bool.eq_false_iff.2 h6
      have h6' := h6; try simp at h6'
      have h6'' : ¬ (a1 ≤ a0) := by first | (have := h6; simp only [decide_eq_true_eq, decide_eq_false_iff_not, Bool.not_eq_true', Bool.not_eq_false', Bool.not_eq_true, Bool.not_eq_false] at this; omega) | (have := h6; simp at this; omega)
      refine AW_region ?_
      simp (maxSteps := 10000000) [go_sem, h6, h6', h6'']
      obtain rfl := Option.some.inj hM
      exact hK5 false _ rfl (Lift.into (by constructor <;> simp [go_sem, h6, h6', h6'']))
  · rintro x1 rfl
    have hM := hR3
    try dsimp only at hM
    obtain rfl := Option.some.inj hM
    refine AW_ret ?_
    simp (maxSteps := 10000000) [go_sem]
set_option maxHeartbeats 4000000 in
set_option maxRecDepth 100000 in
theorem i_ApplyDiff_ctr (k : Nat) (a0 : List TLine) (a1 : TDiff) (r : List TLine) (hM : i_ApplyDiff k a0 a1 = some r) : Ctr Try.prog 41 [.one (.sl (a0.map TLine.c)), .agg (TDiff.c a1)] true [.one (.sl (r.map TLine.c))] := by
  unfold i_ApplyDiff at hM
  refine Ctr.of_walk (by kernel_rfl) Try.func41 rfl Try.ntmps41 Try.results41 (by simp) ?_; intro N w0 hbad
  refine AW_seq fun K1 hK1 => ?_
  refine AW_region ?_
  simp (maxSteps := 10000000) [go_sem]
  refine hK1 _ ?_
  refine AW_seq fun K2 hK2 => ?_
  refine AW_seq fun K3 hK3 => ?_
  obtain ⟨x1, e4, hM⟩ := bind_some hM
  refine AW_region ?_
  simp (maxSteps := 10000000) [go_sem]
  refine by_ctr false (i_within_ctr a1.length 0 8 x1 e4) (by simp (maxSteps := 10000000) [go_sem]) (by simp) ?_
  simp (maxSteps := 10000000) [go_sem]
  refine hK3 _ ?_
  refine AW_cond (b := (!x1)) (by simp (maxSteps := 10000000) [go_sem]) (fun h5 => ?_) (fun h5 => ?_)
  · rw [if_pos h5] at hM
    have h5' := h5; try simp at h5'
    refine AW_seq fun K6 hK6 => ?_
    obtain ⟨x2, e7, hM⟩ := bind_some hM
    obtain ⟨c8, s9, s10⟩ := app_spec e7
    replace c8 := c8.symm; subst c8
    try simp at s9
    try simp at s10
    refine AW_region ?_
    simp (maxSteps := 10000000) [go_sem, h5, h5', s9, s10]
    refine hK6 _ ?_
    obtain rfl := Option.some.inj hM
    refine AW_ret ?_
    simp (maxSteps := 10000000) [go_sem, h5, h5', s9, s10]
  · rw [if_neg (ne_true h5)] at hM
    have h5' := h5; try simp at h5'
    refine AW_skip ?_
    refine hK2 _ ?_
    refine AW_seq fun K11 hK11 => ?_
    obtain ⟨x3, e12, hM⟩ := bind_some hM
    obtain ⟨c13, s14, s15, s16⟩ := mk_spec e12
    replace c13 := c13.symm; subst c13
    try simp at s14
    try simp at s15
    try simp at s16
    refine AW_region ?_
    simp (maxSteps := 10000000) [go_sem, h5, h5', s14, s15, s16]
    refine hK11 _ ?_
    refine AW_seq fun K17 hK17 => ?_
    obtain ⟨x4, e18, hM⟩ := bind_some hM
    obtain ⟨c19, s20, s21⟩ := cpy_spec e18
    replace c19 := c19.symm; subst c19
    try simp at s20
    try simp at s21
    refine AW_region ?_
    simp (maxSteps := 10000000) [go_sem, h5, h5', s14, s15, s16, s20, s21]
    refine hK17 _ ?_
    obtain ⟨e22, hU24, hR23⟩ := bind_some hM; clear hM
    refine AW_mid (ι := List TLine) (fun i => ⟨42, [(5, .one (.own 1088 i.length))], [], [(1088, some ⟨true, i.map TLine.c⟩)]⟩) (fun i => i = e22) ?_ ?_
    · intro K25 hK25
      have hM := hU24; clear hU24
      refine AW_seq fun K26 hK26 => ?_
      refine AW_region ?_
      simp (maxSteps := 10000000) [go_sem, h5, h5', s14, s15, s16, s20, s21]
      refine hK26 _ ?_
      refine AW_block ?_
      refine AW_go (ι := (List TLine) × Int) (fun i => ⟨42, [(3, .one (.box 3 0)), (5, .one (.own 1088 i.1.length)), (22, .one (.l (.sl (a1.changes.map TChange.c)))), (23, .one (.l (.int .i64 (a1.changes.length : Int)))), (24, .one (.l (.int .i64 i.2)))], [(3, [.l (.int .i64 a1.length), .l (.sl (a1.changes.map TChange.c))])], [(1088, some ⟨true, i.1.map TLine.c⟩)]⟩) (fun n i => i_ApplyDiff_u1 a1 n i.1 i.2 = some e22) k ((over (List.replicate (a1.length.toNat) (TLine.mk 0 false (⟨#[]⟩ : ByteArray))) a0), 0) hM (Lift.into (by constructor <;> simp [go_sem, h5, h5', s14, s15, s16, s20, s21])) (fun _ h => by simp [i_ApplyDiff_u1] at h) ?_
      intro KL27 n ⟨x6, x7⟩ hL27 hM
      have hM : i_ApplyDiff_u1 a1 (n + 1) x6 x7 = some e22 := hM; rw [i_ApplyDiff_u1] at hM
      refine AW_seq fun K28 hK28 => ?_
      refine AW_region ?_
      simp (maxSteps := 10000000) [go_sem]
      refine hK28 _ ?_
      refine AW_seq fun K29 hK29 => ?_
      refine AW_cond (b := (decide (x7 < (a1.changes.length : Int)))) (by simp (maxSteps := 10000000) [go_sem]) (fun h30 => ?_) (fun h30 => ?_)
      · rw [if_pos h30] at hM
        have h30' := h30; try simp at h30'
        have h30'' : ¬ ((a1.changes.length : Int) ≤ x7) := by first | (have := h30; simp only [decide_eq_true_eq, decide_eq_false_iff_not, Bool.not_eq_true', Bool.not_eq_false', Bool.not_eq_true, Bool.not_eq_false] at this; omega) | (have := h30; simp at this; omega)
        refine AW_skip ?_
        refine hK29 _ ?_
        obtain ⟨e31, hU33, hR32⟩ := bind_some hM; clear hM
        refine AW_mid (ι := List TLine) (fun i => ⟨42, [(3, .one (.box 3 0)), (5, .one (.own 1088 i.length)), (22, .one (.l (.sl (a1.changes.map TChange.c)))), (23, .one (.l (.int .i64 (a1.changes.length : Int)))), (24, .one (.l (.int .i64 x7)))], [(3, [.l (.int .i64 a1.length), .l (.sl (a1.changes.map TChange.c))])], [(1088, some ⟨true, i.map TLine.c⟩)]⟩) (fun i => i = e31) ?_ ?_
        · intro K34 hK34
          have hM := hU33; clear hU33
          refine AW_block ?_
          refine AW_seq fun K35 hK35 => ?_
          obtain ⟨x9, e36, hM⟩ := bind_some hM
          obtain ⟨p37, q38, l39, g40⟩ := at_spec e36
          refine AW_region ?_
          simp (maxSteps := 10000000) [go_sem, h30, h30', h30'', p37, q38, g40]
          refine hK35 _ ?_
          refine AW_seq fun K41 hK41 => ?_
          obtain ⟨x10, e42, hM⟩ := bind_some hM
          refine AW_region ?_
          simp (maxSteps := 10000000) [go_sem, h30, h30', h30'', p37, q38, g40]
          refine by_ctr false (i_within_ctr x9.at_ 0 (IntKind.i64.wrap (a1.length - 1)) x10 e42) (by simp (maxSteps := 10000000) [go_sem, h30, h30', h30'', p37, q38, g40]) (by simp) ?_
          simp (maxSteps := 10000000) [go_sem, h30, h30', h30'', p37, q38, g40]
          refine hK41 _ ?_
          refine AW_cond (b := x10) (by simp (maxSteps := 10000000) [go_sem, h30, h30', h30'', p37, q38, g40]) (fun h43 => ?_) (fun h43 => ?_)
          · rw [if_pos h43] at hM
            have h43' := h43; try simp at h43'
            obtain ⟨x11, e44, hM⟩ := bind_some hM
            obtain ⟨p45, q46, l47, g48⟩ := at_spec e44
            refine AW_region ?_
            simp (maxSteps := 10000000) [go_sem, h30, h30', h30'', p37, q38, g40, h43, h43', p45, q46, g48, l47]
            obtain rfl := Option.some.inj hM
            exact hK34 (x6.set x9.at_.toNat x9.line) _ rfl (Lift.into (by constructor <;> simp [go_sem, h30, h30', h30'', p37, q38, g40, h43, h43', p45, q46, g48, l47]))
          · rw [if_neg (ne_true h43)] at hM
            have h43' := h43; try simp at h43'
            refine AW_skip ?_
            obtain rfl := Option.some.inj hM
            exact hK34 x6 _ rfl (Lift.into (by constructor <;> simp [go_sem, h30, h30', h30'', p37, q38, g40, h43, h43']))
        · rintro x8 rfl
          have hM := hR32
          try dsimp only at hM
          refine AW_region ?_
          simp (maxSteps := 10000000) [go_sem, h30, h30', h30'']
          exact hL27 (x8, (IntKind.i64.wrap (x7 + 1))) _ hM (Lift.into (by constructor <;> simp [go_sem, h30, h30', h30'']))
      · rw [if_neg (ne_true h30)] at hM
        have h30' := h30; try simp at h30'
        have h30'' : ¬ (x7 < (a1.changes.length : Int)) := by first | (have := h30; simp only [decide_eq_true_eq, decide_eq_false_iff_not, Bool.not_eq_true', Bool.not_eq_false', Bool.not_eq_true, Bool.not_eq_false] at this; omega) | (have := h30; simp at this; omega)
        refine AW_exit ?_
        obtain rfl := Option.some.inj hM
        exact hK25 x6 _ rfl (Lift.into (by constructor <;> simp [go_sem, h30, h30', h30'']))
    · rintro x5 rfl
      have hM := hR23
      try dsimp only at hM
      refine AW_seq fun K49 hK49 => ?_
      refine AW_region ?_
      simp (maxSteps := 10000000) [go_sem, h5, h5', s14, s15, s16, s20, s21]
      refine hK49 _ ?_
      obtain rfl := Option.some.inj hM
      refine AW_ret ?_
      simp (maxSteps := 10000000) [go_sem, h5, h5', s14, s15, s16, s20, s21]
end Go.Proofs.Ytmiboaogfjgkjaa
