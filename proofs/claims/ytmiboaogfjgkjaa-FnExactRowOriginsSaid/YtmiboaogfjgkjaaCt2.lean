/- Contracts of the program's functions: where the mirrored function answers, the program's function returns this answer. Written by a program of mine. -/
import Derived.Test.YtmiboaogfjgkjaaWn
import Derived.Test.YtmiboaogfjgkjaaMd2
import Derived.Test.YtmiboaogfjgkjaaCt0
import Derived.Test.YtmiboaogfjgkjaaCt1
set_option linter.unusedSimpArgs false
set_option linter.unusedVariables false
namespace Go.Proofs.Ytmiboaogfjgkjaa
open Go.RowKit Am

set_option maxHeartbeats 4000000 in
set_option maxRecDepth 100000 in
theorem s_RowOrigins_ctr (k : Nat) (a0 : TNotebook) (a1 : TRun) (a2 : Int) (a3 : Int) (r : List TOrigin) (hM : s_RowOrigins k a0 a1 a2 a3 = some r) : Ctr Try.prog 20 [.agg (TNotebook.c a0), .agg (TRun.c a1), .one (.int .i64 a2), .one (.int .i64 a3)] true [.one (.sl (r.map TOrigin.c))] := by
  unfold s_RowOrigins at hM
  refine Ctr.of_walk (by kernel_rfl) Try.func20 rfl Try.ntmps20 Try.results20 (by simp) ?_; intro N w0 hbad
  refine AW_seq fun K1 hK1 => ?_
  refine AW_region ?_
  simp (maxSteps := 10000000) [go_sem]
  refine hK1 _ ?_
  refine AW_seq fun K2 hK2 => ?_
  obtain ⟨x1, e3, hM⟩ := bind_some hM
  refine AW_region ?_
  simp (maxSteps := 10000000) [go_sem]
  refine by_ctr false (s_CellIndex_ctr k a0 a2 x1 e3) (by simp (maxSteps := 10000000) [go_sem]) (by simp) ?_
  simp (maxSteps := 10000000) [go_sem]
  refine hK2 _ ?_
  refine AW_seq fun K4 hK4 => ?_
  obtain ⟨e5, hU7, hR6⟩ := bind_some hM; clear hM
  refine AW_mid (ι := Bool) (fun i => ⟨48, [(3, .one (.l (.int .i64 a3))), (5, .one (.box 5 0)), (9, .one (.l (.int .i64 x1))), (34, .one (.l (.bool i)))], [(5, [.l (.sl (a1.values.map TValue.c)), .l (.sl (a1.tapes.map TTape.c)), .l (.int .i64 a1.steps)])], []⟩) (fun i => i = e5) ?_ ?_
  · intro K8 hK8
    have hM := hU7; clear hU7
    by_cases h9 : (decide (x1 < 0)) = true
    · rw [if_pos h9] at hM
      have h9' := h9; try simp at h9'
      have h9'' : ¬ (0 ≤ x1) := by first | (have := h9; simp only [decide_eq_true_eq, decide_eq_false_iff_not, Bool.not_eq_true', Bool.not_eq_false', Bool.not_eq_true, Bool.not_eq_false] at this; omega) | (have := h9; simp at this; omega)
      refine AW_region ?_
      simp (maxSteps := 10000000) [go_sem, h9, h9', h9'']
      obtain rfl := Option.some.inj hM
      exact hK8 true _ rfl (Lift.into (by constructor <;> simp [go_sem, h9, h9', h9'']))
    · rw [if_neg h9] at hM
      have h9 := Bool.eq_false_iff.2 h9
      have h9' := h9; try simp at h9'
      have h9'' : ¬ (x1 < 0) := by first | (have := h9; simp only [decide_eq_true_eq, decide_eq_false_iff_not, Bool.not_eq_true', Bool.not_eq_false', Bool.not_eq_true, Bool.not_eq_false] at this; omega) | (have := h9; simp at this; omega)
      by_cases h10 : (decide ((a1.values.length : Int) ≤ x1)) = true
      · rw [if_pos h10] at hM
        have h10' := h10; try simp at h10'
        have h10'' : ¬ (x1 < (a1.values.length : Int)) := by first | (have := h10; simp only [decide_eq_true_eq, decide_eq_false_iff_not, Bool.not_eq_true', Bool.not_eq_false', Bool.not_eq_true, Bool.not_eq_false] at this; omega) | (have := h10; simp at this; omega)
        refine AW_region ?_
        simp (maxSteps := 10000000) [go_sem, h9, h9', h9'', h10, h10', h10'']
        obtain rfl := Option.some.inj hM
        exact hK8 true _ rfl (Lift.into (by constructor <;> simp [go_sem, h9, h9', h9'', h10, h10', h10'']))
      · rw [if_neg h10] at hM
        have h10 := Bool.eq_false_iff.2 h10
        have h10' := h10; try simp at h10'
        have h10'' : ¬ ((a1.values.length : Int) ≤ x1) := by first | (have := h10; simp only [decide_eq_true_eq, decide_eq_false_iff_not, Bool.not_eq_true', Bool.not_eq_false', Bool.not_eq_true, Bool.not_eq_false] at this; omega) | (have := h10; simp at this; omega)
        obtain ⟨x3, e11, hM⟩ := bind_some hM
        obtain ⟨p12, q13, l14, g15⟩ := at_spec e11
        obtain ⟨x4, e16, hM⟩ := bind_some hM
        refine AW_region ?_
        simp (maxSteps := 10000000) [go_sem, h9, h9', h9'', h10, h10', h10'', p12, q13, g15]
        refine by_ctr false (s_l1In_ctr a3 0 (IntKind.i64.wrap ((x3.rows.length : Int) - 1)) x4 e16) (by simp (maxSteps := 10000000) [go_sem, h9, h9', h9'', h10, h10', h10'', p12, q13, g15]) (by simp) ?_
        simp (maxSteps := 10000000) [go_sem, h9, h9', h9'', h10, h10', h10'', p12, q13, g15]
        obtain rfl := Option.some.inj hM
        exact hK8 (!x4) _ rfl (Lift.into (by constructor <;> simp [go_sem, h9, h9', h9'', h10, h10', h10'', p12, q13, g15]))
  · rintro x2 rfl
    have hM := hR6
    try dsimp only at hM
    refine AW_cond (b := x2) (by simp (maxSteps := 10000000) [go_sem]) (fun h17 => ?_) (fun h17 => ?_)
    · rw [if_pos h17] at hM
      have h17' := h17; try simp at h17'
      refine AW_seq fun K18 hK18 => ?_
      refine AW_region ?_
      simp (maxSteps := 10000000) [go_sem, h17, h17']
      refine hK18 _ ?_
      obtain rfl := Option.some.inj hM
      refine AW_ret ?_
      simp (maxSteps := 10000000) [go_sem, h17, h17']
    · rw [if_neg (ne_true h17)] at hM
      have h17' := h17; try simp at h17'
      refine AW_skip ?_
      refine hK4 _ ?_
      refine AW_seq fun K19 hK19 => ?_
      obtain ⟨x5, e20, hM⟩ := bind_some hM
      obtain ⟨p21, q22, l23, g24⟩ := at_spec e20
      obtain ⟨x6, e25, hM⟩ := bind_some hM
      obtain ⟨p26, q27, l28, g29⟩ := at_spec e25
      obtain ⟨x7, e30, hM⟩ := bind_some hM
      obtain ⟨c31, s32, s33⟩ := app_spec e30
      replace c31 := c31.symm; subst c31
      try simp at s32
      try simp at s33
      refine AW_region ?_
      simp (maxSteps := 10000000) [go_sem, h17, h17', p21, q22, g24, p26, q27, g29, s32, s33]
      refine hK19 _ ?_
      obtain rfl := Option.some.inj hM
      refine AW_ret ?_
      simp (maxSteps := 10000000) [go_sem, h17, h17', p21, q22, g24, p26, q27, g29, s32, s33]
set_option maxHeartbeats 4000000 in
set_option maxRecDepth 100000 in
theorem i_rowOf_ctr (k : Nat) (a0 : TNotebook) (a1 : TRun) (a2 : Int) (a3 : Int) (r : TRow × Bool) (hM : i_rowOf k a0 a1 a2 a3 = some r) : Ctr Try.prog 80 [.agg (TNotebook.c a0), .agg (TRun.c a1), .one (.int .i64 a2), .one (.int .i64 a3)] false [.agg (TRow.c r.1), .one (.bool r.2)] := by
  unfold i_rowOf at hM
  refine Ctr.of_walk (by kernel_rfl) Try.func80 rfl Try.ntmps80 Try.results80 (by simp) ?_; intro N w0 hbad
  refine AW_seq fun K1 hK1 => ?_
  refine AW_region ?_
  simp (maxSteps := 10000000) [go_sem]
  refine hK1 _ ?_
  refine AW_seq fun K2 hK2 => ?_
  obtain ⟨x1, e3, hM⟩ := bind_some hM
  refine AW_region ?_
  simp (maxSteps := 10000000) [go_sem]
  refine by_ctr false (i_CellIndex_ctr k a0 a2 x1 e3) (by simp (maxSteps := 10000000) [go_sem]) (by simp) ?_
  simp (maxSteps := 10000000) [go_sem]
  refine hK2 _ ?_
  refine AW_seq fun K4 hK4 => ?_
  obtain ⟨e5, hU7, hR6⟩ := bind_some hM; clear hM
  refine AW_mid (ι := Bool) (fun i => ⟨48, [(3, .one (.l (.int .i64 a3))), (5, .one (.box 5 0)), (8, .one (.box 8 0)), (10, .one (.l (.int .i64 x1))), (37, .one (.l (.bool i)))], [(5, [.l (.sl (a1.values.map TValue.c)), .l (.sl (a1.tapes.map TTape.c)), .l (.int .i64 a1.steps)]), (8, [.nil, .nil])], []⟩) (fun i => i = e5) ?_ ?_
  · intro K8 hK8
    have hM := hU7; clear hU7
    by_cases h9 : (decide (x1 < 0)) = true
    · rw [if_pos h9] at hM
      have h9' := h9; try simp at h9'
      have h9'' : ¬ (0 ≤ x1) := by first | (have := h9; simp only [decide_eq_true_eq, decide_eq_false_iff_not, Bool.not_eq_true', Bool.not_eq_false', Bool.not_eq_true, Bool.not_eq_false] at this; omega) | (have := h9; simp at this; omega)
      refine AW_region ?_
      simp (maxSteps := 10000000) [go_sem, h9, h9', h9'']
      obtain rfl := Option.some.inj hM
      exact hK8 true _ rfl (Lift.into (by constructor <;> simp [go_sem, h9, h9', h9'']))
    · rw [if_neg h9] at hM
      have h9 := Bool.eq_false_iff.2 h9
      have h9' := h9; try simp at h9'
      have h9'' : ¬ (x1 < 0) := by first | (have := h9; simp only [decide_eq_true_eq, decide_eq_false_iff_not, Bool.not_eq_true', Bool.not_eq_false', Bool.not_eq_true, Bool.not_eq_false] at this; omega) | (have := h9; simp at this; omega)
      by_cases h10 : (decide ((a1.values.length : Int) ≤ x1)) = true
      · rw [if_pos h10] at hM
        have h10' := h10; try simp at h10'
        have h10'' : ¬ (x1 < (a1.values.length : Int)) := by first | (have := h10; simp only [decide_eq_true_eq, decide_eq_false_iff_not, Bool.not_eq_true', Bool.not_eq_false', Bool.not_eq_true, Bool.not_eq_false] at this; omega) | (have := h10; simp at this; omega)
        refine AW_region ?_
        simp (maxSteps := 10000000) [go_sem, h9, h9', h9'', h10, h10', h10'']
        obtain rfl := Option.some.inj hM
        exact hK8 true _ rfl (Lift.into (by constructor <;> simp [go_sem, h9, h9', h9'', h10, h10', h10'']))
      · rw [if_neg h10] at hM
        have h10 := Bool.eq_false_iff.2 h10
        have h10' := h10; try simp at h10'
        have h10'' : ¬ ((a1.values.length : Int) ≤ x1) := by first | (have := h10; simp only [decide_eq_true_eq, decide_eq_false_iff_not, Bool.not_eq_true', Bool.not_eq_false', Bool.not_eq_true, Bool.not_eq_false] at this; omega) | (have := h10; simp at this; omega)
        by_cases h11 : (decide (a3 < 0)) = true
        · rw [if_pos h11] at hM
          have h11' := h11; try simp at h11'
          have h11'' : ¬ (0 ≤ a3) := by first | (have := h11; simp only [decide_eq_true_eq, decide_eq_false_iff_not, Bool.not_eq_true', Bool.not_eq_false', Bool.not_eq_true, Bool.not_eq_false] at this; omega) | (have := h11; simp at this; omega)
          refine AW_region ?_
          simp (maxSteps := 10000000) [go_sem, h9, h9', h9'', h10, h10', h10'', h11, h11', h11'']
          obtain rfl := Option.some.inj hM
          exact hK8 true _ rfl (Lift.into (by constructor <;> simp [go_sem, h9, h9', h9'', h10, h10', h10'', h11, h11', h11'']))
        · rw [if_neg h11] at hM
          have h11 := Bool.eq_false_iff.2 h11
          have h11' := h11; try simp at h11'
          have h11'' : ¬ (a3 < 0) := by first | (have := h11; simp only [decide_eq_true_eq, decide_eq_false_iff_not, Bool.not_eq_true', Bool.not_eq_false', Bool.not_eq_true, Bool.not_eq_false] at this; omega) | (have := h11; simp at this; omega)
          obtain ⟨x3, e12, hM⟩ := bind_some hM
          obtain ⟨p13, q14, l15, g16⟩ := at_spec e12
          refine AW_region ?_
          simp (maxSteps := 10000000) [go_sem, h9, h9', h9'', h10, h10', h10'', h11, h11', h11'', p13, q14, g16]
          obtain rfl := Option.some.inj hM
          exact hK8 (decide ((x3.rows.length : Int) ≤ a3)) _ rfl (Lift.into (by constructor <;> simp [go_sem, h9, h9', h9'', h10, h10', h10'', h11, h11', h11'', p13, q14, g16]))
  · rintro x2 rfl
    have hM := hR6
    try dsimp only at hM
    refine AW_cond (b := x2) (by simp (maxSteps := 10000000) [go_sem]) (fun h17 => ?_) (fun h17 => ?_)
    · rw [if_pos h17] at hM
      have h17' := h17; try simp at h17'
      refine AW_seq fun K18 hK18 => ?_
      refine AW_region ?_
      simp (maxSteps := 10000000) [go_sem, h17, h17']
      refine hK18 _ ?_
      obtain rfl := Option.some.inj hM
      refine AW_ret ?_
      simp (maxSteps := 10000000) [go_sem, h17, h17']
    · rw [if_neg (ne_true h17)] at hM
      have h17' := h17; try simp at h17'
      refine AW_skip ?_
      refine hK4 _ ?_
      refine AW_seq fun K19 hK19 => ?_
      obtain ⟨x4, e20, hM⟩ := bind_some hM
      obtain ⟨p21, q22, l23, g24⟩ := at_spec e20
      obtain ⟨x5, e25, hM⟩ := bind_some hM
      obtain ⟨p26, q27, l28, g29⟩ := at_spec e25
      refine AW_region ?_
      simp (maxSteps := 10000000) [go_sem, h17, h17', p21, q22, g24, p26, q27, g29]
      refine hK19 _ ?_
      obtain rfl := Option.some.inj hM
      refine AW_ret ?_
      simp (maxSteps := 10000000) [go_sem, h17, h17', p21, q22, g24, p26, q27, g29]
set_option maxHeartbeats 4000000 in
set_option maxRecDepth 100000 in
theorem i_RowOrigins_ctr (k : Nat) (a0 : TNotebook) (a1 : TRun) (a2 : Int) (a3 : Int) (r : List TOrigin) (hM : i_RowOrigins k a0 a1 a2 a3 = some r) : Ctr Try.prog 23 [.agg (TNotebook.c a0), .agg (TRun.c a1), .one (.int .i64 a2), .one (.int .i64 a3)] true [.one (.sl (r.map TOrigin.c))] := by
  unfold i_RowOrigins at hM
  refine Ctr.of_walk (by kernel_rfl) Try.func23 rfl Try.ntmps23 Try.results23 (by simp) ?_; intro N w0 hbad
  refine AW_seq fun K1 hK1 => ?_
  refine AW_region ?_
  simp (maxSteps := 10000000) [go_sem]
  refine hK1 _ ?_
  refine AW_seq fun K2 hK2 => ?_
  obtain ⟨x1, e3, hM⟩ := bind_some hM
  refine AW_region ?_
  simp (maxSteps := 10000000) [go_sem]
  refine by_ctr false (i_rowOf_ctr k a0 a1 a2 a3 x1 e3) (by simp (maxSteps := 10000000) [go_sem]) (by simp) ?_
  simp (maxSteps := 10000000) [go_sem]
  refine hK2 _ ?_
  refine AW_seq fun K4 hK4 => ?_
  refine AW_seq fun K5 hK5 => ?_
  refine AW_region ?_
  simp (maxSteps := 10000000) [go_sem]
  refine hK5 _ ?_
  refine AW_cond (b := (!x1.2)) (by simp (maxSteps := 10000000) [go_sem]) (fun h6 => ?_) (fun h6 => ?_)
  · rw [if_pos h6] at hM
    have h6' := h6; try simp at h6'
    refine AW_seq fun K7 hK7 => ?_
    refine AW_region ?_
    simp (maxSteps := 10000000) [go_sem, h6, h6']
    refine hK7 _ ?_
    obtain rfl := Option.some.inj hM
    refine AW_ret ?_
    simp (maxSteps := 10000000) [go_sem, h6, h6']
  · rw [if_neg (ne_true h6)] at hM
    have h6' := h6; try simp at h6'
    refine AW_skip ?_
    refine hK4 _ ?_
    refine AW_seq fun K8 hK8 => ?_
    obtain ⟨x2, e9, hM⟩ := bind_some hM
    obtain ⟨c10, s11, s12⟩ := app_spec e9
    replace c10 := c10.symm; subst c10
    try simp at s11
    try simp at s12
    refine AW_region ?_
    simp (maxSteps := 10000000) [go_sem, h6, h6', s11, s12]
    refine hK8 _ ?_
    obtain rfl := Option.some.inj hM
    refine AW_ret ?_
    simp (maxSteps := 10000000) [go_sem, h6, h6', s11, s12]
end Go.Proofs.Ytmiboaogfjgkjaa
