/- Contracts of the program's functions: where the mirrored function answers, the program's function returns this answer. Written by a program of mine. -/
import Derived.Test.YtmiboaogfjgkjaaWn
import Derived.Test.YtmiboaogfjgkjaaMd0
set_option linter.unusedSimpArgs false
set_option linter.unusedVariables false
namespace Go.Proofs.Ytmiboaogfjgkjaa
open Go.RowKit Am

set_option maxHeartbeats 4000000 in
set_option maxRecDepth 100000 in
theorem s_CellIndex_ctr (k : Nat) (a0 : TNotebook) (a1 : Int) (r : Int) (hM : s_CellIndex k a0 a1 = some r) : Ctr Try.prog 76 [.agg (TNotebook.c a0), .one (.int .i64 a1)] true [.one (.int .i64 r)] := by
  unfold s_CellIndex at hM
  refine Ctr.of_walk (by kernel_rfl) Try.func76 rfl Try.ntmps76 Try.results76 (by simp) ?_; intro N w0 hbad
  refine AW_seq fun K1 hK1 => ?_
  refine AW_region ?_
  simp (maxSteps := 10000000) [go_sem]
  refine hK1 _ ?_
  obtain ⟨e2, hU4, hR3⟩ := bind_some hM; clear hM
  refine AW_mid (ι := Unit) (fun i => ⟨22, [], [], []⟩) (fun i => (.inl i) = e2) ?_ ?_
  · intro K5 hK5
    have hM := hU4; clear hU4
    refine AW_seq fun K6 hK6 => ?_
    refine AW_region ?_
    simp (maxSteps := 10000000) [go_sem]
    refine hK6 _ ?_
    refine AW_block ?_
    refine AW_go (ι := Int) (fun i => ⟨22, [(1, .one (.l (.int .i64 a1))), (2, .one (.box 2 0)), (5, .one (.l (.int .i64 i)))], [(2, [.l (.sl (a0.cells.map TCell.c))])], []⟩) (fun n i => s_CellIndex_u1 a0 a1 n i = some e2) k 0 hM (Lift.into (by constructor <;> simp [go_sem])) (fun _ h => by simp [s_CellIndex_u1] at h) ?_
    intro KL7 n x1 hL7 hM
    have hM : s_CellIndex_u1 a0 a1 (n + 1) x1 = some e2 := hM; rw [s_CellIndex_u1] at hM
    refine AW_seq fun K8 hK8 => ?_
    refine AW_seq fun K9 hK9 => ?_
    refine AW_region ?_
    simp (maxSteps := 10000000) [go_sem]
    refine hK9 _ ?_
    refine AW_cond (b := (decide (x1 < (a0.cells.length : Int)))) (by simp (maxSteps := 10000000) [go_sem]) (fun h10 => ?_) (fun h10 => ?_)
    · rw [if_pos h10] at hM
      have h10' := h10; try simp at h10'
      have h10'' : ¬ ((a0.cells.length : Int) ≤ x1) := by first | (have := h10; simp only [decide_eq_true_eq, decide_eq_false_iff_not, Bool.not_eq_true', Bool.not_eq_false', Bool.not_eq_true, Bool.not_eq_false] at this; omega) | (have := h10; simp at this; omega)
      refine AW_skip ?_
      refine hK8 _ ?_
      refine AW_seq fun K11 hK11 => ?_
      refine AW_block ?_
      refine AW_seq fun K12 hK12 => ?_
      obtain ⟨x2, e13, hM⟩ := bind_some hM
      obtain ⟨p14, q15, l16, g17⟩ := at_spec e13
      refine AW_region ?_
      simp (maxSteps := 10000000) [go_sem, h10, h10', h10'', p14, q15, g17]
      refine hK12 _ ?_
      refine AW_cond (b := (decide (x2.id = a1))) (by simp (maxSteps := 10000000) [go_sem, h10, h10', h10'', p14, q15, g17]) (fun h18 => ?_) (fun h18 => ?_)
      · rw [if_pos h18] at hM
        have h18' := h18; try simp at h18'
        refine AW_seq fun K19 hK19 => ?_
        refine AW_region ?_
        simp (maxSteps := 10000000) [go_sem, h10, h10', h10'', p14, q15, g17, h18, h18']
        refine hK19 _ ?_
        obtain rfl := Option.some.inj hM
        have hM := hR3; dsimp only at hM
        obtain rfl := Option.some.inj hM
        refine AW_ret ?_
        simp (maxSteps := 10000000) [go_sem, h10, h10', h10'', p14, q15, g17, h18, h18']
      · rw [if_neg (ne_true h18)] at hM
        have h18' := h18; try simp at h18'
        refine AW_skip ?_
        refine hK11 _ ?_
        refine AW_region ?_
        simp (maxSteps := 10000000) [go_sem, h10, h10', h10'', p14, q15, g17, h18, h18']
        exact hL7 (IntKind.i64.wrap (x1 + 1)) _ hM (Lift.into (by constructor <;> simp [go_sem, h10, h10', h10'', p14, q15, g17, h18, h18']))
    · rw [if_neg (ne_true h10)] at hM
      have h10' := h10; try simp at h10'
      have h10'' : ¬ (x1 < (a0.cells.length : Int)) := by first | (have := h10; simp only [decide_eq_true_eq, decide_eq_false_iff_not, Bool.not_eq_true', Bool.not_eq_false', Bool.not_eq_true, Bool.not_eq_false] at this; omega) | (have := h10; simp at this; omega)
      refine AW_exit ?_
      obtain rfl := Option.some.inj hM
      exact hK5 () _ rfl (Lift.into (by constructor <;> simp [go_sem, h10, h10', h10'']))
  · rintro _ rfl
    have hM := hR3
    dsimp only at hM
    refine AW_seq fun K20 hK20 => ?_
    refine AW_region ?_
    simp (maxSteps := 10000000) [go_sem]
    refine hK20 _ ?_
    obtain rfl := Option.some.inj hM
    refine AW_ret ?_
    simp (maxSteps := 10000000) [go_sem]
set_option maxHeartbeats 4000000 in
set_option maxRecDepth 100000 in
theorem s_ChangedCells_ctr (k : Nat) (a0 : TNotebook) (a1 : TNotebook) (r : List Int) (hM : s_ChangedCells k a0 a1 = some r) : Ctr Try.prog 31 [.agg (TNotebook.c a0), .agg (TNotebook.c a1)] true [.one (.sl (r.map iC))] := by
  unfold s_ChangedCells at hM
  refine Ctr.of_walk (by kernel_rfl) Try.func31 rfl Try.ntmps31 Try.results31 (by simp) ?_; intro N w0 hbad
  refine AW_seq fun K1 hK1 => ?_
  refine AW_region ?_
  simp (maxSteps := 10000000) [go_sem]
  refine hK1 _ ?_
  refine AW_seq fun K2 hK2 => ?_
  refine AW_region ?_
  simp (maxSteps := 10000000) [go_sem]
  refine hK2 _ ?_
  obtain ⟨e3, hU5, hR4⟩ := bind_some hM; clear hM
  refine AW_mid (ι := List Int) (fun i => ⟨49, [(5, .one (.own 512 i.length))], [], [(512, some ⟨true, i.map iC⟩)]⟩) (fun i => i = e3) ?_ ?_
  · intro K6 hK6
    have hM := hU5; clear hU5
    refine AW_seq fun K7 hK7 => ?_
    refine AW_region ?_
    simp (maxSteps := 10000000) [go_sem]
    refine hK7 _ ?_
    refine AW_block ?_
    refine AW_go (ι := (List Int) × Int) (fun i => ⟨49, [(2, .one (.box 2 0)), (3, .one (.box 3 0)), (5, .one (.own 512 i.1.length)), (6, .one (.l (.int .i64 i.2)))], [(2, [.l (.sl (a0.cells.map TCell.c))]), (3, [.l (.sl (a1.cells.map TCell.c))])], [(512, some ⟨true, i.1.map iC⟩)]⟩) (fun n i => s_ChangedCells_u1 k a0 a1 n i.1 i.2 = some e3) k (([] : List Int), 0) hM (Lift.into (by constructor <;> simp [go_sem])) (fun _ h => by simp [s_ChangedCells_u1] at h) ?_
    intro KL8 n ⟨x2, x3⟩ hL8 hM
    have hM : s_ChangedCells_u1 k a0 a1 (n + 1) x2 x3 = some e3 := hM; rw [s_ChangedCells_u1] at hM
    refine AW_seq fun K9 hK9 => ?_
    refine AW_seq fun K10 hK10 => ?_
    refine AW_region ?_
    simp (maxSteps := 10000000) [go_sem]
    refine hK10 _ ?_
    refine AW_cond (b := (decide (x3 < (a1.cells.length : Int)))) (by simp (maxSteps := 10000000) [go_sem]) (fun h11 => ?_) (fun h11 => ?_)
    · rw [if_pos h11] at hM
      have h11' := h11; try simp at h11'
      have h11'' : ¬ ((a1.cells.length : Int) ≤ x3) := by first | (have := h11; simp only [decide_eq_true_eq, decide_eq_false_iff_not, Bool.not_eq_true', Bool.not_eq_false', Bool.not_eq_true, Bool.not_eq_false] at this; omega) | (have := h11; simp at this; omega)
      refine AW_skip ?_
      refine hK9 _ ?_
      obtain ⟨e12, hU14, hR13⟩ := bind_some hM; clear hM
      refine AW_mid (ι := List Int) (fun i => ⟨49, [(2, .one (.box 2 0)), (3, .one (.box 3 0)), (5, .one (.own 512 i.length)), (6, .one (.l (.int .i64 x3)))], [(2, [.l (.sl (a0.cells.map TCell.c))]), (3, [.l (.sl (a1.cells.map TCell.c))])], [(512, some ⟨true, i.map iC⟩)]⟩) (fun i => i = e12) ?_ ?_
      · intro K15 hK15
        have hM := hU14; clear hU14
        refine AW_block ?_
        refine AW_seq fun K16 hK16 => ?_
        obtain ⟨x5, e17, hM⟩ := bind_some hM
        obtain ⟨p18, q19, l20, g21⟩ := at_spec e17
        obtain ⟨x6, e22, hM⟩ := bind_some hM
        refine AW_quick [[], [], [1], [], [1, 2, 3], [1, 2, 3, 4], [1, 2, 3, 4, 5], [0, 1, 2, 3, 4, 5, 6], [0, 1, 2, 3, 4, 5, 6, 7]] 7 mixed (by kernel_rfl) (by kernel_rfl) ?_
        simp (maxSteps := 10000000) [go_sem, h11, h11', h11'', p18, q19, g21]
        refine by_ctr false (s_CellIndex_ctr k a0 x5.id x6 e22) (by simp (maxSteps := 10000000) [go_sem, h11, h11', h11'', p18, q19, g21]) (by simp) ?_
        simp (maxSteps := 10000000) [go_sem, h11, h11', h11'', p18, q19, g21]
        refine hK16 _ ?_
        obtain ⟨e23, hU25, hR24⟩ := bind_some hM; clear hM
        refine AW_mid (ι := Bool) (fun i => ⟨49, [(2, .one (.box 2 0)), (3, .one (.box 3 0)), (5, .one (.own 512 x2.length)), (6, .one (.l (.int .i64 x3))), (38, .one (.l (.bool i)))], [(2, [.l (.sl (a0.cells.map TCell.c))]), (3, [.l (.sl (a1.cells.map TCell.c))])], [(512, some ⟨true, x2.map iC⟩)]⟩) (fun i => i = e23) ?_ ?_
        · intro K26 hK26
          have hM := hU25; clear hU25
          by_cases h27 : (decide (x6 < 0)) = true
          · rw [if_pos h27] at hM
            have h27' := h27; try simp at h27'
            have h27'' : ¬ (0 ≤ x6) := by first | (have := h27; simp only [decide_eq_true_eq, decide_eq_false_iff_not, Bool.not_eq_true', Bool.not_eq_false', Bool.not_eq_true, Bool.not_eq_false] at this; omega) | (have := h27; simp at this; omega)
            refine AW_quick [[], [0], [0, 1], [0, 1, 2], [0, 1, 2, 3], [0, 1, 2], [0, 1, 2, 3, 4, 5], [0, 1, 2, 3, 4, 5, 6], [0, 1, 2], [0, 1, 2, 8], [0, 1, 2], [0, 1, 2, 8, 9, 10], [0, 1, 2, 8, 9, 10, 11], [0, 1, 2, 3, 4, 5, 6, 7, 8, 9, 10, 11, 12], [0, 1, 2, 3, 4, 5, 6, 7, 8, 9, 10, 11, 12, 13]] 13 mixed (by kernel_rfl) (by kernel_rfl) ?_
            simp (maxSteps := 10000000) [go_sem, h11, h11', h11'', p18, q19, g21, h27, h27', h27'']
            obtain rfl := Option.some.inj hM
            exact hK26 true _ rfl (Lift.into (by constructor <;> simp [go_sem, h11, h11', h11'', p18, q19, g21, h27, h27', h27'']))
          · rw [if_neg h27] at hM
            have h27 := Bool.eq_false_iff.2 h27
            have h27' := h27; try simp at h27'
            have h27'' : ¬ (x6 < 0) := by first | (have := h27; simp only [decide_eq_true_eq, decide_eq_false_iff_not, Bool.not_eq_true', Bool.not_eq_false', Bool.not_eq_true, Bool.not_eq_false] at this; omega) | (have := h27; simp at this; omega)
            obtain ⟨x8, e28, hM⟩ := bind_some hM
            obtain ⟨p29, q30, l31, g32⟩ := at_spec e28
            refine AW_quick [[], [0], [0, 1], [0, 1, 2], [0, 1, 2, 3], [0, 1, 2], [0, 1, 2, 3, 4, 5], [0, 1, 2, 3, 4, 5, 6], [0, 1, 2], [0, 1, 2, 8], [0, 1, 2], [0, 1, 2, 8, 9, 10], [0, 1, 2, 8, 9, 10, 11], [0, 1, 2, 3, 4, 5, 6, 7, 8, 9, 10, 11, 12], [0, 1, 2, 3, 4, 5, 6, 7, 8, 9, 10, 11, 12, 13]] 13 mixed (by kernel_rfl) (by kernel_rfl) ?_
            simp (maxSteps := 10000000) [go_sem, h11, h11', h11'', p18, q19, g21, h27, h27', h27'', p29, q30, g32]
            obtain rfl := Option.some.inj hM
            exact hK26 (!(decide (x8.id = x5.id) && (decide (x8.version = x5.version) && (decide (x8.kind = x5.kind) && (decide (x8.name = x5.name) && (decide (x8.code = x5.code) && decide (x8.n = x5.n))))))) _ rfl (Lift.into (by constructor <;> simp [go_sem, h11, h11', h11'', p18, q19, g21, h27, h27', h27'', p29, q30, g32]))
        · rintro x7 rfl
          have hM := hR24
          try dsimp only at hM
          refine AW_cond (b := x7) (by simp (maxSteps := 10000000) [go_sem, h11, h11', h11'', p18, q19, g21]) (fun h33 => ?_) (fun h33 => ?_)
          · rw [if_pos h33] at hM
            have h33' := h33; try simp at h33'
            obtain ⟨x9, e34, hM⟩ := bind_some hM
            obtain ⟨c35, s36, s37⟩ := app_spec e34
            replace c35 := c35.symm; subst c35
            try simp at s36
            try simp at s37
            refine AW_region ?_
            simp (maxSteps := 10000000) [go_sem, h11, h11', h11'', p18, q19, g21, h33, h33', s36, s37]
            obtain rfl := Option.some.inj hM
            exact hK15 (x2 ++ [x5.id]) _ rfl (Lift.into (by constructor <;> simp [go_sem, h11, h11', h11'', p18, q19, g21, h33, h33', s36, s37]))
          · rw [if_neg (ne_true h33)] at hM
            have h33' := h33; try simp at h33'
            refine AW_skip ?_
            obtain rfl := Option.some.inj hM
            exact hK15 x2 _ rfl (Lift.into (by constructor <;> simp [go_sem, h11, h11', h11'', p18, q19, g21, h33, h33']))
      · rintro x4 rfl
        have hM := hR13
        try dsimp only at hM
        refine AW_region ?_
        simp (maxSteps := 10000000) [go_sem, h11, h11', h11'']
        exact hL8 (x4, (IntKind.i64.wrap (x3 + 1))) _ hM (Lift.into (by constructor <;> simp [go_sem, h11, h11', h11'']))
    · rw [if_neg (ne_true h11)] at hM
      have h11' := h11; try simp at h11'
      have h11'' : ¬ (x3 < (a1.cells.length : Int)) := by first | (have := h11; simp only [decide_eq_true_eq, decide_eq_false_iff_not, Bool.not_eq_true', Bool.not_eq_false', Bool.not_eq_true, Bool.not_eq_false] at this; omega) | (have := h11; simp at this; omega)
      refine AW_exit ?_
      obtain rfl := Option.some.inj hM
      exact hK6 x2 _ rfl (Lift.into (by constructor <;> simp [go_sem, h11, h11', h11'']))
  · rintro x1 rfl
    have hM := hR4
    try dsimp only at hM
    refine AW_seq fun K38 hK38 => ?_
    refine AW_region ?_
    simp (maxSteps := 10000000) [go_sem]
    refine hK38 _ ?_
    obtain rfl := Option.some.inj hM
    refine AW_ret ?_
    simp (maxSteps := 10000000) [go_sem]
set_option maxHeartbeats 4000000 in
set_option maxRecDepth 100000 in
theorem i_CellIndex_ctr (k : Nat) (a0 : TNotebook) (a1 : Int) (r : Int) (hM : i_CellIndex k a0 a1 = some r) : Ctr Try.prog 87 [.agg (TNotebook.c a0), .one (.int .i64 a1)] true [.one (.int .i64 r)] := by
  unfold i_CellIndex at hM
  refine Ctr.of_walk (by kernel_rfl) Try.func87 rfl Try.ntmps87 Try.results87 (by simp) ?_; intro N w0 hbad
  refine AW_seq fun K1 hK1 => ?_
  refine AW_region ?_
  simp (maxSteps := 10000000) [go_sem]
  refine hK1 _ ?_
  obtain ⟨e2, hU4, hR3⟩ := bind_some hM; clear hM
  refine AW_mid (ι := Unit) (fun i => ⟨21, [], [], []⟩) (fun i => (.inl i) = e2) ?_ ?_
  · intro K5 hK5
    have hM := hU4; clear hU4
    refine AW_seq fun K6 hK6 => ?_
    refine AW_region ?_
    simp (maxSteps := 10000000) [go_sem]
    refine hK6 _ ?_
    refine AW_block ?_
    refine AW_go (ι := Int) (fun i => ⟨21, [(1, .one (.l (.int .i64 a1))), (8, .one (.l (.sl (a0.cells.map TCell.c)))), (9, .one (.l (.int .i64 (a0.cells.length : Int)))), (10, .one (.l (.int .i64 i)))], [], []⟩) (fun n i => i_CellIndex_u1 a0 a1 n i = some e2) k 0 hM (Lift.into (by constructor <;> simp [go_sem])) (fun _ h => by simp [i_CellIndex_u1] at h) ?_
    intro KL7 n x1 hL7 hM
    have hM : i_CellIndex_u1 a0 a1 (n + 1) x1 = some e2 := hM; rw [i_CellIndex_u1] at hM
    refine AW_seq fun K8 hK8 => ?_
    refine AW_region ?_
    simp (maxSteps := 10000000) [go_sem]
    refine hK8 _ ?_
    refine AW_seq fun K9 hK9 => ?_
    refine AW_cond (b := (decide (x1 < (a0.cells.length : Int)))) (by simp (maxSteps := 10000000) [go_sem]) (fun h10 => ?_) (fun h10 => ?_)
    · rw [if_pos h10] at hM
      have h10' := h10; try simp at h10'
      have h10'' : ¬ ((a0.cells.length : Int) ≤ x1) := by first | (have := h10; simp only [decide_eq_true_eq, decide_eq_false_iff_not, Bool.not_eq_true', Bool.not_eq_false', Bool.not_eq_true, Bool.not_eq_false] at this; omega) | (have := h10; simp at this; omega)
      refine AW_skip ?_
      refine hK9 _ ?_
      refine AW_seq fun K11 hK11 => ?_
      refine AW_block ?_
      refine AW_seq fun K12 hK12 => ?_
      obtain ⟨x2, e13, hM⟩ := bind_some hM
      obtain ⟨p14, q15, l16, g17⟩ := at_spec e13
      refine AW_region ?_
      simp (maxSteps := 10000000) [go_sem, h10, h10', h10'', p14, q15, g17]
      refine hK12 _ ?_
      refine AW_seq fun K18 hK18 => ?_
      refine AW_region ?_
      simp (maxSteps := 10000000) [go_sem, h10, h10', h10'', p14, q15, g17]
      refine hK18 _ ?_
      refine AW_cond (b := (decide (x2.id = a1))) (by simp (maxSteps := 10000000) [go_sem, h10, h10', h10'', p14, q15, g17]) (fun h19 => ?_) (fun h19 => ?_)
      · rw [if_pos h19] at hM
        have h19' := h19; try simp at h19'
        refine AW_seq fun K20 hK20 => ?_
        refine AW_region ?_
        simp (maxSteps := 10000000) [go_sem, h10, h10', h10'', p14, q15, g17, h19, h19']
        refine hK20 _ ?_
        obtain rfl := Option.some.inj hM
        have hM := hR3; dsimp only at hM
        obtain rfl := Option.some.inj hM
        refine AW_ret ?_
        simp (maxSteps := 10000000) [go_sem, h10, h10', h10'', p14, q15, g17, h19, h19']
      · rw [if_neg (ne_true h19)] at hM
        have h19' := h19; try simp at h19'
        refine AW_skip ?_
        refine hK11 _ ?_
        refine AW_region ?_
        simp (maxSteps := 10000000) [go_sem, h10, h10', h10'', p14, q15, g17, h19, h19']
        exact hL7 (IntKind.i64.wrap (x1 + 1)) _ hM (Lift.into (by constructor <;> simp [go_sem, h10, h10', h10'', p14, q15, g17, h19, h19']))
    · rw [if_neg (ne_true h10)] at hM
      have h10' := h10; try simp at h10'
      have h10'' : ¬ (x1 < (a0.cells.length : Int)) := by first | (have := h10; simp only [decide_eq_true_eq, decide_eq_false_iff_not, Bool.not_eq_true', Bool.not_eq_false', Bool.not_eq_true, Bool.not_eq_false] at this; omega) | (have := h10; simp at this; omega)
      refine AW_exit ?_
      obtain rfl := Option.some.inj hM
      exact hK5 () _ rfl (Lift.into (by constructor <;> simp [go_sem, h10, h10', h10'']))
  · rintro _ rfl
    have hM := hR3
    dsimp only at hM
    refine AW_seq fun K21 hK21 => ?_
    refine AW_region ?_
    simp (maxSteps := 10000000) [go_sem]
    refine hK21 _ ?_
    obtain rfl := Option.some.inj hM
    refine AW_ret ?_
    simp (maxSteps := 10000000) [go_sem]
set_option maxHeartbeats 4000000 in
set_option maxRecDepth 100000 in
theorem i_ChangedCells_ctr (k : Nat) (a0 : TNotebook) (a1 : TNotebook) (r : List Int) (hM : i_ChangedCells k a0 a1 = some r) : Ctr Try.prog 32 [.agg (TNotebook.c a0), .agg (TNotebook.c a1)] true [.one (.sl (r.map iC))] := by
  unfold i_ChangedCells at hM
  refine Ctr.of_walk (by kernel_rfl) Try.func32 rfl Try.ntmps32 Try.results32 (by simp) ?_; intro N w0 hbad
  refine AW_seq fun K1 hK1 => ?_
  refine AW_region ?_
  simp (maxSteps := 10000000) [go_sem]
  refine hK1 _ ?_
  refine AW_seq fun K2 hK2 => ?_
  refine AW_region ?_
  simp (maxSteps := 10000000) [go_sem]
  refine hK2 _ ?_
  obtain ⟨e3, hU5, hR4⟩ := bind_some hM; clear hM
  refine AW_mid (ι := List Int) (fun i => ⟨39, [(5, .one (.own 576 i.length))], [], [(576, some ⟨true, i.map iC⟩)]⟩) (fun i => i = e3) ?_ ?_
  · intro K6 hK6
    have hM := hU5; clear hU5
    refine AW_seq fun K7 hK7 => ?_
    refine AW_region ?_
    simp (maxSteps := 10000000) [go_sem]
    refine hK7 _ ?_
    refine AW_block ?_
    refine AW_go (ι := (List Int) × Int) (fun i => ⟨39, [(2, .one (.box 2 0)), (5, .one (.own 576 i.1.length)), (11, .one (.l (.sl (a1.cells.map TCell.c)))), (12, .one (.l (.int .i64 (a1.cells.length : Int)))), (13, .one (.l (.int .i64 i.2)))], [(2, [.l (.sl (a0.cells.map TCell.c))])], [(576, some ⟨true, i.1.map iC⟩)]⟩) (fun n i => i_ChangedCells_u1 k a0 a1 n i.1 i.2 = some e3) k (([] : List Int), 0) hM (Lift.into (by constructor <;> simp [go_sem])) (fun _ h => by simp [i_ChangedCells_u1] at h) ?_
    intro KL8 n ⟨x2, x3⟩ hL8 hM
    have hM : i_ChangedCells_u1 k a0 a1 (n + 1) x2 x3 = some e3 := hM; rw [i_ChangedCells_u1] at hM
    refine AW_seq fun K9 hK9 => ?_
    refine AW_region ?_
    simp (maxSteps := 10000000) [go_sem]
    refine hK9 _ ?_
    refine AW_seq fun K10 hK10 => ?_
    refine AW_cond (b := (decide (x3 < (a1.cells.length : Int)))) (by simp (maxSteps := 10000000) [go_sem]) (fun h11 => ?_) (fun h11 => ?_)
    · rw [if_pos h11] at hM
      have h11' := h11; try simp at h11'
      have h11'' : ¬ ((a1.cells.length : Int) ≤ x3) := by first | (have := h11; simp only [decide_eq_true_eq, decide_eq_false_iff_not, Bool.not_eq_true', Bool.not_eq_false', Bool.not_eq_true, Bool.not_eq_false] at this; omega) | (have := h11; simp at this; omega)
      refine AW_skip ?_
      refine hK10 _ ?_
      obtain ⟨e12, hU14, hR13⟩ := bind_some hM; clear hM
      refine AW_mid (ι := List Int) (fun i => ⟨39, [(2, .one (.box 2 0)), (5, .one (.own 576 i.length)), (11, .one (.l (.sl (a1.cells.map TCell.c)))), (12, .one (.l (.int .i64 (a1.cells.length : Int)))), (13, .one (.l (.int .i64 x3)))], [(2, [.l (.sl (a0.cells.map TCell.c))])], [(576, some ⟨true, i.map iC⟩)]⟩) (fun i => i = e12) ?_ ?_
      · intro K15 hK15
        have hM := hU14; clear hU14
        refine AW_block ?_
        refine AW_seq fun K16 hK16 => ?_
        obtain ⟨x5, e17, hM⟩ := bind_some hM
        obtain ⟨p18, q19, l20, g21⟩ := at_spec e17
        refine AW_region ?_
        simp (maxSteps := 10000000) [go_sem, h11, h11', h11'', p18, q19, g21]
        refine hK16 _ ?_
        refine AW_seq fun K22 hK22 => ?_
        obtain ⟨x6, e23, hM⟩ := bind_some hM
        refine AW_region ?_
        simp (maxSteps := 10000000) [go_sem, h11, h11', h11'', p18, q19, g21]
        refine by_ctr false (i_CellIndex_ctr k a0 x5.id x6 e23) (by simp (maxSteps := 10000000) [go_sem, h11, h11', h11'', p18, q19, g21]) (by simp) ?_
        simp (maxSteps := 10000000) [go_sem, h11, h11', h11'', p18, q19, g21]
        refine hK22 _ ?_
        obtain ⟨e24, hU26, hR25⟩ := bind_some hM; clear hM
        refine AW_mid (ι := Bool) (fun i => ⟨39, [(2, .one (.box 2 0)), (5, .one (.own 576 x2.length)), (7, .one (.box 7 0)), (11, .one (.l (.sl (a1.cells.map TCell.c)))), (12, .one (.l (.int .i64 (a1.cells.length : Int)))), (13, .one (.l (.int .i64 x3))), (31, .one (.l (.bool i)))], [(2, [.l (.sl (a0.cells.map TCell.c))]), (7, [.l (.int .i64 x5.id), .l (.int .i64 x5.version), .l (.int .i64 x5.kind), .l (.str x5.name), .l (.str x5.code), .l (.int .i64 x5.n)])], [(576, some ⟨true, x2.map iC⟩)]⟩) (fun i => i = e24) ?_ ?_
        · intro K27 hK27
          have hM := hU26; clear hU26
          by_cases h28 : (decide (x6 < 0)) = true
          · rw [if_pos h28] at hM
            have h28' := h28; try simp at h28'
            have h28'' : ¬ (0 ≤ x6) := by first | (have := h28; simp only [decide_eq_true_eq, decide_eq_false_iff_not, Bool.not_eq_true', Bool.not_eq_false', Bool.not_eq_true, Bool.not_eq_false] at this; omega) | (have := h28; simp at this; omega)
            refine AW_quick [[], [0], [0, 1], [0, 1, 2], [0, 1, 2, 3], [0, 1, 2], [0, 1, 2, 3, 4, 5], [0, 1, 2, 3, 4, 5, 6], [0, 1, 2], [0, 1, 2, 3, 4, 5, 6, 7, 8], [0, 1, 2, 3, 4, 5, 6, 7, 8, 9]] 9 mixed (by kernel_rfl) (by kernel_rfl) ?_
            simp (maxSteps := 10000000) [go_sem, h11, h11', h11'', p18, q19, g21, h28, h28', h28'']
            obtain rfl := Option.some.inj hM
            exact hK27 true _ rfl (Lift.into (by constructor <;> simp [go_sem, h11, h11', h11'', p18, q19, g21, h28, h28', h28'']))
          · rw [if_neg h28] at hM
            have h28 := Bool.eq_false_iff.2 h28
            have h28' := h28; try simp at h28'
            have h28'' : ¬ (x6 < 0) := by first | (have := h28; simp only [decide_eq_true_eq, decide_eq_false_iff_not, Bool.not_eq_true', Bool.not_eq_false', Bool.not_eq_true, Bool.not_eq_false] at this; omega) | (have := h28; simp at this; omega)
            obtain ⟨x8, e29, hM⟩ := bind_some hM
            obtain ⟨p30, q31, l32, g33⟩ := at_spec e29
            refine AW_quick [[], [0], [0, 1], [0, 1, 2], [0, 1, 2, 3], [0, 1, 2], [0, 1, 2, 3, 4, 5], [0, 1, 2, 3, 4, 5, 6], [0, 1, 2], [0, 1, 2, 3, 4, 5, 6, 7, 8], [0, 1, 2, 3, 4, 5, 6, 7, 8, 9]] 9 mixed (by kernel_rfl) (by kernel_rfl) ?_
            simp (maxSteps := 10000000) [go_sem, h11, h11', h11'', p18, q19, g21, h28, h28', h28'', p30, q31, g33]
            obtain rfl := Option.some.inj hM
            exact hK27 (!(decide (x8.id = x5.id) && (decide (x8.version = x5.version) && (decide (x8.kind = x5.kind) && (decide (x8.name = x5.name) && (decide (x8.code = x5.code) && decide (x8.n = x5.n))))))) _ rfl (Lift.into (by constructor <;> simp [go_sem, h11, h11', h11'', p18, q19, g21, h28, h28', h28'', p30, q31, g33]))
        · rintro x7 rfl
          have hM := hR25
          try dsimp only at hM
          refine AW_cond (b := x7) (by simp (maxSteps := 10000000) [go_sem, h11, h11', h11'', p18, q19, g21]) (fun h34 => ?_) (fun h34 => ?_)
          · rw [if_pos h34] at hM
            have h34' := h34; try simp at h34'
            obtain ⟨x9, e35, hM⟩ := bind_some hM
            obtain ⟨c36, s37, s38⟩ := app_spec e35
            replace c36 := c36.symm; subst c36
            try simp at s37
            try simp at s38
            refine AW_region ?_
            simp (maxSteps := 10000000) [go_sem, h11, h11', h11'', p18, q19, g21, h34, h34', s37, s38]
            obtain rfl := Option.some.inj hM
            exact hK15 (x2 ++ [x5.id]) _ rfl (Lift.into (by constructor <;> simp [go_sem, h11, h11', h11'', p18, q19, g21, h34, h34', s37, s38]))
          · rw [if_neg (ne_true h34)] at hM
            have h34' := h34; try simp at h34'
            refine AW_skip ?_
            obtain rfl := Option.some.inj hM
            exact hK15 x2 _ rfl (Lift.into (by constructor <;> simp [go_sem, h11, h11', h11'', p18, q19, g21, h34, h34']))
      · rintro x4 rfl
        have hM := hR13
        try dsimp only at hM
        refine AW_region ?_
        simp (maxSteps := 10000000) [go_sem, h11, h11', h11'']
        exact hL8 (x4, (IntKind.i64.wrap (x3 + 1))) _ hM (Lift.into (by constructor <;> simp [go_sem, h11, h11', h11'']))
    · rw [if_neg (ne_true h11)] at hM
      have h11' := h11; try simp at h11'
      have h11'' : ¬ (x3 < (a1.cells.length : Int)) := by first | (have := h11; simp only [decide_eq_true_eq, decide_eq_false_iff_not, Bool.not_eq_true', Bool.not_eq_false', Bool.not_eq_true, Bool.not_eq_false] at this; omega) | (have := h11; simp at this; omega)
      refine AW_exit ?_
      obtain rfl := Option.some.inj hM
      exact hK6 x2 _ rfl (Lift.into (by constructor <;> simp [go_sem, h11, h11', h11'']))
  · rintro x1 rfl
    have hM := hR4
    try dsimp only at hM
    refine AW_seq fun K39 hK39 => ?_
    refine AW_region ?_
    simp (maxSteps := 10000000) [go_sem]
    refine hK39 _ ?_
    obtain rfl := Option.some.inj hM
    refine AW_ret ?_
    simp (maxSteps := 10000000) [go_sem]
end Go.Proofs.Ytmiboaogfjgkjaa
