/- Contracts of the program's functions: where the mirrored function answers, the program's function returns this answer. Written by a program of mine. -/
import Derived.Test.YtmiboaogfjgkjaaWn
import Derived.Test.YtmiboaogfjgkjaaMd2
set_option linter.unusedSimpArgs false
set_option linter.unusedVariables false
namespace Go.Proofs.Ytmiboaogfjgkjaa
open Go.RowKit Am

set_option maxHeartbeats 4000000 in
set_option maxRecDepth 100000 in
theorem s_EntryIndex_ctr (k : Nat) (a0 : TEngine) (a1 : Int) (r : Int) (hM : s_EntryIndex k a0 a1 = some r) : Ctr Try.prog 12 [.agg (TEngine.c a0), .one (.int .i64 a1)] true [.one (.int .i64 r)] := by
  unfold s_EntryIndex at hM
  refine Ctr.of_walk (by kernel_rfl) Try.func12 rfl Try.ntmps12 Try.results12 (by simp) ?_; intro N w0 hbad
  refine AW_seq fun K1 hK1 => ?_
  refine AW_region ?_
  simp (maxSteps := 10000000) [go_sem]
  refine hK1 _ ?_
  obtain ⟨e2, hU4, hR3⟩ := bind_some hM; clear hM
  refine AW_mid (ι := Unit) (fun i => ⟨22, [], [], []⟩) (fun i => (.inl i) = e2) ?_ ?_
  · intro K5 hK5
    have hM := hU4; clear hU4
    refine AW_seq fun K6 hK6 => ?_
    refine AW_region ?_
    simp (maxSteps := 10000000) [go_sem]
    refine hK6 _ ?_
    refine AW_block ?_
    refine AW_go (ι := Int) (fun i => ⟨22, [(1, .one (.l (.int .i64 a1))), (2, .one (.box 2 0)), (5, .one (.l (.int .i64 i)))], [(2, [.l (.sl (a0.notebook.cells.map TCell.c)), .l (.int .i64 a0.world.clock), .l (.int .i64 a0.world.seed), .l (.sl (a0.world.files.map TFile.c)), .l (.sl (a0.tapes.map TTape.c)), .l (.sl (a0.entries.map TEntry.c)), .l (.int .i64 a0.next), .l (.int .i64 a0.limit), .l (.int .i64 a0.work)])], []⟩) (fun n i => s_EntryIndex_u1 a0 a1 n i = some e2) k 0 hM (Lift.into (by constructor <;> simp [go_sem])) (fun _ h => by simp [s_EntryIndex_u1] at h) ?_
    intro KL7 n x1 hL7 hM
    have hM : s_EntryIndex_u1 a0 a1 (n + 1) x1 = some e2 := hM; rw [s_EntryIndex_u1] at hM
    refine AW_seq fun K8 hK8 => ?_
    refine AW_seq fun K9 hK9 => ?_
    refine AW_region ?_
    simp (maxSteps := 10000000) [go_sem]
    refine hK9 _ ?_
    refine AW_cond (b := (decide (x1 < (a0.entries.length : Int)))) (by simp (maxSteps := 10000000) [go_sem]) (fun h10 => ?_) (fun h10 => ?_)
    · rw [if_pos h10] at hM
      have h10' := h10; try simp at h10'
      have h10'' : ¬ ((a0.entries.length : Int) ≤ x1) := by first | (have := h10; simp only [decide_eq_true_eq, decide_eq_false_iff_not, Bool.not_eq_true', Bool.not_eq_false', Bool.not_eq_true, Bool.not_eq_false] at this; omega) | (have := h10; simp at this; omega)
      refine AW_skip ?_
      refine hK8 _ ?_
      refine AW_seq fun K11 hK11 => ?_
      refine AW_block ?_
      refine AW_seq fun K12 hK12 => ?_
      obtain ⟨x2, e13, hM⟩ := bind_some hM
      obtain ⟨p14, q15, l16, g17⟩ := at_spec e13
      refine AW_region ?_
      simp (maxSteps := 10000000) [go_sem, h10, h10', h10'', p14, q15, g17]
      refine hK12 _ ?_
      refine AW_cond (b := (decide (x2.cell = a1))) (by simp (maxSteps := 10000000) [go_sem, h10, h10', h10'', p14, q15, g17]) (fun h18 => ?_) (fun h18 => ?_)
      · rw [if_pos h18] at hM
        have h18' := h18; try simp at h18'
        refine AW_seq fun K19 hK19 => ?_
        refine AW_region ?_
        simp (maxSteps := 10000000) [go_sem, h10, h10', h10'', p14, q15, g17, h18, h18']
        refine hK19 _ ?_
        obtain rfl := Option.some.inj hM
        have hM := hR3; dsimp only at hM
        obtain rfl := Option.some.inj hM
        refine AW_ret ?_
        simp (maxSteps := 10000000) [go_sem, h10, h10', h10'', p14, q15, g17, h18, h18']
      · rw [if_neg (ne_true h18)] at hM
        have h18' := h18; try simp at h18'
        refine AW_skip ?_
        refine hK11 _ ?_
        refine AW_region ?_
        simp (maxSteps := 10000000) [go_sem, h10, h10', h10'', p14, q15, g17, h18, h18']
        exact hL7 (IntKind.i64.wrap (x1 + 1)) _ hM (Lift.into (by constructor <;> simp [go_sem, h10, h10', h10'', p14, q15, g17, h18, h18']))
    · rw [if_neg (ne_true h10)] at hM
      have h10' := h10; try simp at h10'
      have h10'' : ¬ (x1 < (a0.entries.length : Int)) := by first | (have := h10; simp only [decide_eq_true_eq, decide_eq_false_iff_not, Bool.not_eq_true', Bool.not_eq_false', Bool.not_eq_true, Bool.not_eq_false] at this; omega) | (have := h10; simp at this; omega)
      refine AW_exit ?_
      obtain rfl := Option.some.inj hM
      exact hK5 () _ rfl (Lift.into (by constructor <;> simp [go_sem, h10, h10', h10'']))
  · rintro _ rfl
    have hM := hR3
    dsimp only at hM
    refine AW_seq fun K20 hK20 => ?_
    refine AW_region ?_
    simp (maxSteps := 10000000) [go_sem]
    refine hK20 _ ?_
    obtain rfl := Option.some.inj hM
    refine AW_ret ?_
    simp (maxSteps := 10000000) [go_sem]
set_option maxHeartbeats 4000000 in
set_option maxRecDepth 100000 in
theorem i_EntryIndex_ctr (k : Nat) (a0 : TEngine) (a1 : Int) (r : Int) (hM : i_EntryIndex k a0 a1 = some r) : Ctr Try.prog 14 [.agg (TEngine.c a0), .one (.int .i64 a1)] true [.one (.int .i64 r)] := by
  unfold i_EntryIndex at hM
  refine Ctr.of_walk (by kernel_rfl) Try.func14 rfl Try.ntmps14 Try.results14 (by simp) ?_; intro N w0 hbad
  refine AW_seq fun K1 hK1 => ?_
  refine AW_region ?_
  simp (maxSteps := 10000000) [go_sem]
  refine hK1 _ ?_
  obtain ⟨e2, hU4, hR3⟩ := bind_some hM; clear hM
  refine AW_mid (ι := Unit) (fun i => ⟨21, [], [], []⟩) (fun i => (.inl i) = e2) ?_ ?_
  · intro K5 hK5
    have hM := hU4; clear hU4
    refine AW_seq fun K6 hK6 => ?_
    refine AW_region ?_
    simp (maxSteps := 10000000) [go_sem]
    refine hK6 _ ?_
    refine AW_block ?_
    refine AW_go (ι := Int) (fun i => ⟨21, [(1, .one (.l (.int .i64 a1))), (8, .one (.l (.sl (a0.entries.map TEntry.c)))), (9, .one (.l (.int .i64 (a0.entries.length : Int)))), (10, .one (.l (.int .i64 i)))], [], []⟩) (fun n i => i_EntryIndex_u1 a0 a1 n i = some e2) k 0 hM (Lift.into (by constructor <;> simp [go_sem])) (fun _ h => by simp [i_EntryIndex_u1] at h) ?_
    intro KL7 n x1 hL7 hM
    have hM : i_EntryIndex_u1 a0 a1 (n + 1) x1 = some e2 := hM; rw [i_EntryIndex_u1] at hM
    refine AW_seq fun K8 hK8 => ?_
    refine AW_region ?_
    simp (maxSteps := 10000000) [go_sem]
    refine hK8 _ ?_
    refine AW_seq fun K9 hK9 => ?_
    refine AW_cond (b := (decide (x1 < (a0.entries.length : Int)))) (by simp (maxSteps := 10000000) [go_sem]) (fun h10 => ?_) (fun h10 => ?_)
    · rw [if_pos h10] at hM
      have h10' := h10; try simp at h10'
      have h10'' : ¬ ((a0.entries.length : Int) ≤ x1) := by first | (have := h10; simp only [decide_eq_true_eq, decide_eq_false_iff_not, Bool.not_eq_true', Bool.not_eq_false', Bool.not_eq_true, Bool.not_eq_false] at this; omega) | (have := h10; simp at this; omega)
      refine AW_skip ?_
      refine hK9 _ ?_
      refine AW_seq fun K11 hK11 => ?_
      refine AW_block ?_
      refine AW_seq fun K12 hK12 => ?_
      obtain ⟨x2, e13, hM⟩ := bind_some hM
      obtain ⟨p14, q15, l16, g17⟩ := at_spec e13
      refine AW_region ?_
      simp (maxSteps := 10000000) [go_sem, h10, h10', h10'', p14, q15, g17]
      refine hK12 _ ?_
      refine AW_seq fun K18 hK18 => ?_
      refine AW_region ?_
      simp (maxSteps := 10000000) [go_sem, h10, h10', h10'', p14, q15, g17]
      refine hK18 _ ?_
      refine AW_cond (b := (decide (x2.cell = a1))) (by simp (maxSteps := 10000000) [go_sem, h10, h10', h10'', p14, q15, g17]) (fun h19 => ?_) (fun h19 => ?_)
      · rw [if_pos h19] at hM
        have h19' := h19; try simp at h19'
        refine AW_seq fun K20 hK20 => ?_
        refine AW_region ?_
        simp (maxSteps := 10000000) [go_sem, h10, h10', h10'', p14, q15, g17, h19, h19']
        refine hK20 _ ?_
        obtain rfl := Option.some.inj hM
        have hM := hR3; dsimp only at hM
        obtain rfl := Option.some.inj hM
        refine AW_ret ?_
        simp (maxSteps := 10000000) [go_sem, h10, h10', h10'', p14, q15, g17, h19, h19']
      · rw [if_neg (ne_true h19)] at hM
        have h19' := h19; try simp at h19'
        refine AW_skip ?_
        refine hK11 _ ?_
        refine AW_region ?_
        simp (maxSteps := 10000000) [go_sem, h10, h10', h10'', p14, q15, g17, h19, h19']
        exact hL7 (IntKind.i64.wrap (x1 + 1)) _ hM (Lift.into (by constructor <;> simp [go_sem, h10, h10', h10'', p14, q15, g17, h19, h19']))
    · rw [if_neg (ne_true h10)] at hM
      have h10' := h10; try simp at h10'
      have h10'' : ¬ (x1 < (a0.entries.length : Int)) := by first | (have := h10; simp only [decide_eq_true_eq, decide_eq_false_iff_not, Bool.not_eq_true', Bool.not_eq_false', Bool.not_eq_true, Bool.not_eq_false] at this; omega) | (have := h10; simp at this; omega)
      refine AW_exit ?_
      obtain rfl := Option.some.inj hM
      exact hK5 () _ rfl (Lift.into (by constructor <;> simp [go_sem, h10, h10', h10'']))
  · rintro _ rfl
    have hM := hR3
    dsimp only at hM
    refine AW_seq fun K21 hK21 => ?_
    refine AW_region ?_
    simp (maxSteps := 10000000) [go_sem]
    refine hK21 _ ?_
    obtain rfl := Option.some.inj hM
    refine AW_ret ?_
    simp (maxSteps := 10000000) [go_sem]
end Go.Proofs.Ytmiboaogfjgkjaa
