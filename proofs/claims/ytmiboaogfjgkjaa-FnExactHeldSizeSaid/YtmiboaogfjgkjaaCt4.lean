/- Contracts of the program's functions: where the mirrored function answers, the program's function returns this answer. Written by a program of mine. -/
import Derived.Test.YtmiboaogfjgkjaaWn
import Derived.Test.YtmiboaogfjgkjaaMd4
set_option linter.unusedSimpArgs false
set_option linter.unusedVariables false
namespace Go.Proofs.Ytmiboaogfjgkjaa
open Go.RowKit Am

set_option maxHeartbeats 4000000 in
set_option maxRecDepth 100000 in
theorem s_SizeOf_all : ∀ (k : Nat), (∀ (a0 : TValue) (r : Int) (hM : s_SizeOf k a0 = some r), Ctr Try.prog 72 [.agg (TValue.c a0)] true [.one (.int .i64 r)]) := by
  intro k
  induction k with
  | zero => intro a0 r hM; simp [s_SizeOf] at hM
  | succ k ih_s_SizeOf =>
    · intro a0 r hM
      rw [s_SizeOf] at hM
      refine Ctr.of_walk (by kernel_rfl) Try.func72 rfl Try.ntmps72 Try.results72 (by simp) ?_; intro N w0 hbad
      refine AW_seq fun K1 hK1 => ?_
      refine AW_region ?_
      simp (maxSteps := 10000000) [go_sem]
      refine hK1 _ ?_
      refine AW_seq fun K2 hK2 => ?_
      refine AW_region ?_
      simp (maxSteps := 10000000) [go_sem]
      refine hK2 _ ?_
      obtain ⟨e3, hU5, hR4⟩ := bind_some hM; clear hM
      refine AW_mid (ι := Int) (fun i => ⟨54, [(1, .one (.box 1 0)), (3, .one (.l (.int .i64 i)))], [(1, [.l (.int .i64 a0.kind), .l (.int .i64 a0.n), .l (.int .i64 a0.step), .l (.str a0.text), .l (.sl (a0.list.map TValue.c)), .l (.sl (a0.columns.map sC)), .l (.sl (a0.rows.map TRow.c))])], []⟩) (fun i => i = e3) ?_ ?_
      · intro K6 hK6
        have hM := hU5; clear hU5
        refine AW_seq fun K7 hK7 => ?_
        refine AW_region ?_
        simp (maxSteps := 10000000) [go_sem]
        refine hK7 _ ?_
        refine AW_block ?_
        refine AW_go (ι := Int × Int) (fun i => ⟨54, [(1, .one (.box 1 0)), (3, .one (.l (.int .i64 i.1))), (4, .one (.l (.int .i64 i.2)))], [(1, [.l (.int .i64 a0.kind), .l (.int .i64 a0.n), .l (.int .i64 a0.step), .l (.str a0.text), .l (.sl (a0.list.map TValue.c)), .l (.sl (a0.columns.map sC)), .l (.sl (a0.rows.map TRow.c))])], []⟩) (fun n i => s_SizeOf_u1 (s_SizeOf k) a0 n i.1 i.2 = some e3) k ((IntKind.i64.wrap ((IntKind.i64.wrap (1 + (a0.text.size : Int))) + (a0.columns.length : Int))), 0) hM (Lift.into (by constructor <;> simp [go_sem])) (fun _ h => by simp [s_SizeOf_u1] at h) ?_
        intro KL8 n ⟨x2, x3⟩ hL8 hM
        have hM : s_SizeOf_u1 (s_SizeOf k) a0 (n + 1) x2 x3 = some e3 := hM; rw [s_SizeOf_u1] at hM
        refine AW_seq fun K9 hK9 => ?_
        refine AW_seq fun K10 hK10 => ?_
        refine AW_region ?_
        simp (maxSteps := 10000000) [go_sem]
        refine hK10 _ ?_
        refine AW_cond (b := (decide (x3 < (a0.list.length : Int)))) (by simp (maxSteps := 10000000) [go_sem]) (fun h11 => ?_) (fun h11 => ?_)
        · rw [if_pos h11] at hM
          have h11' := h11; try simp at h11'
          have h11'' : ¬ ((a0.list.length : Int) ≤ x3) := by first | (have := h11; simp only [decide_eq_true_eq, decide_eq_false_iff_not, Bool.not_eq_true', Bool.not_eq_false', Bool.not_eq_true, Bool.not_eq_false] at this; omega) | (have := h11; simp at this; omega)
          refine AW_skip ?_
          refine hK9 _ ?_
          refine AW_seq fun K12 hK12 => ?_
          refine AW_block ?_
          obtain ⟨x4, e13, hM⟩ := bind_some hM
          obtain ⟨p14, q15, l16, g17⟩ := at_spec e13
          obtain ⟨x5, e18, hM⟩ := bind_some hM
          refine AW_region ?_
          simp (maxSteps := 10000000) [go_sem, h11, h11', h11'', p14, q15, g17]
          refine by_ctr false (ih_s_SizeOf x4 x5 e18) (by simp (maxSteps := 10000000) [go_sem, h11, h11', h11'', p14, q15, g17]) (by simp) ?_
          simp (maxSteps := 10000000) [go_sem, h11, h11', h11'', p14, q15, g17]
          refine hK12 _ ?_
          refine AW_region ?_
          simp (maxSteps := 10000000) [go_sem, h11, h11', h11'', p14, q15, g17]
          exact hL8 ((IntKind.i64.wrap (x2 + x5)), (IntKind.i64.wrap (x3 + 1))) _ hM (Lift.into (by constructor <;> simp [go_sem, h11, h11', h11'', p14, q15, g17]))
        · rw [if_neg (ne_true h11)] at hM
          have h11' := h11; try simp at h11'
          have h11'' : ¬ (x3 < (a0.list.length : Int)) := by first | (have := h11; simp only [decide_eq_true_eq, decide_eq_false_iff_not, Bool.not_eq_true', Bool.not_eq_false', Bool.not_eq_true, Bool.not_eq_false] at this; omega) | (have := h11; simp at this; omega)
          refine AW_exit ?_
          obtain rfl := Option.some.inj hM
          exact hK6 x2 _ rfl (Lift.into (by constructor <;> simp [go_sem, h11, h11', h11'']))
      · rintro x1 rfl
        have hM := hR4
        try dsimp only at hM
        obtain ⟨e19, hU21, hR20⟩ := bind_some hM; clear hM
        refine AW_mid (ι := Int) (fun i => ⟨54, [(3, .one (.l (.int .i64 i)))], [], []⟩) (fun i => i = e19) ?_ ?_
        · intro K22 hK22
          have hM := hU21; clear hU21
          refine AW_seq fun K23 hK23 => ?_
          refine AW_region ?_
          simp (maxSteps := 10000000) [go_sem]
          refine hK23 _ ?_
          refine AW_block ?_
          refine AW_go (ι := Int × Int) (fun i => ⟨54, [(1, .one (.box 1 0)), (3, .one (.l (.int .i64 i.1))), (5, .one (.l (.int .i64 i.2)))], [(1, [.l (.int .i64 a0.kind), .l (.int .i64 a0.n), .l (.int .i64 a0.step), .l (.str a0.text), .l (.sl (a0.list.map TValue.c)), .l (.sl (a0.columns.map sC)), .l (.sl (a0.rows.map TRow.c))])], []⟩) (fun n i => s_SizeOf_u2 a0 n i.1 i.2 = some e19) k (x1, 0) hM (Lift.into (by constructor <;> simp [go_sem])) (fun _ h => by simp [s_SizeOf_u2] at h) ?_
          intro KL24 n ⟨x7, x8⟩ hL24 hM
          have hM : s_SizeOf_u2 a0 (n + 1) x7 x8 = some e19 := hM; rw [s_SizeOf_u2] at hM
          refine AW_seq fun K25 hK25 => ?_
          refine AW_seq fun K26 hK26 => ?_
          refine AW_region ?_
          simp (maxSteps := 10000000) [go_sem]
          refine hK26 _ ?_
          refine AW_cond (b := (decide (x8 < (a0.rows.length : Int)))) (by simp (maxSteps := 10000000) [go_sem]) (fun h27 => ?_) (fun h27 => ?_)
          · rw [if_pos h27] at hM
            have h27' := h27; try simp at h27'
            have h27'' : ¬ ((a0.rows.length : Int) ≤ x8) := by first | (have := h27; simp only [decide_eq_true_eq, decide_eq_false_iff_not, Bool.not_eq_true', Bool.not_eq_false', Bool.not_eq_true, Bool.not_eq_false] at this; omega) | (have := h27; simp at this; omega)
            refine AW_skip ?_
            refine hK25 _ ?_
            refine AW_seq fun K28 hK28 => ?_
            refine AW_block ?_
            obtain ⟨x9, e29, hM⟩ := bind_some hM
            obtain ⟨p30, q31, l32, g33⟩ := at_spec e29
            refine AW_quick [[], [], [1], [], [1, 2, 3], [1, 2, 3, 4], [1, 2, 3, 4, 5], [1, 2, 3, 4, 5, 6], [0, 1, 2, 3, 4, 5, 6, 7], [], [9], [], [9, 10, 11], [9, 10, 11, 12], [9, 10, 11, 12, 13], [9, 10, 11, 12, 13, 14], [0, 1, 2, 3, 4, 5, 6, 7, 8, 9, 10, 11, 12, 13, 14, 15], [0, 1, 2, 3, 4, 5, 6, 7, 8, 9, 10, 11, 12, 13, 14, 15, 16]] 16 mixed (by kernel_rfl) (by kernel_rfl) ?_
            simp (maxSteps := 10000000) [go_sem, h27, h27', h27'', p30, q31, g33]
            refine hK28 _ ?_
            refine AW_region ?_
            simp (maxSteps := 10000000) [go_sem, h27, h27', h27'', p30, q31, g33]
            exact hL24 ((IntKind.i64.wrap ((IntKind.i64.wrap (x7 + (x9.cells.length : Int))) + (x9.from_.length : Int))), (IntKind.i64.wrap (x8 + 1))) _ hM (Lift.into (by constructor <;> simp [go_sem, h27, h27', h27'', p30, q31, g33]))
          · rw [if_neg (ne_true h27)] at hM
            have h27' := h27; try simp at h27'
            have h27'' : ¬ (x8 < (a0.rows.length : Int)) := by first | (have := h27; simp only [decide_eq_true_eq, decide_eq_false_iff_not, Bool.not_eq_true', Bool.not_eq_false', Bool.not_eq_true, Bool.not_eq_false] at this; omega) | (have := h27; simp at this; omega)
            refine AW_exit ?_
            obtain rfl := Option.some.inj hM
            exact hK22 x7 _ rfl (Lift.into (by constructor <;> simp [go_sem, h27, h27', h27'']))
        · rintro x6 rfl
          have hM := hR20
          try dsimp only at hM
          refine AW_seq fun K34 hK34 => ?_
          refine AW_region ?_
          simp (maxSteps := 10000000) [go_sem]
          refine hK34 _ ?_
          obtain rfl := Option.some.inj hM
          refine AW_ret ?_
          simp (maxSteps := 10000000) [go_sem]
theorem s_SizeOf_ctr (k : Nat) : ∀ (a0 : TValue) (r : Int) (hM : s_SizeOf k a0 = some r), Ctr Try.prog 72 [.agg (TValue.c a0)] true [.one (.int .i64 r)] := (s_SizeOf_all k)

set_option maxHeartbeats 4000000 in
set_option maxRecDepth 100000 in
theorem s_HeldSize_ctr (k : Nat) (a0 : TEngine) (r : Int) (hM : s_HeldSize k a0 = some r) : Ctr Try.prog 16 [.agg (TEngine.c a0)] true [.one (.int .i64 r)] := by
  unfold s_HeldSize at hM
  refine Ctr.of_walk (by kernel_rfl) Try.func16 rfl Try.ntmps16 Try.results16 (by simp) ?_; intro N w0 hbad
  refine AW_seq fun K1 hK1 => ?_
  refine AW_region ?_
  simp (maxSteps := 10000000) [go_sem]
  refine hK1 _ ?_
  refine AW_seq fun K2 hK2 => ?_
  refine AW_region ?_
  simp (maxSteps := 10000000) [go_sem]
  refine hK2 _ ?_
  obtain ⟨e3, hU5, hR4⟩ := bind_some hM; clear hM
  refine AW_mid (ι := Int) (fun i => ⟨28, [(3, .one (.l (.int .i64 i)))], [], []⟩) (fun i => i = e3) ?_ ?_
  · intro K6 hK6
    have hM := hU5; clear hU5
    refine AW_seq fun K7 hK7 => ?_
    refine AW_region ?_
    simp (maxSteps := 10000000) [go_sem]
    refine hK7 _ ?_
    refine AW_block ?_
    refine AW_go (ι := Int × Int) (fun i => ⟨28, [(1, .one (.box 1 0)), (3, .one (.l (.int .i64 i.1))), (4, .one (.l (.int .i64 i.2)))], [(1, [.l (.sl (a0.notebook.cells.map TCell.c)), .l (.int .i64 a0.world.clock), .l (.int .i64 a0.world.seed), .l (.sl (a0.world.files.map TFile.c)), .l (.sl (a0.tapes.map TTape.c)), .l (.sl (a0.entries.map TEntry.c)), .l (.int .i64 a0.next), .l (.int .i64 a0.limit), .l (.int .i64 a0.work)])], []⟩) (fun n i => s_HeldSize_u1 k a0 n i.1 i.2 = some e3) k (0, 0) hM (Lift.into (by constructor <;> simp [go_sem])) (fun _ h => by simp [s_HeldSize_u1] at h) ?_
    intro KL8 n ⟨x2, x3⟩ hL8 hM
    have hM : s_HeldSize_u1 k a0 (n + 1) x2 x3 = some e3 := hM; rw [s_HeldSize_u1] at hM
    refine AW_seq fun K9 hK9 => ?_
    refine AW_seq fun K10 hK10 => ?_
    refine AW_region ?_
    simp (maxSteps := 10000000) [go_sem]
    refine hK10 _ ?_
    refine AW_cond (b := (decide (x3 < (a0.entries.length : Int)))) (by simp (maxSteps := 10000000) [go_sem]) (fun h11 => ?_) (fun h11 => ?_)
    · rw [if_pos h11] at hM
      have h11' := h11; try simp at h11'
      have h11'' : ¬ ((a0.entries.length : Int) ≤ x3) := by first | (have := h11; simp only [decide_eq_true_eq, decide_eq_false_iff_not, Bool.not_eq_true', Bool.not_eq_false', Bool.not_eq_true, Bool.not_eq_false] at this; omega) | (have := h11; simp at this; omega)
      refine AW_skip ?_
      refine hK9 _ ?_
      obtain ⟨e12, hU14, hR13⟩ := bind_some hM; clear hM
      refine AW_mid (ι := Int) (fun i => ⟨28, [(1, .one (.box 1 0)), (3, .one (.l (.int .i64 i))), (4, .one (.l (.int .i64 x3)))], [(1, [.l (.sl (a0.notebook.cells.map TCell.c)), .l (.int .i64 a0.world.clock), .l (.int .i64 a0.world.seed), .l (.sl (a0.world.files.map TFile.c)), .l (.sl (a0.tapes.map TTape.c)), .l (.sl (a0.entries.map TEntry.c)), .l (.int .i64 a0.next), .l (.int .i64 a0.limit), .l (.int .i64 a0.work)])], []⟩) (fun i => i = e12) ?_ ?_
      · intro K15 hK15
        have hM := hU14; clear hU14
        refine AW_block ?_
        refine AW_seq fun K16 hK16 => ?_
        obtain ⟨x5, e17, hM⟩ := bind_some hM
        obtain ⟨p18, q19, l20, g21⟩ := at_spec e17
        refine AW_region ?_
        simp (maxSteps := 10000000) [go_sem, h11, h11', h11'', p18, q19, g21]
        refine hK16 _ ?_
        refine AW_cond (b := x5.has) (by simp (maxSteps := 10000000) [go_sem, h11, h11', h11'', p18, q19, g21]) (fun h22 => ?_) (fun h22 => ?_)
        · rw [if_pos h22] at hM
          have h22' := h22; try simp at h22'
          obtain ⟨x6, e23, hM⟩ := bind_some hM
          refine AW_region ?_
          simp (maxSteps := 10000000) [go_sem, h11, h11', h11'', p18, q19, g21, h22, h22']
          refine by_ctr false (s_SizeOf_ctr k x5.value x6 e23) (by simp (maxSteps := 10000000) [go_sem, h11, h11', h11'', p18, q19, g21, h22, h22']) (by simp) ?_
          simp (maxSteps := 10000000) [go_sem, h11, h11', h11'', p18, q19, g21, h22, h22']
          obtain rfl := Option.some.inj hM
          exact hK15 (IntKind.i64.wrap (x2 + x6)) _ rfl (Lift.into (by constructor <;> simp [go_sem, h11, h11', h11'', p18, q19, g21, h22, h22']))
        · rw [if_neg (ne_true h22)] at hM
          have h22' := h22; try simp at h22'
          refine AW_skip ?_
          obtain rfl := Option.some.inj hM
          exact hK15 x2 _ rfl (Lift.into (by constructor <;> simp [go_sem, h11, h11', h11'', p18, q19, g21, h22, h22']))
      · rintro x4 rfl
        have hM := hR13
        try dsimp only at hM
        refine AW_region ?_
        simp (maxSteps := 10000000) [go_sem, h11, h11', h11'']
        exact hL8 (x4, (IntKind.i64.wrap (x3 + 1))) _ hM (Lift.into (by constructor <;> simp [go_sem, h11, h11', h11'']))
    · rw [if_neg (ne_true h11)] at hM
      have h11' := h11; try simp at h11'
      have h11'' : ¬ (x3 < (a0.entries.length : Int)) := by first | (have := h11; simp only [decide_eq_true_eq, decide_eq_false_iff_not, Bool.not_eq_true', Bool.not_eq_false', Bool.not_eq_true, Bool.not_eq_false] at this; omega) | (have := h11; simp at this; omega)
      refine AW_exit ?_
      obtain rfl := Option.some.inj hM
      exact hK6 x2 _ rfl (Lift.into (by constructor <;> simp [go_sem, h11, h11', h11'']))
  · rintro x1 rfl
    have hM := hR4
    try dsimp only at hM
    refine AW_seq fun K24 hK24 => ?_
    refine AW_region ?_
    simp (maxSteps := 10000000) [go_sem]
    refine hK24 _ ?_
    obtain rfl := Option.some.inj hM
    refine AW_ret ?_
    simp (maxSteps := 10000000) [go_sem]
set_option maxHeartbeats 4000000 in
set_option maxRecDepth 100000 in
theorem i_SizeOf_all : ∀ (k : Nat), (∀ (a0 : TValue) (r : Int) (hM : i_SizeOf k a0 = some r), Ctr Try.prog 73 [.agg (TValue.c a0)] true [.one (.int .i64 r)]) := by
  intro k
  induction k with
  | zero => intro a0 r hM; simp [i_SizeOf] at hM
  | succ k ih_i_SizeOf =>
    · intro a0 r hM
      rw [i_SizeOf] at hM
      refine Ctr.of_walk (by kernel_rfl) Try.func73 rfl Try.ntmps73 Try.results73 (by simp) ?_; intro N w0 hbad
      refine AW_seq fun K1 hK1 => ?_
      refine AW_region ?_
      simp (maxSteps := 10000000) [go_sem]
      refine hK1 _ ?_
      refine AW_seq fun K2 hK2 => ?_
      refine AW_region ?_
      simp (maxSteps := 10000000) [go_sem]
      refine hK2 _ ?_
      obtain ⟨e3, hU5, hR4⟩ := bind_some hM; clear hM
      refine AW_mid (ι := Int) (fun i => ⟨46, [(1, .one (.box 1 0)), (3, .one (.l (.int .i64 i)))], [(1, [.l (.int .i64 a0.kind), .l (.int .i64 a0.n), .l (.int .i64 a0.step), .l (.str a0.text), .l (.sl (a0.list.map TValue.c)), .l (.sl (a0.columns.map sC)), .l (.sl (a0.rows.map TRow.c))])], []⟩) (fun i => i = e3) ?_ ?_
      · intro K6 hK6
        have hM := hU5; clear hU5
        refine AW_seq fun K7 hK7 => ?_
        refine AW_region ?_
        simp (maxSteps := 10000000) [go_sem]
        refine hK7 _ ?_
        refine AW_block ?_
        refine AW_go (ι := Int × Int) (fun i => ⟨46, [(1, .one (.box 1 0)), (3, .one (.l (.int .i64 i.1))), (17, .one (.l (.sl (a0.list.map TValue.c)))), (18, .one (.l (.int .i64 (a0.list.length : Int)))), (19, .one (.l (.int .i64 i.2)))], [(1, [.l (.int .i64 a0.kind), .l (.int .i64 a0.n), .l (.int .i64 a0.step), .l (.str a0.text), .l (.sl (a0.list.map TValue.c)), .l (.sl (a0.columns.map sC)), .l (.sl (a0.rows.map TRow.c))])], []⟩) (fun n i => i_SizeOf_u1 (i_SizeOf k) a0 n i.1 i.2 = some e3) k ((IntKind.i64.wrap ((IntKind.i64.wrap (1 + (a0.text.size : Int))) + (a0.columns.length : Int))), 0) hM (Lift.into (by constructor <;> simp [go_sem])) (fun _ h => by simp [i_SizeOf_u1] at h) ?_
        intro KL8 n ⟨x2, x3⟩ hL8 hM
        have hM : i_SizeOf_u1 (i_SizeOf k) a0 (n + 1) x2 x3 = some e3 := hM; rw [i_SizeOf_u1] at hM
        refine AW_seq fun K9 hK9 => ?_
        refine AW_region ?_
        simp (maxSteps := 10000000) [go_sem]
        refine hK9 _ ?_
        refine AW_seq fun K10 hK10 => ?_
        refine AW_cond (b := (decide (x3 < (a0.list.length : Int)))) (by simp (maxSteps := 10000000) [go_sem]) (fun h11 => ?_) (fun h11 => ?_)
        · rw [if_pos h11] at hM
          have h11' := h11; try simp at h11'
          have h11'' : ¬ ((a0.list.length : Int) ≤ x3) := by first | (have := h11; simp only [decide_eq_true_eq, decide_eq_false_iff_not, Bool.not_eq_true', Bool.not_eq_false', Bool.not_eq_true, Bool.not_eq_false] at this; omega) | (have := h11; simp at this; omega)
          refine AW_skip ?_
          refine hK10 _ ?_
          refine AW_seq fun K12 hK12 => ?_
          refine AW_block ?_
          refine AW_seq fun K13 hK13 => ?_
          obtain ⟨x4, e14, hM⟩ := bind_some hM
          obtain ⟨p15, q16, l17, g18⟩ := at_spec e14
          refine AW_region ?_
          simp (maxSteps := 10000000) [go_sem, h11, h11', h11'', p15, q16, g18]
          refine hK13 _ ?_
          obtain ⟨x5, e19, hM⟩ := bind_some hM
          refine AW_region ?_
          simp (maxSteps := 10000000) [go_sem, h11, h11', h11'', p15, q16, g18]
          refine by_ctr false (ih_i_SizeOf x4 x5 e19) (by simp (maxSteps := 10000000) [go_sem, h11, h11', h11'', p15, q16, g18]) (by simp) ?_
          simp (maxSteps := 10000000) [go_sem, h11, h11', h11'', p15, q16, g18]
          refine hK12 _ ?_
          refine AW_region ?_
          simp (maxSteps := 10000000) [go_sem, h11, h11', h11'', p15, q16, g18]
          exact hL8 ((IntKind.i64.wrap (x2 + x5)), (IntKind.i64.wrap (x3 + 1))) _ hM (Lift.into (by constructor <;> simp [go_sem, h11, h11', h11'', p15, q16, g18]))
        · rw [if_neg (ne_true h11)] at hM
          have h11' := h11; try simp at h11'
          have h11'' : ¬ (x3 < (a0.list.length : Int)) := by first | (have := h11; simp only [decide_eq_true_eq, decide_eq_false_iff_not, Bool.not_eq_true', Bool.not_eq_false', Bool.not_eq_true, Bool.not_eq_false] at this; omega) | (have := h11; simp at this; omega)
          refine AW_exit ?_
          obtain rfl := Option.some.inj hM
          exact hK6 x2 _ rfl (Lift.into (by constructor <;> simp [go_sem, h11, h11', h11'']))
      · rintro x1 rfl
        have hM := hR4
        try dsimp only at hM
        obtain ⟨e20, hU22, hR21⟩ := bind_some hM; clear hM
        refine AW_mid (ι := Int) (fun i => ⟨46, [(3, .one (.l (.int .i64 i)))], [], []⟩) (fun i => i = e20) ?_ ?_
        · intro K23 hK23
          have hM := hU22; clear hU22
          refine AW_seq fun K24 hK24 => ?_
          refine AW_region ?_
          simp (maxSteps := 10000000) [go_sem]
          refine hK24 _ ?_
          refine AW_block ?_
          refine AW_go (ι := Int × Int) (fun i => ⟨46, [(3, .one (.l (.int .i64 i.1))), (29, .one (.l (.sl (a0.rows.map TRow.c)))), (30, .one (.l (.int .i64 (a0.rows.length : Int)))), (31, .one (.l (.int .i64 i.2)))], [], []⟩) (fun n i => i_SizeOf_u2 a0 n i.1 i.2 = some e20) k (x1, 0) hM (Lift.into (by constructor <;> simp [go_sem])) (fun _ h => by simp [i_SizeOf_u2] at h) ?_
          intro KL25 n ⟨x7, x8⟩ hL25 hM
          have hM : i_SizeOf_u2 a0 (n + 1) x7 x8 = some e20 := hM; rw [i_SizeOf_u2] at hM
          refine AW_seq fun K26 hK26 => ?_
          refine AW_region ?_
          simp (maxSteps := 10000000) [go_sem]
          refine hK26 _ ?_
          refine AW_seq fun K27 hK27 => ?_
          refine AW_cond (b := (decide (x8 < (a0.rows.length : Int)))) (by simp (maxSteps := 10000000) [go_sem]) (fun h28 => ?_) (fun h28 => ?_)
          · rw [if_pos h28] at hM
            have h28' := h28; try simp at h28'
            have h28'' : ¬ ((a0.rows.length : Int) ≤ x8) := by first | (have := h28; simp only [decide_eq_true_eq, decide_eq_false_iff_not, Bool.not_eq_true', Bool.not_eq_false', Bool.not_eq_true, Bool.not_eq_false] at this; omega) | (have := h28; simp at this; omega)
            refine AW_skip ?_
            refine hK27 _ ?_
            refine AW_seq fun K29 hK29 => ?_
            refine AW_block ?_
            refine AW_seq fun K30 hK30 => ?_
            obtain ⟨x9, e31, hM⟩ := bind_some hM
            obtain ⟨p32, q33, l34, g35⟩ := at_spec e31
            refine AW_region ?_
            simp (maxSteps := 10000000) [go_sem, h28, h28', h28'', p32, q33, g35]
            refine hK30 _ ?_
            refine AW_region ?_
            simp (maxSteps := 10000000) [go_sem, h28, h28', h28'', p32, q33, g35]
            refine hK29 _ ?_
            refine AW_region ?_
            simp (maxSteps := 10000000) [go_sem, h28, h28', h28'', p32, q33, g35]
            exact hL25 ((IntKind.i64.wrap ((IntKind.i64.wrap (x7 + (x9.cells.length : Int))) + (x9.from_.length : Int))), (IntKind.i64.wrap (x8 + 1))) _ hM (Lift.into (by constructor <;> simp [go_sem, h28, h28', h28'', p32, q33, g35]))
          · rw [if_neg (ne_true h28)] at hM
            have h28' := h28; try simp at h28'
            have h28'' : ¬ (x8 < (a0.rows.length : Int)) := by first | (have := h28; simp only [decide_eq_true_eq, decide_eq_false_iff_not, Bool.not_eq_true', Bool.not_eq_false', Bool.not_eq_true, Bool.not_eq_false] at this; omega) | (have := h28; simp at this; omega)
            refine AW_exit ?_
            obtain rfl := Option.some.inj hM
            exact hK23 x7 _ rfl (Lift.into (by constructor <;> simp [go_sem, h28, h28', h28'']))
        · rintro x6 rfl
          have hM := hR21
          try dsimp only at hM
          refine AW_seq fun K36 hK36 => ?_
          refine AW_region ?_
          simp (maxSteps := 10000000) [go_sem]
          refine hK36 _ ?_
          obtain rfl := Option.some.inj hM
          refine AW_ret ?_
          simp (maxSteps := 10000000) [go_sem]
theorem i_SizeOf_ctr (k : Nat) : ∀ (a0 : TValue) (r : Int) (hM : i_SizeOf k a0 = some r), Ctr Try.prog 73 [.agg (TValue.c a0)] true [.one (.int .i64 r)] := (i_SizeOf_all k)

set_option maxHeartbeats 4000000 in
set_option maxRecDepth 100000 in
theorem i_HeldSize_ctr (k : Nat) (a0 : TEngine) (r : Int) (hM : i_HeldSize k a0 = some r) : Ctr Try.prog 17 [.agg (TEngine.c a0)] true [.one (.int .i64 r)] := by
  unfold i_HeldSize at hM
  refine Ctr.of_walk (by kernel_rfl) Try.func17 rfl Try.ntmps17 Try.results17 (by simp) ?_; intro N w0 hbad
  refine AW_seq fun K1 hK1 => ?_
  refine AW_region ?_
  simp (maxSteps := 10000000) [go_sem]
  refine hK1 _ ?_
  refine AW_seq fun K2 hK2 => ?_
  refine AW_region ?_
  simp (maxSteps := 10000000) [go_sem]
  refine hK2 _ ?_
  obtain ⟨e3, hU5, hR4⟩ := bind_some hM; clear hM
  refine AW_mid (ι := Int) (fun i => ⟨22, [(3, .one (.l (.int .i64 i)))], [], []⟩) (fun i => i = e3) ?_ ?_
  · intro K6 hK6
    have hM := hU5; clear hU5
    refine AW_seq fun K7 hK7 => ?_
    refine AW_region ?_
    simp (maxSteps := 10000000) [go_sem]
    refine hK7 _ ?_
    refine AW_block ?_
    refine AW_go (ι := Int × Int) (fun i => ⟨22, [(3, .one (.l (.int .i64 i.1))), (7, .one (.l (.sl (a0.entries.map TEntry.c)))), (8, .one (.l (.int .i64 (a0.entries.length : Int)))), (9, .one (.l (.int .i64 i.2)))], [], []⟩) (fun n i => i_HeldSize_u1 k a0 n i.1 i.2 = some e3) k (0, 0) hM (Lift.into (by constructor <;> simp [go_sem])) (fun _ h => by simp [i_HeldSize_u1] at h) ?_
    intro KL8 n ⟨x2, x3⟩ hL8 hM
    have hM : i_HeldSize_u1 k a0 (n + 1) x2 x3 = some e3 := hM; rw [i_HeldSize_u1] at hM
    refine AW_seq fun K9 hK9 => ?_
    refine AW_region ?_
    simp (maxSteps := 10000000) [go_sem]
    refine hK9 _ ?_
    refine AW_seq fun K10 hK10 => ?_
    refine AW_cond (b := (decide (x3 < (a0.entries.length : Int)))) (by simp (maxSteps := 10000000) [go_sem]) (fun h11 => ?_) (fun h11 => ?_)
    · rw [if_pos h11] at hM
      have h11' := h11; try simp at h11'
      have h11'' : ¬ ((a0.entries.length : Int) ≤ x3) := by first | (have := h11; simp only [decide_eq_true_eq, decide_eq_false_iff_not, Bool.not_eq_true', Bool.not_eq_false', Bool.not_eq_true, Bool.not_eq_false] at this; omega) | (have := h11; simp at this; omega)
      refine AW_skip ?_
      refine hK10 _ ?_
      obtain ⟨e12, hU14, hR13⟩ := bind_some hM; clear hM
      refine AW_mid (ι := Int) (fun i => ⟨22, [(3, .one (.l (.int .i64 i))), (7, .one (.l (.sl (a0.entries.map TEntry.c)))), (8, .one (.l (.int .i64 (a0.entries.length : Int)))), (9, .one (.l (.int .i64 x3)))], [], []⟩) (fun i => i = e12) ?_ ?_
      · intro K15 hK15
        have hM := hU14; clear hU14
        refine AW_block ?_
        refine AW_seq fun K16 hK16 => ?_
        obtain ⟨x5, e17, hM⟩ := bind_some hM
        obtain ⟨p18, q19, l20, g21⟩ := at_spec e17
        refine AW_region ?_
        simp (maxSteps := 10000000) [go_sem, h11, h11', h11'', p18, q19, g21]
        refine hK16 _ ?_
        refine AW_seq fun K22 hK22 => ?_
        refine AW_region ?_
        simp (maxSteps := 10000000) [go_sem, h11, h11', h11'', p18, q19, g21]
        refine hK22 _ ?_
        refine AW_cond (b := x5.has) (by simp (maxSteps := 10000000) [go_sem, h11, h11', h11'', p18, q19, g21]) (fun h23 => ?_) (fun h23 => ?_)
        · rw [if_pos h23] at hM
          have h23' := h23; try simp at h23'
          obtain ⟨x6, e24, hM⟩ := bind_some hM
          refine AW_region ?_
          simp (maxSteps := 10000000) [go_sem, h11, h11', h11'', p18, q19, g21, h23, h23']
          refine by_ctr false (i_SizeOf_ctr k x5.value x6 e24) (by simp (maxSteps := 10000000) [go_sem, h11, h11', h11'', p18, q19, g21, h23, h23']) (by simp) ?_
          simp (maxSteps := 10000000) [go_sem, h11, h11', h11'', p18, q19, g21, h23, h23']
          obtain rfl := Option.some.inj hM
          exact hK15 (IntKind.i64.wrap (x2 + x6)) _ rfl (Lift.into (by constructor <;> simp [go_sem, h11, h11', h11'', p18, q19, g21, h23, h23']))
        · rw [if_neg (ne_true h23)] at hM
          have h23' := h23; try simp at h23'
          refine AW_skip ?_
          obtain rfl := Option.some.inj hM
          exact hK15 x2 _ rfl (Lift.into (by constructor <;> simp [go_sem, h11, h11', h11'', p18, q19, g21, h23, h23']))
      · rintro x4 rfl
        have hM := hR13
        try dsimp only at hM
        refine AW_region ?_
        simp (maxSteps := 10000000) [go_sem, h11, h11', h11'']
        exact hL8 (x4, (IntKind.i64.wrap (x3 + 1))) _ hM (Lift.into (by constructor <;> simp [go_sem, h11, h11', h11'']))
    · rw [if_neg (ne_true h11)] at hM
      have h11' := h11; try simp at h11'
      have h11'' : ¬ (x3 < (a0.entries.length : Int)) := by first | (have := h11; simp only [decide_eq_true_eq, decide_eq_false_iff_not, Bool.not_eq_true', Bool.not_eq_false', Bool.not_eq_true, Bool.not_eq_false] at this; omega) | (have := h11; simp at this; omega)
      refine AW_exit ?_
      obtain rfl := Option.some.inj hM
      exact hK6 x2 _ rfl (Lift.into (by constructor <;> simp [go_sem, h11, h11', h11'']))
  · rintro x1 rfl
    have hM := hR4
    try dsimp only at hM
    refine AW_seq fun K25 hK25 => ?_
    refine AW_region ?_
    simp (maxSteps := 10000000) [go_sem]
    refine hK25 _ ?_
    obtain rfl := Option.some.inj hM
    refine AW_ret ?_
    simp (maxSteps := 10000000) [go_sem]
end Go.Proofs.Ytmiboaogfjgkjaa
