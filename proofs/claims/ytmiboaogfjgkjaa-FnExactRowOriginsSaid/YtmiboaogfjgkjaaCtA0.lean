/- Contracts of the program's functions: where the mirrored function answers, the program's function returns this answer. Written by a program of mine. -/
import Derived.Test.YtmiboaogfjgkjaaWn
import Derived.Test.YtmiboaogfjgkjaaMdA0
set_option linter.unusedSimpArgs false
set_option linter.unusedVariables false
namespace Go.Proofs.Ytmiboaogfjgkjaa
open Go.RowKit Am

set_option maxHeartbeats 4000000 in
set_option maxRecDepth 100000 in
theorem w_szCell_ctr (a0 : TCell) (a1 : Int) (r : Int) (hM : w_szCell a0 a1 = some r) : Ctr Try.prog 140 [.agg (TCell.c a0), .one (.int .i64 a1)] true [.one (.int .i64 r)] := by
  unfold w_szCell at hM
  refine Ctr.of_walk (by kernel_rfl) Try.func140 rfl Try.ntmps140 Try.results140 (by simp) ?_; intro N w0 hbad
  refine AW_seq fun K1 hK1 => ?_
  refine AW_region ?_
  simp (maxSteps := 10000000) [go_sem]
  refine hK1 _ ?_
  refine AW_seq fun K2 hK2 => ?_
  refine AW_region ?_
  simp (maxSteps := 10000000) [go_sem]
  refine hK2 _ ?_
  refine AW_seq fun K3 hK3 => ?_
  refine AW_seq fun K4 hK4 => ?_
  refine AW_region ?_
  simp (maxSteps := 10000000) [go_sem]
  refine hK4 _ ?_
  refine AW_cond (b := (decide ((IntKind.i64.wrap (a1 - (a0.name.size : Int))) < 0))) (by simp (maxSteps := 10000000) [go_sem]) (fun h5 => ?_) (fun h5 => ?_)
  · rw [if_pos h5] at hM
    have h5' := h5; try simp at h5'
    have h5'' : ¬ (0 ≤ (IntKind.i64.wrap (a1 - (a0.name.size : Int)))) := by first | (have := h5; simp only [decide_eq_true_eq, decide_eq_false_iff_not, Bool.not_eq_true', Bool.not_eq_false', Bool.not_eq_true, Bool.not_eq_false] at this; omega) | (have := h5; simp at this; omega)
    refine AW_seq fun K6 hK6 => ?_
    refine AW_region ?_
    simp (maxSteps := 10000000) [go_sem, h5, h5', h5'']
    refine hK6 _ ?_
    obtain rfl := Option.some.inj hM
    refine AW_ret ?_
    simp (maxSteps := 10000000) [go_sem, h5, h5', h5'']
  · rw [if_neg (ne_true h5)] at hM
    have h5' := h5; try simp at h5'
    have h5'' : ¬ ((IntKind.i64.wrap (a1 - (a0.name.size : Int))) < 0) := by first | (have := h5; simp only [decide_eq_true_eq, decide_eq_false_iff_not, Bool.not_eq_true', Bool.not_eq_false', Bool.not_eq_true, Bool.not_eq_false] at this; omega) | (have := h5; simp at this; omega)
    refine AW_skip ?_
    refine hK3 _ ?_
    refine AW_seq fun K7 hK7 => ?_
    refine AW_region ?_
    simp (maxSteps := 10000000) [go_sem, h5, h5', h5'']
    refine hK7 _ ?_
    refine AW_seq fun K8 hK8 => ?_
    refine AW_seq fun K9 hK9 => ?_
    refine AW_region ?_
    simp (maxSteps := 10000000) [go_sem, h5, h5', h5'']
    refine hK9 _ ?_
    refine AW_cond (b := (decide ((IntKind.i64.wrap ((IntKind.i64.wrap (a1 - (a0.name.size : Int))) - (a0.code.size : Int))) < 0))) (by simp (maxSteps := 10000000) [go_sem, h5, h5', h5'']) (fun h10 => ?_) (fun h10 => ?_)
    · rw [if_pos h10] at hM
      have h10' := h10; try simp at h10'
      have h10'' : ¬ (0 ≤ (IntKind.i64.wrap ((IntKind.i64.wrap (a1 - (a0.name.size : Int))) - (a0.code.size : Int)))) := by first | (have := h10; simp only [decide_eq_true_eq, decide_eq_false_iff_not, Bool.not_eq_true', Bool.not_eq_false', Bool.not_eq_true, Bool.not_eq_false] at this; omega) | (have := h10; simp at this; omega)
      refine AW_seq fun K11 hK11 => ?_
      refine AW_region ?_
      simp (maxSteps := 10000000) [go_sem, h5, h5', h5'', h10, h10', h10'']
      refine hK11 _ ?_
      obtain rfl := Option.some.inj hM
      refine AW_ret ?_
      simp (maxSteps := 10000000) [go_sem, h5, h5', h5'', h10, h10', h10'']
    · rw [if_neg (ne_true h10)] at hM
      have h10' := h10; try simp at h10'
      have h10'' : ¬ ((IntKind.i64.wrap ((IntKind.i64.wrap (a1 - (a0.name.size : Int))) - (a0.code.size : Int))) < 0) := by first | (have := h10; simp only [decide_eq_true_eq, decide_eq_false_iff_not, Bool.not_eq_true', Bool.not_eq_false', Bool.not_eq_true, Bool.not_eq_false] at this; omega) | (have := h10; simp at this; omega)
      refine AW_skip ?_
      refine hK8 _ ?_
      refine AW_seq fun K12 hK12 => ?_
      refine AW_region ?_
      simp (maxSteps := 10000000) [go_sem, h5, h5', h5'', h10, h10', h10'']
      refine hK12 _ ?_
      obtain rfl := Option.some.inj hM
      refine AW_ret ?_
      simp (maxSteps := 10000000) [go_sem, h5, h5', h5'', h10, h10', h10'']
set_option maxHeartbeats 4000000 in
set_option maxRecDepth 100000 in
theorem w_szCellS_ctr (k : Nat) (a0 : List TCell) (a1 : Int) (r : Int) (hM : w_szCellS k a0 a1 = some r) : Ctr Try.prog 74 [.one (.sl (a0.map TCell.c)), .one (.int .i64 a1)] true [.one (.int .i64 r)] := by
  unfold w_szCellS at hM
  refine Ctr.of_walk (by kernel_rfl) Try.func74 rfl Try.ntmps74 Try.results74 (by simp) ?_; intro N w0 hbad
  refine AW_seq fun K1 hK1 => ?_
  refine AW_region ?_
  simp (maxSteps := 10000000) [go_sem]
  refine hK1 _ ?_
  refine AW_seq fun K2 hK2 => ?_
  refine AW_region ?_
  simp (maxSteps := 10000000) [go_sem]
  refine hK2 _ ?_
  refine AW_seq fun K3 hK3 => ?_
  refine AW_seq fun K4 hK4 => ?_
  refine AW_region ?_
  simp (maxSteps := 10000000) [go_sem]
  refine hK4 _ ?_
  refine AW_cond (b := (decide ((IntKind.i64.wrap (a1 - (a0.length : Int))) < 0))) (by simp (maxSteps := 10000000) [go_sem]) (fun h5 => ?_) (fun h5 => ?_)
  · rw [if_pos h5] at hM
    have h5' := h5; try simp at h5'
    have h5'' : ¬ (0 ≤ (IntKind.i64.wrap (a1 - (a0.length : Int)))) := by first | (have := h5; simp only [decide_eq_true_eq, decide_eq_false_iff_not, Bool.not_eq_true', Bool.not_eq_false', Bool.not_eq_true, Bool.not_eq_false] at this; omega) | (have := h5; simp at this; omega)
    refine AW_seq fun K6 hK6 => ?_
    refine AW_region ?_
    simp (maxSteps := 10000000) [go_sem, h5, h5', h5'']
    refine hK6 _ ?_
    obtain rfl := Option.some.inj hM
    refine AW_ret ?_
    simp (maxSteps := 10000000) [go_sem, h5, h5', h5'']
  · rw [if_neg (ne_true h5)] at hM
    have h5' := h5; try simp at h5'
    have h5'' : ¬ ((IntKind.i64.wrap (a1 - (a0.length : Int))) < 0) := by first | (have := h5; simp only [decide_eq_true_eq, decide_eq_false_iff_not, Bool.not_eq_true', Bool.not_eq_false', Bool.not_eq_true, Bool.not_eq_false] at this; omega) | (have := h5; simp at this; omega)
    refine AW_skip ?_
    refine hK3 _ ?_
    obtain ⟨e7, hU9, hR8⟩ := bind_some hM; clear hM
    refine AW_mid (ι := Int) (fun i => ⟨27, [(1, .one (.l (.int .i64 i)))], [], []⟩) (fun i => (.inl i) = e7) ?_ ?_
    · intro K10 hK10
      have hM := hU9; clear hU9
      refine AW_seq fun K11 hK11 => ?_
      refine AW_region ?_
      simp (maxSteps := 10000000) [go_sem, h5, h5', h5'']
      refine hK11 _ ?_
      refine AW_block ?_
      refine AW_go (ι := Int × Int) (fun i => ⟨27, [(0, .one (.l (.sl (a0.map TCell.c)))), (1, .one (.l (.int .i64 i.1))), (5, .one (.l (.int .i64 i.2)))], [], []⟩) (fun n i => w_szCellS_u1 a0 n i.1 i.2 = some e7) k ((IntKind.i64.wrap (a1 - (a0.length : Int))), 0) hM (Lift.into (by constructor <;> simp [go_sem, h5, h5', h5''])) (fun _ h => by simp [w_szCellS_u1] at h) ?_
      intro KL12 n ⟨x2, x3⟩ hL12 hM
      have hM : w_szCellS_u1 a0 (n + 1) x2 x3 = some e7 := hM; rw [w_szCellS_u1] at hM
      refine AW_seq fun K13 hK13 => ?_
      refine AW_seq fun K14 hK14 => ?_
      refine AW_region ?_
      simp (maxSteps := 10000000) [go_sem]
      refine hK14 _ ?_
      refine AW_cond (b := (decide (x3 < (a0.length : Int)))) (by simp (maxSteps := 10000000) [go_sem]) (fun h15 => ?_) (fun h15 => ?_)
      · rw [if_pos h15] at hM
        have h15' := h15; try simp at h15'
        have h15'' : ¬ ((a0.length : Int) ≤ x3) := by first | (have := h15; simp only [decide_eq_true_eq, decide_eq_false_iff_not, Bool.not_eq_true', Bool.not_eq_false', Bool.not_eq_true, Bool.not_eq_false] at this; omega) | (have := h15; simp at this; omega)
        refine AW_skip ?_
        refine hK13 _ ?_
        refine AW_seq fun K16 hK16 => ?_
        refine AW_block ?_
        refine AW_seq fun K17 hK17 => ?_
        obtain ⟨x4, e18, hM⟩ := bind_some hM
        obtain ⟨p19, q20, l21, g22⟩ := at_spec e18
        obtain ⟨x5, e23, hM⟩ := bind_some hM
        refine AW_region ?_
        simp (maxSteps := 10000000) [go_sem, h15, h15', h15'', p19, q20, g22]
        refine by_ctr false (w_szCell_ctr x4 x2 x5 e23) (by simp (maxSteps := 10000000) [go_sem, h15, h15', h15'', p19, q20, g22]) (by simp) ?_
        simp (maxSteps := 10000000) [go_sem, h15, h15', h15'', p19, q20, g22]
        refine hK17 _ ?_
        refine AW_seq fun K24 hK24 => ?_
        refine AW_region ?_
        simp (maxSteps := 10000000) [go_sem, h15, h15', h15'', p19, q20, g22]
        refine hK24 _ ?_
        refine AW_cond (b := (decide (x5 < 0))) (by simp (maxSteps := 10000000) [go_sem, h15, h15', h15'', p19, q20, g22]) (fun h25 => ?_) (fun h25 => ?_)
        · rw [if_pos h25] at hM
          have h25' := h25; try simp at h25'
          have h25'' : ¬ (0 ≤ x5) := by first | (have := h25; simp only [decide_eq_true_eq, decide_eq_false_iff_not, Bool.not_eq_true', Bool.not_eq_false', Bool.not_eq_true, Bool.not_eq_false] at this; omega) | (have := h25; simp at this; omega)
          refine AW_seq fun K26 hK26 => ?_
          refine AW_region ?_
          simp (maxSteps := 10000000) [go_sem, h15, h15', h15'', p19, q20, g22, h25, h25', h25'']
          refine hK26 _ ?_
          obtain rfl := Option.some.inj hM
          have hM := hR8; dsimp only at hM
          obtain rfl := Option.some.inj hM
          refine AW_ret ?_
          simp (maxSteps := 10000000) [go_sem, h15, h15', h15'', p19, q20, g22, h25, h25', h25'']
        · rw [if_neg (ne_true h25)] at hM
          have h25' := h25; try simp at h25'
          have h25'' : ¬ (x5 < 0) := by first | (have := h25; simp only [decide_eq_true_eq, decide_eq_false_iff_not, Bool.not_eq_true', Bool.not_eq_false', Bool.not_eq_true, Bool.not_eq_false] at this; omega) | (have := h25; simp at this; omega)
          refine AW_skip ?_
          refine hK16 _ ?_
          refine AW_region ?_
          simp (maxSteps := 10000000) [go_sem, h15, h15', h15'', p19, q20, g22, h25, h25', h25'']
          exact hL12 (x5, (IntKind.i64.wrap (x3 + 1))) _ hM (Lift.into (by constructor <;> simp [go_sem, h15, h15', h15'', p19, q20, g22, h25, h25', h25'']))
      · rw [if_neg (ne_true h15)] at hM
        have h15' := h15; try simp at h15'
        have h15'' : ¬ (x3 < (a0.length : Int)) := by first | (have := h15; simp only [decide_eq_true_eq, decide_eq_false_iff_not, Bool.not_eq_true', Bool.not_eq_false', Bool.not_eq_true, Bool.not_eq_false] at this; omega) | (have := h15; simp at this; omega)
        refine AW_exit ?_
        obtain rfl := Option.some.inj hM
        exact hK10 x2 _ rfl (Lift.into (by constructor <;> simp [go_sem, h15, h15', h15'']))
    · rintro x1 rfl
      have hM := hR8
      dsimp only at hM
      refine AW_seq fun K27 hK27 => ?_
      refine AW_region ?_
      simp (maxSteps := 10000000) [go_sem, h5, h5', h5'']
      refine hK27 _ ?_
      obtain rfl := Option.some.inj hM
      refine AW_ret ?_
      simp (maxSteps := 10000000) [go_sem, h5, h5', h5'']
set_option maxHeartbeats 4000000 in
set_option maxRecDepth 100000 in
theorem w_szNotebook_ctr (k : Nat) (a0 : TNotebook) (a1 : Int) (r : Int) (hM : w_szNotebook k a0 a1 = some r) : Ctr Try.prog 18 [.agg (TNotebook.c a0), .one (.int .i64 a1)] true [.one (.int .i64 r)] := by
  unfold w_szNotebook at hM
  refine Ctr.of_walk (by kernel_rfl) Try.func18 rfl Try.ntmps18 Try.results18 (by simp) ?_; intro N w0 hbad
  refine AW_seq fun K1 hK1 => ?_
  refine AW_region ?_
  simp (maxSteps := 10000000) [go_sem]
  refine hK1 _ ?_
  refine AW_seq fun K2 hK2 => ?_
  obtain ⟨x1, e3, hM⟩ := bind_some hM
  refine AW_region ?_
  simp (maxSteps := 10000000) [go_sem]
  refine by_ctr false (w_szCellS_ctr k a0.cells a1 x1 e3) (by simp (maxSteps := 10000000) [go_sem]) (by simp) ?_
  simp (maxSteps := 10000000) [go_sem]
  refine hK2 _ ?_
  refine AW_seq fun K4 hK4 => ?_
  refine AW_seq fun K5 hK5 => ?_
  refine AW_region ?_
  simp (maxSteps := 10000000) [go_sem]
  refine hK5 _ ?_
  refine AW_cond (b := (decide (x1 < 0))) (by simp (maxSteps := 10000000) [go_sem]) (fun h6 => ?_) (fun h6 => ?_)
  · rw [if_pos h6] at hM
    have h6' := h6; try simp at h6'
    have h6'' : ¬ (0 ≤ x1) := by first | (have := h6; simp only [decide_eq_true_eq, decide_eq_false_iff_not, Bool.not_eq_true', Bool.not_eq_false', Bool.not_eq_true, Bool.not_eq_false] at this; omega) | (have := h6; simp at this; omega)
    refine AW_seq fun K7 hK7 => ?_
    refine AW_region ?_
    simp (maxSteps := 10000000) [go_sem, h6, h6', h6'']
    refine hK7 _ ?_
    obtain rfl := Option.some.inj hM
    refine AW_ret ?_
    simp (maxSteps := 10000000) [go_sem, h6, h6', h6'']
  · rw [if_neg (ne_true h6)] at hM
    have h6' := h6; try simp at h6'
    have h6'' : ¬ (x1 < 0) := by first | (have := h6; simp only [decide_eq_true_eq, decide_eq_false_iff_not, Bool.not_eq_true', Bool.not_eq_false', Bool.not_eq_true, Bool.not_eq_false] at this; omega) | (have := h6; simp at this; omega)
    refine AW_skip ?_
    refine hK4 _ ?_
    refine AW_seq fun K8 hK8 => ?_
    refine AW_region ?_
    simp (maxSteps := 10000000) [go_sem, h6, h6', h6'']
    refine hK8 _ ?_
    obtain rfl := Option.some.inj hM
    refine AW_ret ?_
    simp (maxSteps := 10000000) [go_sem, h6, h6', h6'']
set_option maxHeartbeats 4000000 in
set_option maxRecDepth 100000 in
theorem w_toCell_ctr (a0 : TCell) (r : TCell) (hM : w_toCell a0 = some r) : Ctr Try.prog 141 [.agg (TCell.c a0)] true [.agg (TCell.c r)] := by
  unfold w_toCell at hM
  refine Ctr.of_walk (by kernel_rfl) Try.func141 rfl Try.ntmps141 Try.results141 (by simp) ?_; intro N w0 hbad
  refine AW_seq fun K1 hK1 => ?_
  refine AW_region ?_
  simp (maxSteps := 10000000) [go_sem]
  refine hK1 _ ?_
  refine AW_seq fun K2 hK2 => ?_
  refine AW_region ?_
  simp (maxSteps := 10000000) [go_sem]
  refine hK2 _ ?_
  refine AW_seq fun K3 hK3 => ?_
  refine AW_region ?_
  simp (maxSteps := 10000000) [go_sem]
  refine hK3 _ ?_
  refine AW_seq fun K4 hK4 => ?_
  refine AW_region ?_
  simp (maxSteps := 10000000) [go_sem]
  refine hK4 _ ?_
  refine AW_seq fun K5 hK5 => ?_
  refine AW_region ?_
  simp (maxSteps := 10000000) [go_sem]
  refine hK5 _ ?_
  refine AW_seq fun K6 hK6 => ?_
  refine AW_region ?_
  simp (maxSteps := 10000000) [go_sem]
  refine hK6 _ ?_
  refine AW_seq fun K7 hK7 => ?_
  refine AW_region ?_
  simp (maxSteps := 10000000) [go_sem]
  refine hK7 _ ?_
  refine AW_seq fun K8 hK8 => ?_
  refine AW_region ?_
  simp (maxSteps := 10000000) [go_sem]
  refine hK8 _ ?_
  refine AW_seq fun K9 hK9 => ?_
  refine AW_region ?_
  simp (maxSteps := 10000000) [go_sem]
  refine hK9 _ ?_
  obtain rfl := Option.some.inj hM
  refine AW_ret ?_
  simp (maxSteps := 10000000) [go_sem]
set_option maxHeartbeats 4000000 in
set_option maxRecDepth 100000 in
theorem w_toCellS_ctr (k : Nat) (a0 : List TCell) (r : List TCell) (hM : w_toCellS k a0 = some r) : Ctr Try.prog 78 [.one (.sl (a0.map TCell.c))] true [.one (.sl (r.map TCell.c))] := by
  unfold w_toCellS at hM
  refine Ctr.of_walk (by kernel_rfl) Try.func78 rfl Try.ntmps78 Try.results78 (by simp) ?_; intro N w0 hbad
  refine AW_seq fun K1 hK1 => ?_
  refine AW_region ?_
  simp (maxSteps := 10000000) [go_sem]
  refine hK1 _ ?_
  refine AW_seq fun K2 hK2 => ?_
  obtain ⟨x1, e3, hM⟩ := bind_some hM
  obtain ⟨c4, s5, s6, s7⟩ := mk_spec e3
  replace c4 := c4.symm; subst c4
  try simp at s5
  try simp at s6
  try simp at s7
  refine AW_region ?_
  simp (maxSteps := 10000000) [go_sem, s5, s6, s7]
  refine hK2 _ ?_
  obtain ⟨e8, hU10, hR9⟩ := bind_some hM; clear hM
  refine AW_mid (ι := List TCell) (fun i => ⟨23, [(3, .one (.own 448 i.length))], [], [(448, some ⟨true, i.map TCell.c⟩)]⟩) (fun i => i = e8) ?_ ?_
  · intro K11 hK11
    have hM := hU10; clear hU10
    refine AW_seq fun K12 hK12 => ?_
    refine AW_region ?_
    simp (maxSteps := 10000000) [go_sem, s5, s6, s7]
    refine hK12 _ ?_
    refine AW_block ?_
    refine AW_go (ι := (List TCell) × Int) (fun i => ⟨23, [(0, .one (.l (.sl (a0.map TCell.c)))), (3, .one (.own 448 i.1.length)), (4, .one (.l (.int .i64 i.2)))], [], [(448, some ⟨true, i.1.map TCell.c⟩)]⟩) (fun n i => w_toCellS_u1 a0 n i.1 i.2 = some e8) k ((List.replicate ((a0.length : Int).toNat) (TCell.mk 0 0 0 (⟨#[]⟩ : ByteArray) (⟨#[]⟩ : ByteArray) 0)), 0) hM (Lift.into (by constructor <;> simp [go_sem, s5, s6, s7])) (fun _ h => by simp [w_toCellS_u1] at h) ?_
    intro KL13 n ⟨x3, x4⟩ hL13 hM
    have hM : w_toCellS_u1 a0 (n + 1) x3 x4 = some e8 := hM; rw [w_toCellS_u1] at hM
    refine AW_seq fun K14 hK14 => ?_
    refine AW_seq fun K15 hK15 => ?_
    refine AW_region ?_
    simp (maxSteps := 10000000) [go_sem]
    refine hK15 _ ?_
    refine AW_cond (b := (decide (x4 < (a0.length : Int)))) (by simp (maxSteps := 10000000) [go_sem]) (fun h16 => ?_) (fun h16 => ?_)
    · rw [if_pos h16] at hM
      have h16' := h16; try simp at h16'
      have h16'' : ¬ ((a0.length : Int) ≤ x4) := by first | (have := h16; simp only [decide_eq_true_eq, decide_eq_false_iff_not, Bool.not_eq_true', Bool.not_eq_false', Bool.not_eq_true, Bool.not_eq_false] at this; omega) | (have := h16; simp at this; omega)
      refine AW_skip ?_
      refine hK14 _ ?_
      refine AW_seq fun K17 hK17 => ?_
      refine AW_block ?_
      obtain ⟨x5, e18, hM⟩ := bind_some hM
      obtain ⟨p19, q20, l21, g22⟩ := at_spec e18
      obtain ⟨x6, e23, hM⟩ := bind_some hM
      obtain ⟨x7, e24, hM⟩ := bind_some hM
      obtain ⟨p25, q26, l27, g28⟩ := at_spec e24
      refine AW_region ?_
      simp (maxSteps := 10000000) [go_sem, h16, h16', h16'', p19, q20, g22, p25, q26, g28, l27]
      refine by_ctr false (w_toCell_ctr x5 x6 e23) (by simp (maxSteps := 10000000) [go_sem, h16, h16', h16'', p19, q20, g22, p25, q26, g28, l27]) (by simp) ?_
      simp (maxSteps := 10000000) [go_sem, h16, h16', h16'', p19, q20, g22, p25, q26, g28, l27]
      refine hK17 _ ?_
      refine AW_region ?_
      simp (maxSteps := 10000000) [go_sem, h16, h16', h16'', p19, q20, g22, p25, q26, g28, l27]
      exact hL13 ((x3.set x4.toNat x6), (IntKind.i64.wrap (x4 + 1))) _ hM (Lift.into (by constructor <;> simp [go_sem, h16, h16', h16'', p19, q20, g22, p25, q26, g28, l27]))
    · rw [if_neg (ne_true h16)] at hM
      have h16' := h16; try simp at h16'
      have h16'' : ¬ (x4 < (a0.length : Int)) := by first | (have := h16; simp only [decide_eq_true_eq, decide_eq_false_iff_not, Bool.not_eq_true', Bool.not_eq_false', Bool.not_eq_true, Bool.not_eq_false] at this; omega) | (have := h16; simp at this; omega)
      refine AW_exit ?_
      obtain rfl := Option.some.inj hM
      exact hK11 x3 _ rfl (Lift.into (by constructor <;> simp [go_sem, h16, h16', h16'']))
  · rintro x2 rfl
    have hM := hR9
    try dsimp only at hM
    refine AW_seq fun K29 hK29 => ?_
    refine AW_region ?_
    simp (maxSteps := 10000000) [go_sem, s5, s6, s7]
    refine hK29 _ ?_
    obtain rfl := Option.some.inj hM
    refine AW_ret ?_
    simp (maxSteps := 10000000) [go_sem, s5, s6, s7]
set_option maxHeartbeats 4000000 in
set_option maxRecDepth 100000 in
theorem w_toNotebook_ctr (k : Nat) (a0 : TNotebook) (r : TNotebook) (hM : w_toNotebook k a0 = some r) : Ctr Try.prog 21 [.agg (TNotebook.c a0)] true [.agg (TNotebook.c r)] := by
  unfold w_toNotebook at hM
  refine Ctr.of_walk (by kernel_rfl) Try.func21 rfl Try.ntmps21 Try.results21 (by simp) ?_; intro N w0 hbad
  refine AW_seq fun K1 hK1 => ?_
  refine AW_region ?_
  simp (maxSteps := 10000000) [go_sem]
  refine hK1 _ ?_
  refine AW_seq fun K2 hK2 => ?_
  refine AW_region ?_
  simp (maxSteps := 10000000) [go_sem]
  refine hK2 _ ?_
  refine AW_seq fun K3 hK3 => ?_
  obtain ⟨x1, e4, hM⟩ := bind_some hM
  refine AW_region ?_
  simp (maxSteps := 10000000) [go_sem]
  refine by_ctr false (w_toCellS_ctr k a0.cells x1 e4) (by simp (maxSteps := 10000000) [go_sem]) (by simp) ?_
  simp (maxSteps := 10000000) [go_sem]
  refine hK3 _ ?_
  refine AW_seq fun K5 hK5 => ?_
  refine AW_region ?_
  simp (maxSteps := 10000000) [go_sem]
  refine hK5 _ ?_
  obtain rfl := Option.some.inj hM
  refine AW_ret ?_
  simp (maxSteps := 10000000) [go_sem]
set_option maxHeartbeats 4000000 in
set_option maxRecDepth 100000 in
theorem w_eqIntS_ctr (k : Nat) (a0 : List Int) (a1 : List Int) (r : Bool) (hM : w_eqIntS k a0 a1 = some r) : Ctr Try.prog 33 [.one (.sl (a0.map iC)), .one (.sl (a1.map iC))] true [.one (.bool r)] := by
  unfold w_eqIntS at hM
  refine Ctr.of_walk (by kernel_rfl) Try.func33 rfl Try.ntmps33 Try.results33 (by simp) ?_; intro N w0 hbad
  refine AW_seq fun K1 hK1 => ?_
  refine AW_region ?_
  simp (maxSteps := 10000000) [go_sem]
  refine hK1 _ ?_
  refine AW_seq fun K2 hK2 => ?_
  refine AW_seq fun K3 hK3 => ?_
  refine AW_region ?_
  simp (maxSteps := 10000000) [go_sem]
  refine hK3 _ ?_
  refine AW_cond (b := (!decide ((a0.length : Int) = (a1.length : Int)))) (by simp (maxSteps := 10000000) [go_sem]) (fun h4 => ?_) (fun h4 => ?_)
  · rw [if_pos h4] at hM
    have h4' := h4; try simp at h4'
    refine AW_seq fun K5 hK5 => ?_
    refine AW_region ?_
    simp (maxSteps := 10000000) [go_sem, h4, h4']
    refine hK5 _ ?_
    obtain rfl := Option.some.inj hM
    refine AW_ret ?_
    simp (maxSteps := 10000000) [go_sem, h4, h4']
  · rw [if_neg (ne_true h4)] at hM
    have h4' := h4; try simp at h4'
    refine AW_skip ?_
    refine hK2 _ ?_
    obtain ⟨e6, hU8, hR7⟩ := bind_some hM; clear hM
    refine AW_mid (ι := Unit) (fun i => ⟨26, [], [], []⟩) (fun i => (.inl i) = e6) ?_ ?_
    · intro K9 hK9
      have hM := hU8; clear hU8
      refine AW_seq fun K10 hK10 => ?_
      refine AW_region ?_
      simp (maxSteps := 10000000) [go_sem, h4, h4']
      refine hK10 _ ?_
      refine AW_block ?_
      refine AW_go (ι := Int) (fun i => ⟨26, [(0, .one (.l (.sl (a0.map iC)))), (1, .one (.l (.sl (a1.map iC)))), (5, .one (.l (.int .i64 i)))], [], []⟩) (fun n i => w_eqIntS_u1 a0 a1 n i = some e6) k 0 hM (Lift.into (by constructor <;> simp [go_sem, h4, h4'])) (fun _ h => by simp [w_eqIntS_u1] at h) ?_
      intro KL11 n x1 hL11 hM
      have hM : w_eqIntS_u1 a0 a1 (n + 1) x1 = some e6 := hM; rw [w_eqIntS_u1] at hM
      refine AW_seq fun K12 hK12 => ?_
      refine AW_seq fun K13 hK13 => ?_
      refine AW_region ?_
      simp (maxSteps := 10000000) [go_sem]
      refine hK13 _ ?_
      refine AW_cond (b := (decide (x1 < (a0.length : Int)))) (by simp (maxSteps := 10000000) [go_sem]) (fun h14 => ?_) (fun h14 => ?_)
      · rw [if_pos h14] at hM
        have h14' := h14; try simp at h14'
        have h14'' : ¬ ((a0.length : Int) ≤ x1) := by first | (have := h14; simp only [decide_eq_true_eq, decide_eq_false_iff_not, Bool.not_eq_true', Bool.not_eq_false', Bool.not_eq_true, Bool.not_eq_false] at this; omega) | (have := h14; simp at this; omega)
        refine AW_skip ?_
        refine hK12 _ ?_
        refine AW_seq fun K15 hK15 => ?_
        refine AW_block ?_
        refine AW_seq fun K16 hK16 => ?_
        obtain ⟨x2, e17, hM⟩ := bind_some hM
        obtain ⟨p18, q19, l20, g21⟩ := at_spec e17
        obtain ⟨x3, e22, hM⟩ := bind_some hM
        obtain ⟨p23, q24, l25, g26⟩ := at_spec e22
        refine AW_quick [[], [], [0, 1], [0, 1, 2], [], [], [4, 5], [4, 5, 6], [0, 1, 2, 3, 4, 5, 6, 7]] 8 mixed (by kernel_rfl) (by kernel_rfl) ?_
        simp (maxSteps := 10000000) [go_sem, h14, h14', h14'', p18, q19, g21, p23, q24, g26]
        refine hK16 _ ?_
        refine AW_cond (b := (!decide (x2 = x3))) (by simp (maxSteps := 10000000) [go_sem, h14, h14', h14'', p18, q19, g21, p23, q24, g26]) (fun h27 => ?_) (fun h27 => ?_)
        · rw [if_pos h27] at hM
          have h27' := h27; try simp at h27'
          refine AW_seq fun K28 hK28 => ?_
          refine AW_region ?_
          simp (maxSteps := 10000000) [go_sem, h14, h14', h14'', p18, q19, g21, p23, q24, g26, h27, h27']
          refine hK28 _ ?_
          obtain rfl := Option.some.inj hM
          have hM := hR7; dsimp only at hM
          obtain rfl := Option.some.inj hM
          refine AW_ret ?_
          simp (maxSteps := 10000000) [go_sem, h14, h14', h14'', p18, q19, g21, p23, q24, g26, h27, h27']
        · rw [if_neg (ne_true h27)] at hM
          have h27' := h27; try simp at h27'
          refine AW_skip ?_
          refine hK15 _ ?_
          refine AW_region ?_
          simp (maxSteps := 10000000) [go_sem, h14, h14', h14'', p18, q19, g21, p23, q24, g26, h27, h27']
          exact hL11 (IntKind.i64.wrap (x1 + 1)) _ hM (Lift.into (by constructor <;> simp [go_sem, h14, h14', h14'', p18, q19, g21, p23, q24, g26, h27, h27']))
      · rw [if_neg (ne_true h14)] at hM
        have h14' := h14; try simp at h14'
        have h14'' : ¬ (x1 < (a0.length : Int)) := by first | (have := h14; simp only [decide_eq_true_eq, decide_eq_false_iff_not, Bool.not_eq_true', Bool.not_eq_false', Bool.not_eq_true, Bool.not_eq_false] at this; omega) | (have := h14; simp at this; omega)
        refine AW_exit ?_
        obtain rfl := Option.some.inj hM
        exact hK9 () _ rfl (Lift.into (by constructor <;> simp [go_sem, h14, h14', h14'']))
    · rintro _ rfl
      have hM := hR7
      dsimp only at hM
      refine AW_seq fun K29 hK29 => ?_
      refine AW_region ?_
      simp (maxSteps := 10000000) [go_sem, h4, h4']
      refine hK29 _ ?_
      obtain rfl := Option.some.inj hM
      refine AW_ret ?_
      simp (maxSteps := 10000000) [go_sem, h4, h4']
set_option maxHeartbeats 4000000 in
set_option maxRecDepth 100000 in
theorem w_eqCell_ctr (a0 : TCell) (a1 : TCell) (r : Bool) (hM : w_eqCell a0 a1 = some r) : Ctr Try.prog 142 [.agg (TCell.c a0), .agg (TCell.c a1)] true [.one (.bool r)] := by
  unfold w_eqCell at hM
  refine Ctr.of_walk (by kernel_rfl) Try.func142 rfl Try.ntmps142 Try.results142 (by simp) ?_; intro N w0 hbad
  refine AW_seq fun K1 hK1 => ?_
  refine AW_region ?_
  simp (maxSteps := 10000000) [go_sem]
  refine hK1 _ ?_
  refine AW_seq fun K2 hK2 => ?_
  refine AW_seq fun K3 hK3 => ?_
  refine AW_region ?_
  simp (maxSteps := 10000000) [go_sem]
  refine hK3 _ ?_
  refine AW_cond (b := (!decide (a0.id = a1.id))) (by simp (maxSteps := 10000000) [go_sem]) (fun h4 => ?_) (fun h4 => ?_)
  · rw [if_pos h4] at hM
    have h4' := h4; try simp at h4'
    refine AW_seq fun K5 hK5 => ?_
    refine AW_region ?_
    simp (maxSteps := 10000000) [go_sem, h4, h4']
    refine hK5 _ ?_
    obtain rfl := Option.some.inj hM
    refine AW_ret ?_
    simp (maxSteps := 10000000) [go_sem, h4, h4']
  · rw [if_neg (ne_true h4)] at hM
    have h4' := h4; try simp at h4'
    refine AW_skip ?_
    refine hK2 _ ?_
    refine AW_seq fun K6 hK6 => ?_
    refine AW_seq fun K7 hK7 => ?_
    refine AW_region ?_
    simp (maxSteps := 10000000) [go_sem, h4, h4']
    refine hK7 _ ?_
    refine AW_cond (b := (!decide (a0.version = a1.version))) (by simp (maxSteps := 10000000) [go_sem, h4, h4']) (fun h8 => ?_) (fun h8 => ?_)
    · rw [if_pos h8] at hM
      have h8' := h8; try simp at h8'
      refine AW_seq fun K9 hK9 => ?_
      refine AW_region ?_
      simp (maxSteps := 10000000) [go_sem, h4, h4', h8, h8']
      refine hK9 _ ?_
      obtain rfl := Option.some.inj hM
      refine AW_ret ?_
      simp (maxSteps := 10000000) [go_sem, h4, h4', h8, h8']
    · rw [if_neg (ne_true h8)] at hM
      have h8' := h8; try simp at h8'
      refine AW_skip ?_
      refine hK6 _ ?_
      refine AW_seq fun K10 hK10 => ?_
      refine AW_seq fun K11 hK11 => ?_
      refine AW_region ?_
      simp (maxSteps := 10000000) [go_sem, h4, h4', h8, h8']
      refine hK11 _ ?_
      refine AW_cond (b := (!decide (a0.kind = a1.kind))) (by simp (maxSteps := 10000000) [go_sem, h4, h4', h8, h8']) (fun h12 => ?_) (fun h12 => ?_)
      · rw [if_pos h12] at hM
        have h12' := h12; try simp at h12'
        refine AW_seq fun K13 hK13 => ?_
        refine AW_region ?_
        simp (maxSteps := 10000000) [go_sem, h4, h4', h8, h8', h12, h12']
        refine hK13 _ ?_
        obtain rfl := Option.some.inj hM
        refine AW_ret ?_
        simp (maxSteps := 10000000) [go_sem, h4, h4', h8, h8', h12, h12']
      · rw [if_neg (ne_true h12)] at hM
        have h12' := h12; try simp at h12'
        refine AW_skip ?_
        refine hK10 _ ?_
        refine AW_seq fun K14 hK14 => ?_
        refine AW_seq fun K15 hK15 => ?_
        refine AW_region ?_
        simp (maxSteps := 10000000) [go_sem, h4, h4', h8, h8', h12, h12']
        refine hK15 _ ?_
        refine AW_cond (b := (!decide (a0.name = a1.name))) (by simp (maxSteps := 10000000) [go_sem, h4, h4', h8, h8', h12, h12']) (fun h16 => ?_) (fun h16 => ?_)
        · rw [if_pos h16] at hM
          have h16' := h16; try simp at h16'
          refine AW_seq fun K17 hK17 => ?_
          refine AW_region ?_
          simp (maxSteps := 10000000) [go_sem, h4, h4', h8, h8', h12, h12', h16, h16']
          refine hK17 _ ?_
          obtain rfl := Option.some.inj hM
          refine AW_ret ?_
          simp (maxSteps := 10000000) [go_sem, h4, h4', h8, h8', h12, h12', h16, h16']
        · rw [if_neg (ne_true h16)] at hM
          have h16' := h16; try simp at h16'
          refine AW_skip ?_
          refine hK14 _ ?_
          refine AW_seq fun K18 hK18 => ?_
          refine AW_seq fun K19 hK19 => ?_
          refine AW_region ?_
          simp (maxSteps := 10000000) [go_sem, h4, h4', h8, h8', h12, h12', h16, h16']
          refine hK19 _ ?_
          refine AW_cond (b := (!decide (a0.code = a1.code))) (by simp (maxSteps := 10000000) [go_sem, h4, h4', h8, h8', h12, h12', h16, h16']) (fun h20 => ?_) (fun h20 => ?_)
          · rw [if_pos h20] at hM
            have h20' := h20; try simp at h20'
            refine AW_seq fun K21 hK21 => ?_
            refine AW_region ?_
            simp (maxSteps := 10000000) [go_sem, h4, h4', h8, h8', h12, h12', h16, h16', h20, h20']
            refine hK21 _ ?_
            obtain rfl := Option.some.inj hM
            refine AW_ret ?_
            simp (maxSteps := 10000000) [go_sem, h4, h4', h8, h8', h12, h12', h16, h16', h20, h20']
          · rw [if_neg (ne_true h20)] at hM
            have h20' := h20; try simp at h20'
            refine AW_skip ?_
            refine hK18 _ ?_
            refine AW_seq fun K22 hK22 => ?_
            refine AW_seq fun K23 hK23 => ?_
            refine AW_region ?_
            simp (maxSteps := 10000000) [go_sem, h4, h4', h8, h8', h12, h12', h16, h16', h20, h20']
            refine hK23 _ ?_
            refine AW_cond (b := (!decide (a0.n = a1.n))) (by simp (maxSteps := 10000000) [go_sem, h4, h4', h8, h8', h12, h12', h16, h16', h20, h20']) (fun h24 => ?_) (fun h24 => ?_)
            · rw [if_pos h24] at hM
              have h24' := h24; try simp at h24'
              refine AW_seq fun K25 hK25 => ?_
              refine AW_region ?_
              simp (maxSteps := 10000000) [go_sem, h4, h4', h8, h8', h12, h12', h16, h16', h20, h20', h24, h24']
              refine hK25 _ ?_
              obtain rfl := Option.some.inj hM
              refine AW_ret ?_
              simp (maxSteps := 10000000) [go_sem, h4, h4', h8, h8', h12, h12', h16, h16', h20, h20', h24, h24']
            · rw [if_neg (ne_true h24)] at hM
              have h24' := h24; try simp at h24'
              refine AW_skip ?_
              refine hK22 _ ?_
              refine AW_seq fun K26 hK26 => ?_
              refine AW_region ?_
              simp (maxSteps := 10000000) [go_sem, h4, h4', h8, h8', h12, h12', h16, h16', h20, h20', h24, h24']
              refine hK26 _ ?_
              obtain rfl := Option.some.inj hM
              refine AW_ret ?_
              simp (maxSteps := 10000000) [go_sem, h4, h4', h8, h8', h12, h12', h16, h16', h20, h20', h24, h24']
set_option maxHeartbeats 4000000 in
set_option maxRecDepth 100000 in
theorem w_eqCellS_ctr (k : Nat) (a0 : List TCell) (a1 : List TCell) (r : Bool) (hM : w_eqCellS k a0 a1 = some r) : Ctr Try.prog 82 [.one (.sl (a0.map TCell.c)), .one (.sl (a1.map TCell.c))] true [.one (.bool r)] := by
  unfold w_eqCellS at hM
  refine Ctr.of_walk (by kernel_rfl) Try.func82 rfl Try.ntmps82 Try.results82 (by simp) ?_; intro N w0 hbad
  refine AW_seq fun K1 hK1 => ?_
  refine AW_region ?_
  simp (maxSteps := 10000000) [go_sem]
  refine hK1 _ ?_
  refine AW_seq fun K2 hK2 => ?_
  refine AW_seq fun K3 hK3 => ?_
  refine AW_region ?_
  simp (maxSteps := 10000000) [go_sem]
  refine hK3 _ ?_
  refine AW_cond (b := (!decide ((a0.length : Int) = (a1.length : Int)))) (by simp (maxSteps := 10000000) [go_sem]) (fun h4 => ?_) (fun h4 => ?_)
  · rw [if_pos h4] at hM
    have h4' := h4; try simp at h4'
    refine AW_seq fun K5 hK5 => ?_
    refine AW_region ?_
    simp (maxSteps := 10000000) [go_sem, h4, h4']
    refine hK5 _ ?_
    obtain rfl := Option.some.inj hM
    refine AW_ret ?_
    simp (maxSteps := 10000000) [go_sem, h4, h4']
  · rw [if_neg (ne_true h4)] at hM
    have h4' := h4; try simp at h4'
    refine AW_skip ?_
    refine hK2 _ ?_
    obtain ⟨e6, hU8, hR7⟩ := bind_some hM; clear hM
    refine AW_mid (ι := Unit) (fun i => ⟨27, [], [], []⟩) (fun i => (.inl i) = e6) ?_ ?_
    · intro K9 hK9
      have hM := hU8; clear hU8
      refine AW_seq fun K10 hK10 => ?_
      refine AW_region ?_
      simp (maxSteps := 10000000) [go_sem, h4, h4']
      refine hK10 _ ?_
      refine AW_block ?_
      refine AW_go (ι := Int) (fun i => ⟨27, [(0, .one (.l (.sl (a0.map TCell.c)))), (1, .one (.l (.sl (a1.map TCell.c)))), (5, .one (.l (.int .i64 i)))], [], []⟩) (fun n i => w_eqCellS_u1 a0 a1 n i = some e6) k 0 hM (Lift.into (by constructor <;> simp [go_sem, h4, h4'])) (fun _ h => by simp [w_eqCellS_u1] at h) ?_
      intro KL11 n x1 hL11 hM
      have hM : w_eqCellS_u1 a0 a1 (n + 1) x1 = some e6 := hM; rw [w_eqCellS_u1] at hM
      refine AW_seq fun K12 hK12 => ?_
      refine AW_seq fun K13 hK13 => ?_
      refine AW_region ?_
      simp (maxSteps := 10000000) [go_sem]
      refine hK13 _ ?_
      refine AW_cond (b := (decide (x1 < (a0.length : Int)))) (by simp (maxSteps := 10000000) [go_sem]) (fun h14 => ?_) (fun h14 => ?_)
      · rw [if_pos h14] at hM
        have h14' := h14; try simp at h14'
        have h14'' : ¬ ((a0.length : Int) ≤ x1) := by first | (have := h14; simp only [decide_eq_true_eq, decide_eq_false_iff_not, Bool.not_eq_true', Bool.not_eq_false', Bool.not_eq_true, Bool.not_eq_false] at this; omega) | (have := h14; simp at this; omega)
        refine AW_skip ?_
        refine hK12 _ ?_
        refine AW_seq fun K15 hK15 => ?_
        refine AW_block ?_
        refine AW_seq fun K16 hK16 => ?_
        obtain ⟨x2, e17, hM⟩ := bind_some hM
        obtain ⟨p18, q19, l20, g21⟩ := at_spec e17
        obtain ⟨x3, e22, hM⟩ := bind_some hM
        obtain ⟨p23, q24, l25, g26⟩ := at_spec e22
        obtain ⟨x4, e27, hM⟩ := bind_some hM
        refine AW_quick [[], [], [0, 1], [0, 1, 2], [], [], [4, 5], [4, 5, 6], [0, 1, 2, 3, 4, 5, 6, 7], [0, 1, 2, 3, 4, 5, 6, 7, 8]] 8 mixed (by kernel_rfl) (by kernel_rfl) ?_
        simp (maxSteps := 10000000) [go_sem, h14, h14', h14'', p18, q19, g21, p23, q24, g26]
        refine by_ctr false (w_eqCell_ctr x2 x3 x4 e27) (by simp (maxSteps := 10000000) [go_sem, h14, h14', h14'', p18, q19, g21, p23, q24, g26]) (by simp) ?_
        simp (maxSteps := 10000000) [go_sem, h14, h14', h14'', p18, q19, g21, p23, q24, g26]
        refine hK16 _ ?_
        refine AW_cond (b := (!x4)) (by simp (maxSteps := 10000000) [go_sem, h14, h14', h14'', p18, q19, g21, p23, q24, g26]) (fun h28 => ?_) (fun h28 => ?_)
        · rw [if_pos h28] at hM
          have h28' := h28; try simp at h28'
          refine AW_seq fun K29 hK29 => ?_
          refine AW_region ?_
          simp (maxSteps := 10000000) [go_sem, h14, h14', h14'', p18, q19, g21, p23, q24, g26, h28, h28']
          refine hK29 _ ?_
          obtain rfl := Option.some.inj hM
          have hM := hR7; dsimp only at hM
          obtain rfl := Option.some.inj hM
          refine AW_ret ?_
          simp (maxSteps := 10000000) [go_sem, h14, h14', h14'', p18, q19, g21, p23, q24, g26, h28, h28']
        · rw [if_neg (ne_true h28)] at hM
          have h28' := h28; try simp at h28'
          refine AW_skip ?_
          refine hK15 _ ?_
          refine AW_region ?_
          simp (maxSteps := 10000000) [go_sem, h14, h14', h14'', p18, q19, g21, p23, q24, g26, h28, h28']
          exact hL11 (IntKind.i64.wrap (x1 + 1)) _ hM (Lift.into (by constructor <;> simp [go_sem, h14, h14', h14'', p18, q19, g21, p23, q24, g26, h28, h28']))
      · rw [if_neg (ne_true h14)] at hM
        have h14' := h14; try simp at h14'
        have h14'' : ¬ (x1 < (a0.length : Int)) := by first | (have := h14; simp only [decide_eq_true_eq, decide_eq_false_iff_not, Bool.not_eq_true', Bool.not_eq_false', Bool.not_eq_true, Bool.not_eq_false] at this; omega) | (have := h14; simp at this; omega)
        refine AW_exit ?_
        obtain rfl := Option.some.inj hM
        exact hK9 () _ rfl (Lift.into (by constructor <;> simp [go_sem, h14, h14', h14'']))
    · rintro _ rfl
      have hM := hR7
      dsimp only at hM
      refine AW_seq fun K30 hK30 => ?_
      refine AW_region ?_
      simp (maxSteps := 10000000) [go_sem, h4, h4']
      refine hK30 _ ?_
      obtain rfl := Option.some.inj hM
      refine AW_ret ?_
      simp (maxSteps := 10000000) [go_sem, h4, h4']
set_option maxHeartbeats 4000000 in
set_option maxRecDepth 100000 in
theorem w_eqNotebook_ctr (k : Nat) (a0 : TNotebook) (a1 : TNotebook) (r : Bool) (hM : w_eqNotebook k a0 a1 = some r) : Ctr Try.prog 25 [.agg (TNotebook.c a0), .agg (TNotebook.c a1)] true [.one (.bool r)] := by
  unfold w_eqNotebook at hM
  refine Ctr.of_walk (by kernel_rfl) Try.func25 rfl Try.ntmps25 Try.results25 (by simp) ?_; intro N w0 hbad
  refine AW_seq fun K1 hK1 => ?_
  refine AW_region ?_
  simp (maxSteps := 10000000) [go_sem]
  refine hK1 _ ?_
  refine AW_seq fun K2 hK2 => ?_
  refine AW_seq fun K3 hK3 => ?_
  obtain ⟨x1, e4, hM⟩ := bind_some hM
  refine AW_region ?_
  simp (maxSteps := 10000000) [go_sem]
  refine by_ctr false (w_eqCellS_ctr k a0.cells a1.cells x1 e4) (by simp (maxSteps := 10000000) [go_sem]) (by simp) ?_
  simp (maxSteps := 10000000) [go_sem]
  refine hK3 _ ?_
  refine AW_cond (b := (!x1)) (by simp (maxSteps := 10000000) [go_sem]) (fun h5 => ?_) (fun h5 => ?_)
  · rw [if_pos h5] at hM
    have h5' := h5; try simp at h5'
    refine AW_seq fun K6 hK6 => ?_
    refine AW_region ?_
    simp (maxSteps := 10000000) [go_sem, h5, h5']
    refine hK6 _ ?_
    obtain rfl := Option.some.inj hM
    refine AW_ret ?_
    simp (maxSteps := 10000000) [go_sem, h5, h5']
  · rw [if_neg (ne_true h5)] at hM
    have h5' := h5; try simp at h5'
    refine AW_skip ?_
    refine hK2 _ ?_
    refine AW_seq fun K7 hK7 => ?_
    refine AW_region ?_
    simp (maxSteps := 10000000) [go_sem, h5, h5']
    refine hK7 _ ?_
    obtain rfl := Option.some.inj hM
    refine AW_ret ?_
    simp (maxSteps := 10000000) [go_sem, h5, h5']
set_option maxHeartbeats 4000000 in
set_option maxRecDepth 100000 in
theorem w_szLine_ctr (a0 : TLine) (a1 : Int) (r : Int) (hM : w_szLine a0 a1 = some r) : Ctr Try.prog 88 [.agg (TLine.c a0), .one (.int .i64 a1)] true [.one (.int .i64 r)] := by
  unfold w_szLine at hM
  refine Ctr.of_walk (by kernel_rfl) Try.func88 rfl Try.ntmps88 Try.results88 (by simp) ?_; intro N w0 hbad
  refine AW_seq fun K1 hK1 => ?_
  refine AW_region ?_
  simp (maxSteps := 10000000) [go_sem]
  refine hK1 _ ?_
  refine AW_seq fun K2 hK2 => ?_
  refine AW_region ?_
  simp (maxSteps := 10000000) [go_sem]
  refine hK2 _ ?_
  refine AW_seq fun K3 hK3 => ?_
  refine AW_seq fun K4 hK4 => ?_
  refine AW_region ?_
  simp (maxSteps := 10000000) [go_sem]
  refine hK4 _ ?_
  refine AW_cond (b := (decide ((IntKind.i64.wrap (a1 - (a0.text.size : Int))) < 0))) (by simp (maxSteps := 10000000) [go_sem]) (fun h5 => ?_) (fun h5 => ?_)
  · rw [if_pos h5] at hM
    have h5' := h5; try simp at h5'
    have h5'' : ¬ (0 ≤ (IntKind.i64.wrap (a1 - (a0.text.size : Int)))) := by first | (have := h5; simp only [decide_eq_true_eq, decide_eq_false_iff_not, Bool.not_eq_true', Bool.not_eq_false', Bool.not_eq_true, Bool.not_eq_false] at this; omega) | (have := h5; simp at this; omega)
    refine AW_seq fun K6 hK6 => ?_
    refine AW_region ?_
    simp (maxSteps := 10000000) [go_sem, h5, h5', h5'']
    refine hK6 _ ?_
    obtain rfl := Option.some.inj hM
    refine AW_ret ?_
    simp (maxSteps := 10000000) [go_sem, h5, h5', h5'']
  · rw [if_neg (ne_true h5)] at hM
    have h5' := h5; try simp at h5'
    have h5'' : ¬ ((IntKind.i64.wrap (a1 - (a0.text.size : Int))) < 0) := by first | (have := h5; simp only [decide_eq_true_eq, decide_eq_false_iff_not, Bool.not_eq_true', Bool.not_eq_false', Bool.not_eq_true, Bool.not_eq_false] at this; omega) | (have := h5; simp at this; omega)
    refine AW_skip ?_
    refine hK3 _ ?_
    refine AW_seq fun K7 hK7 => ?_
    refine AW_region ?_
    simp (maxSteps := 10000000) [go_sem, h5, h5', h5'']
    refine hK7 _ ?_
    obtain rfl := Option.some.inj hM
    refine AW_ret ?_
    simp (maxSteps := 10000000) [go_sem, h5, h5', h5'']
set_option maxHeartbeats 4000000 in
set_option maxRecDepth 100000 in
theorem w_szLineS_ctr (k : Nat) (a0 : List TLine) (a1 : Int) (r : Int) (hM : w_szLineS k a0 a1 = some r) : Ctr Try.prog 36 [.one (.sl (a0.map TLine.c)), .one (.int .i64 a1)] true [.one (.int .i64 r)] := by
  unfold w_szLineS at hM
  refine Ctr.of_walk (by kernel_rfl) Try.func36 rfl Try.ntmps36 Try.results36 (by simp) ?_; intro N w0 hbad
  refine AW_seq fun K1 hK1 => ?_
  refine AW_region ?_
  simp (maxSteps := 10000000) [go_sem]
  refine hK1 _ ?_
  refine AW_seq fun K2 hK2 => ?_
  refine AW_region ?_
  simp (maxSteps := 10000000) [go_sem]
  refine hK2 _ ?_
  refine AW_seq fun K3 hK3 => ?_
  refine AW_seq fun K4 hK4 => ?_
  refine AW_region ?_
  simp (maxSteps := 10000000) [go_sem]
  refine hK4 _ ?_
  refine AW_cond (b := (decide ((IntKind.i64.wrap (a1 - (a0.length : Int))) < 0))) (by simp (maxSteps := 10000000) [go_sem]) (fun h5 => ?_) (fun h5 => ?_)
  · rw [if_pos h5] at hM
    have h5' := h5; try simp at h5'
    have h5'' : ¬ (0 ≤ (IntKind.i64.wrap (a1 - (a0.length : Int)))) := by first | (have := h5; simp only [decide_eq_true_eq, decide_eq_false_iff_not, Bool.not_eq_true', Bool.not_eq_false', Bool.not_eq_true, Bool.not_eq_false] at this; omega) | (have := h5; simp at this; omega)
    refine AW_seq fun K6 hK6 => ?_
    refine AW_region ?_
    simp (maxSteps := 10000000) [go_sem, h5, h5', h5'']
    refine hK6 _ ?_
    obtain rfl := Option.some.inj hM
    refine AW_ret ?_
    simp (maxSteps := 10000000) [go_sem, h5, h5', h5'']
  · rw [if_neg (ne_true h5)] at hM
    have h5' := h5; try simp at h5'
    have h5'' : ¬ ((IntKind.i64.wrap (a1 - (a0.length : Int))) < 0) := by first | (have := h5; simp only [decide_eq_true_eq, decide_eq_false_iff_not, Bool.not_eq_true', Bool.not_eq_false', Bool.not_eq_true, Bool.not_eq_false] at this; omega) | (have := h5; simp at this; omega)
    refine AW_skip ?_
    refine hK3 _ ?_
    obtain ⟨e7, hU9, hR8⟩ := bind_some hM; clear hM
    refine AW_mid (ι := Int) (fun i => ⟨27, [(1, .one (.l (.int .i64 i)))], [], []⟩) (fun i => (.inl i) = e7) ?_ ?_
    · intro K10 hK10
      have hM := hU9; clear hU9
      refine AW_seq fun K11 hK11 => ?_
      refine AW_region ?_
      simp (maxSteps := 10000000) [go_sem, h5, h5', h5'']
      refine hK11 _ ?_
      refine AW_block ?_
      refine AW_go (ι := Int × Int) (fun i => ⟨27, [(0, .one (.l (.sl (a0.map TLine.c)))), (1, .one (.l (.int .i64 i.1))), (5, .one (.l (.int .i64 i.2)))], [], []⟩) (fun n i => w_szLineS_u1 a0 n i.1 i.2 = some e7) k ((IntKind.i64.wrap (a1 - (a0.length : Int))), 0) hM (Lift.into (by constructor <;> simp [go_sem, h5, h5', h5''])) (fun _ h => by simp [w_szLineS_u1] at h) ?_
      intro KL12 n ⟨x2, x3⟩ hL12 hM
      have hM : w_szLineS_u1 a0 (n + 1) x2 x3 = some e7 := hM; rw [w_szLineS_u1] at hM
      refine AW_seq fun K13 hK13 => ?_
      refine AW_seq fun K14 hK14 => ?_
      refine AW_region ?_
      simp (maxSteps := 10000000) [go_sem]
      refine hK14 _ ?_
      refine AW_cond (b := (decide (x3 < (a0.length : Int)))) (by simp (maxSteps := 10000000) [go_sem]) (fun h15 => ?_) (fun h15 => ?_)
      · rw [if_pos h15] at hM
        have h15' := h15; try simp at h15'
        have h15'' : ¬ ((a0.length : Int) ≤ x3) := by first | (have := h15; simp only [decide_eq_true_eq, decide_eq_false_iff_not, Bool.not_eq_true', Bool.not_eq_false', Bool.not_eq_true, Bool.not_eq_false] at this; omega) | (have := h15; simp at this; omega)
        refine AW_skip ?_
        refine hK13 _ ?_
        refine AW_seq fun K16 hK16 => ?_
        refine AW_block ?_
        refine AW_seq fun K17 hK17 => ?_
        obtain ⟨x4, e18, hM⟩ := bind_some hM
        obtain ⟨p19, q20, l21, g22⟩ := at_spec e18
        obtain ⟨x5, e23, hM⟩ := bind_some hM
        refine AW_region ?_
        simp (maxSteps := 10000000) [go_sem, h15, h15', h15'', p19, q20, g22]
        refine by_ctr false (w_szLine_ctr x4 x2 x5 e23) (by simp (maxSteps := 10000000) [go_sem, h15, h15', h15'', p19, q20, g22]) (by simp) ?_
        simp (maxSteps := 10000000) [go_sem, h15, h15', h15'', p19, q20, g22]
        refine hK17 _ ?_
        refine AW_seq fun K24 hK24 => ?_
        refine AW_region ?_
        simp (maxSteps := 10000000) [go_sem, h15, h15', h15'', p19, q20, g22]
        refine hK24 _ ?_
        refine AW_cond (b := (decide (x5 < 0))) (by simp (maxSteps := 10000000) [go_sem, h15, h15', h15'', p19, q20, g22]) (fun h25 => ?_) (fun h25 => ?_)
        · rw [if_pos h25] at hM
          have h25' := h25; try simp at h25'
          have h25'' : ¬ (0 ≤ x5) := by first | (have := h25; simp only [decide_eq_true_eq, decide_eq_false_iff_not, Bool.not_eq_true', Bool.not_eq_false', Bool.not_eq_true, Bool.not_eq_false] at this; omega) | (have := h25; simp at this; omega)
          refine AW_seq fun K26 hK26 => ?_
          refine AW_region ?_
          simp (maxSteps := 10000000) [go_sem, h15, h15', h15'', p19, q20, g22, h25, h25', h25'']
          refine hK26 _ ?_
          obtain rfl := Option.some.inj hM
          have hM := hR8; dsimp only at hM
          obtain rfl := Option.some.inj hM
          refine AW_ret ?_
          simp (maxSteps := 10000000) [go_sem, h15, h15', h15'', p19, q20, g22, h25, h25', h25'']
        · rw [if_neg (ne_true h25)] at hM
          have h25' := h25; try simp at h25'
          have h25'' : ¬ (x5 < 0) := by first | (have := h25; simp only [decide_eq_true_eq, decide_eq_false_iff_not, Bool.not_eq_true', Bool.not_eq_false', Bool.not_eq_true, Bool.not_eq_false] at this; omega) | (have := h25; simp at this; omega)
          refine AW_skip ?_
          refine hK16 _ ?_
          refine AW_region ?_
          simp (maxSteps := 10000000) [go_sem, h15, h15', h15'', p19, q20, g22, h25, h25', h25'']
          exact hL12 (x5, (IntKind.i64.wrap (x3 + 1))) _ hM (Lift.into (by constructor <;> simp [go_sem, h15, h15', h15'', p19, q20, g22, h25, h25', h25'']))
      · rw [if_neg (ne_true h15)] at hM
        have h15' := h15; try simp at h15'
        have h15'' : ¬ (x3 < (a0.length : Int)) := by first | (have := h15; simp only [decide_eq_true_eq, decide_eq_false_iff_not, Bool.not_eq_true', Bool.not_eq_false', Bool.not_eq_true, Bool.not_eq_false] at this; omega) | (have := h15; simp at this; omega)
        refine AW_exit ?_
        obtain rfl := Option.some.inj hM
        exact hK10 x2 _ rfl (Lift.into (by constructor <;> simp [go_sem, h15, h15', h15'']))
    · rintro x1 rfl
      have hM := hR8
      dsimp only at hM
      refine AW_seq fun K27 hK27 => ?_
      refine AW_region ?_
      simp (maxSteps := 10000000) [go_sem, h5, h5', h5'']
      refine hK27 _ ?_
      obtain rfl := Option.some.inj hM
      refine AW_ret ?_
      simp (maxSteps := 10000000) [go_sem, h5, h5', h5'']
set_option maxHeartbeats 4000000 in
set_option maxRecDepth 100000 in
theorem w_szChange_ctr (a0 : TChange) (a1 : Int) (r : Int) (hM : w_szChange a0 a1 = some r) : Ctr Try.prog 144 [.agg (TChange.c a0), .one (.int .i64 a1)] true [.one (.int .i64 r)] := by
  unfold w_szChange at hM
  refine Ctr.of_walk (by kernel_rfl) Try.func144 rfl Try.ntmps144 Try.results144 (by simp) ?_; intro N w0 hbad
  refine AW_seq fun K1 hK1 => ?_
  refine AW_region ?_
  simp (maxSteps := 10000000) [go_sem]
  refine hK1 _ ?_
  refine AW_seq fun K2 hK2 => ?_
  obtain ⟨x1, e3, hM⟩ := bind_some hM
  refine AW_region ?_
  simp (maxSteps := 10000000) [go_sem]
  refine by_ctr false (w_szLine_ctr a0.line a1 x1 e3) (by simp (maxSteps := 10000000) [go_sem]) (by simp) ?_
  simp (maxSteps := 10000000) [go_sem]
  refine hK2 _ ?_
  refine AW_seq fun K4 hK4 => ?_
  refine AW_seq fun K5 hK5 => ?_
  refine AW_region ?_
  simp (maxSteps := 10000000) [go_sem]
  refine hK5 _ ?_
  refine AW_cond (b := (decide (x1 < 0))) (by simp (maxSteps := 10000000) [go_sem]) (fun h6 => ?_) (fun h6 => ?_)
  · rw [if_pos h6] at hM
    have h6' := h6; try simp at h6'
    have h6'' : ¬ (0 ≤ x1) := by first | (have := h6; simp only [decide_eq_true_eq, decide_eq_false_iff_not, Bool.not_eq_true', Bool.not_eq_false', Bool.not_eq_true, Bool.not_eq_false] at this; omega) | (have := h6; simp at this; omega)
    refine AW_seq fun K7 hK7 => ?_
    refine AW_region ?_
    simp (maxSteps := 10000000) [go_sem, h6, h6', h6'']
    refine hK7 _ ?_
    obtain rfl := Option.some.inj hM
    refine AW_ret ?_
    simp (maxSteps := 10000000) [go_sem, h6, h6', h6'']
  · rw [if_neg (ne_true h6)] at hM
    have h6' := h6; try simp at h6'
    have h6'' : ¬ (x1 < 0) := by first | (have := h6; simp only [decide_eq_true_eq, decide_eq_false_iff_not, Bool.not_eq_true', Bool.not_eq_false', Bool.not_eq_true, Bool.not_eq_false] at this; omega) | (have := h6; simp at this; omega)
    refine AW_skip ?_
    refine hK4 _ ?_
    refine AW_seq fun K8 hK8 => ?_
    refine AW_region ?_
    simp (maxSteps := 10000000) [go_sem, h6, h6', h6'']
    refine hK8 _ ?_
    obtain rfl := Option.some.inj hM
    refine AW_ret ?_
    simp (maxSteps := 10000000) [go_sem, h6, h6', h6'']
set_option maxHeartbeats 4000000 in
set_option maxRecDepth 100000 in
theorem w_szChangeS_ctr (k : Nat) (a0 : List TChange) (a1 : Int) (r : Int) (hM : w_szChangeS k a0 a1 = some r) : Ctr Try.prog 89 [.one (.sl (a0.map TChange.c)), .one (.int .i64 a1)] true [.one (.int .i64 r)] := by
  unfold w_szChangeS at hM
  refine Ctr.of_walk (by kernel_rfl) Try.func89 rfl Try.ntmps89 Try.results89 (by simp) ?_; intro N w0 hbad
  refine AW_seq fun K1 hK1 => ?_
  refine AW_region ?_
  simp (maxSteps := 10000000) [go_sem]
  refine hK1 _ ?_
  refine AW_seq fun K2 hK2 => ?_
  refine AW_region ?_
  simp (maxSteps := 10000000) [go_sem]
  refine hK2 _ ?_
  refine AW_seq fun K3 hK3 => ?_
  refine AW_seq fun K4 hK4 => ?_
  refine AW_region ?_
  simp (maxSteps := 10000000) [go_sem]
  refine hK4 _ ?_
  refine AW_cond (b := (decide ((IntKind.i64.wrap (a1 - (a0.length : Int))) < 0))) (by simp (maxSteps := 10000000) [go_sem]) (fun h5 => ?_) (fun h5 => ?_)
  · rw [if_pos h5] at hM
    have h5' := h5; try simp at h5'
    have h5'' : ¬ (0 ≤ (IntKind.i64.wrap (a1 - (a0.length : Int)))) := by first | (have := h5; simp only [decide_eq_true_eq, decide_eq_false_iff_not, Bool.not_eq_true', Bool.not_eq_false', Bool.not_eq_true, Bool.not_eq_false] at this; omega) | (have := h5; simp at this; omega)
    refine AW_seq fun K6 hK6 => ?_
    refine AW_region ?_
    simp (maxSteps := 10000000) [go_sem, h5, h5', h5'']
    refine hK6 _ ?_
    obtain rfl := Option.some.inj hM
    refine AW_ret ?_
    simp (maxSteps := 10000000) [go_sem, h5, h5', h5'']
  · rw [if_neg (ne_true h5)] at hM
    have h5' := h5; try simp at h5'
    have h5'' : ¬ ((IntKind.i64.wrap (a1 - (a0.length : Int))) < 0) := by first | (have := h5; simp only [decide_eq_true_eq, decide_eq_false_iff_not, Bool.not_eq_true', Bool.not_eq_false', Bool.not_eq_true, Bool.not_eq_false] at this; omega) | (have := h5; simp at this; omega)
    refine AW_skip ?_
    refine hK3 _ ?_
    obtain ⟨e7, hU9, hR8⟩ := bind_some hM; clear hM
    refine AW_mid (ι := Int) (fun i => ⟨27, [(1, .one (.l (.int .i64 i)))], [], []⟩) (fun i => (.inl i) = e7) ?_ ?_
    · intro K10 hK10
      have hM := hU9; clear hU9
      refine AW_seq fun K11 hK11 => ?_
      refine AW_region ?_
      simp (maxSteps := 10000000) [go_sem, h5, h5', h5'']
      refine hK11 _ ?_
      refine AW_block ?_
      refine AW_go (ι := Int × Int) (fun i => ⟨27, [(0, .one (.l (.sl (a0.map TChange.c)))), (1, .one (.l (.int .i64 i.1))), (5, .one (.l (.int .i64 i.2)))], [], []⟩) (fun n i => w_szChangeS_u1 a0 n i.1 i.2 = some e7) k ((IntKind.i64.wrap (a1 - (a0.length : Int))), 0) hM (Lift.into (by constructor <;> simp [go_sem, h5, h5', h5''])) (fun _ h => by simp [w_szChangeS_u1] at h) ?_
      intro KL12 n ⟨x2, x3⟩ hL12 hM
      have hM : w_szChangeS_u1 a0 (n + 1) x2 x3 = some e7 := hM; rw [w_szChangeS_u1] at hM
      refine AW_seq fun K13 hK13 => ?_
      refine AW_seq fun K14 hK14 => ?_
      refine AW_region ?_
      simp (maxSteps := 10000000) [go_sem]
      refine hK14 _ ?_
      refine AW_cond (b := (decide (x3 < (a0.length : Int)))) (by simp (maxSteps := 10000000) [go_sem]) (fun h15 => ?_) (fun h15 => ?_)
      · rw [if_pos h15] at hM
        have h15' := h15; try simp at h15'
        have h15'' : ¬ ((a0.length : Int) ≤ x3) := by first | (have := h15; simp only [decide_eq_true_eq, decide_eq_false_iff_not, Bool.not_eq_true', Bool.not_eq_false', Bool.not_eq_true, Bool.not_eq_false] at this; omega) | (have := h15; simp at this; omega)
        refine AW_skip ?_
        refine hK13 _ ?_
        refine AW_seq fun K16 hK16 => ?_
        refine AW_block ?_
        refine AW_seq fun K17 hK17 => ?_
        obtain ⟨x4, e18, hM⟩ := bind_some hM
        obtain ⟨p19, q20, l21, g22⟩ := at_spec e18
        obtain ⟨x5, e23, hM⟩ := bind_some hM
        refine AW_region ?_
        simp (maxSteps := 10000000) [go_sem, h15, h15', h15'', p19, q20, g22]
        refine by_ctr false (w_szChange_ctr x4 x2 x5 e23) (by simp (maxSteps := 10000000) [go_sem, h15, h15', h15'', p19, q20, g22]) (by simp) ?_
        simp (maxSteps := 10000000) [go_sem, h15, h15', h15'', p19, q20, g22]
        refine hK17 _ ?_
        refine AW_seq fun K24 hK24 => ?_
        refine AW_region ?_
        simp (maxSteps := 10000000) [go_sem, h15, h15', h15'', p19, q20, g22]
        refine hK24 _ ?_
        refine AW_cond (b := (decide (x5 < 0))) (by simp (maxSteps := 10000000) [go_sem, h15, h15', h15'', p19, q20, g22]) (fun h25 => ?_) (fun h25 => ?_)
        · rw [if_pos h25] at hM
          have h25' := h25; try simp at h25'
          have h25'' : ¬ (0 ≤ x5) := by first | (have := h25; simp only [decide_eq_true_eq, decide_eq_false_iff_not, Bool.not_eq_true', Bool.not_eq_false', Bool.not_eq_true, Bool.not_eq_false] at this; omega) | (have := h25; simp at this; omega)
          refine AW_seq fun K26 hK26 => ?_
          refine AW_region ?_
          simp (maxSteps := 10000000) [go_sem, h15, h15', h15'', p19, q20, g22, h25, h25', h25'']
          refine hK26 _ ?_
          obtain rfl := Option.some.inj hM
          have hM := hR8; dsimp only at hM
          obtain rfl := Option.some.inj hM
          refine AW_ret ?_
          simp (maxSteps := 10000000) [go_sem, h15, h15', h15'', p19, q20, g22, h25, h25', h25'']
        · rw [if_neg (ne_true h25)] at hM
          have h25' := h25; try simp at h25'
          have h25'' : ¬ (x5 < 0) := by first | (have := h25; simp only [decide_eq_true_eq, decide_eq_false_iff_not, Bool.not_eq_true', Bool.not_eq_false', Bool.not_eq_true, Bool.not_eq_false] at this; omega) | (have := h25; simp at this; omega)
          refine AW_skip ?_
          refine hK16 _ ?_
          refine AW_region ?_
          simp (maxSteps := 10000000) [go_sem, h15, h15', h15'', p19, q20, g22, h25, h25', h25'']
          exact hL12 (x5, (IntKind.i64.wrap (x3 + 1))) _ hM (Lift.into (by constructor <;> simp [go_sem, h15, h15', h15'', p19, q20, g22, h25, h25', h25'']))
      · rw [if_neg (ne_true h15)] at hM
        have h15' := h15; try simp at h15'
        have h15'' : ¬ (x3 < (a0.length : Int)) := by first | (have := h15; simp only [decide_eq_true_eq, decide_eq_false_iff_not, Bool.not_eq_true', Bool.not_eq_false', Bool.not_eq_true, Bool.not_eq_false] at this; omega) | (have := h15; simp at this; omega)
        refine AW_exit ?_
        obtain rfl := Option.some.inj hM
        exact hK10 x2 _ rfl (Lift.into (by constructor <;> simp [go_sem, h15, h15', h15'']))
    · rintro x1 rfl
      have hM := hR8
      dsimp only at hM
      refine AW_seq fun K27 hK27 => ?_
      refine AW_region ?_
      simp (maxSteps := 10000000) [go_sem, h5, h5', h5'']
      refine hK27 _ ?_
      obtain rfl := Option.some.inj hM
      refine AW_ret ?_
      simp (maxSteps := 10000000) [go_sem, h5, h5', h5'']
end Go.Proofs.Ytmiboaogfjgkjaa
