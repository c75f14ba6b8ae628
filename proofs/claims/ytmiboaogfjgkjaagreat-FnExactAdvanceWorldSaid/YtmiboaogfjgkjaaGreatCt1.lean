/- Contracts of the program's functions: where the mirrored function answers, the program's function returns this answer. Written by a program of mine. -/
import Derived.Test.YtmiboaogfjgkjaaGreatWn
import Derived.Test.YtmiboaogfjgkjaaGreatMd1
import Derived.Test.YtmiboaogfjgkjaaGreatCt0
set_option linter.unusedSimpArgs false
set_option linter.unusedVariables false
namespace Go.Proofs.YtmiboaogfjgkjaaGreat
open Go.RowKit Am

set_option maxHeartbeats 4000000 in
set_option maxRecDepth 100000 in
theorem s_IsValidName_ctr (k : Nat) (a0 : ByteArray) (r : Bool) (hM : s_IsValidName k a0 = some r) : Ctr Tryz.prog 84 [.one (.str a0)] true [.one (.bool r)] := by
  unfold s_IsValidName at hM
  refine Ctr.of_walk (by kernel_rfl) Tryz.func84 rfl Tryz.ntmps84 Tryz.results84 (by simp) ?_; intro N w0 hbad
  refine AW_seq fun K1 hK1 => ?_
  refine AW_region ?_
  simp (maxSteps := 10000000) [go_sem]
  refine hK1 _ ?_
  obtain ⟨e2, hU4, hR3⟩ := bind_some hM; clear hM
  refine AW_mid (ι := Bool) (fun i => ⟨15, [(2, .one (.l (.bool i)))], [], []⟩) (fun i => i = e2) ?_ ?_
  · intro K5 hK5
    have hM := hU4; clear hU4
    obtain ⟨x2, e6, hM⟩ := bind_some hM
    by_cases h7 : x2 = true
    · rw [if_pos h7] at hM
      have h7' := h7; try simp at h7'
      by_cases h8 : (decide ((a0.size : Int) ≤ 8)) = true
      · rw [if_pos h8] at hM
        have h8' := h8; try simp at h8'
        have h8'' : ¬ (8 < (a0.size : Int)) := by first | (have := h8; simp only [decide_eq_true_eq, decide_eq_false_iff_not, Bool.not_eq_true', Bool.not_eq_false', Bool.not_eq_true, Bool.not_eq_false] at this; omega) | (have := h8; simp at this; omega)
        obtain ⟨x3, e9, hM⟩ := bind_some hM
        refine AW_region ?_
        simp (maxSteps := 10000000) [go_sem, h7, h7', h8, h8', h8'']
        refine by_ctr false (s_l2Shape_ctr k a0 x2 e6) (by simp (maxSteps := 10000000) [go_sem, h7, h7', h8, h8', h8'']) (by simp) ?_
        simp (maxSteps := 10000000) [go_sem, h7, h7', h8, h8', h8'']
        refine by_ctr false (s_IsReserved_ctr k a0 x3 e9) (by simp (maxSteps := 10000000) [go_sem, h7, h7', h8, h8', h8'']) (by simp) ?_
        simp (maxSteps := 10000000) [go_sem, h7, h7', h8, h8', h8'']
        obtain rfl := Option.some.inj hM
        exact hK5 (!x3) _ rfl (Lift.into (by constructor <;> simp [go_sem, h7, h7', h8, h8', h8'']))
      · rw [if_neg h8] at hM
        have h8 := Bool.eq_false_iff.2 h8
        have h8' := h8; try simp at h8'
        have h8'' : ¬ ((a0.size : Int) ≤ 8) := by first | (have := h8; simp only [decide_eq_true_eq, decide_eq_false_iff_not, Bool.not_eq_true', Bool.not_eq_false', Bool.not_eq_true, Bool.not_eq_false] at this; omega) | (have := h8; simp at this; omega)
        refine AW_region ?_
        simp (maxSteps := 10000000) [go_sem, h7, h7', h8, h8', h8'']
        refine by_ctr false (s_l2Shape_ctr k a0 x2 e6) (by simp (maxSteps := 10000000) [go_sem, h7, h7', h8, h8', h8'']) (by simp) ?_
        simp (maxSteps := 10000000) [go_sem, h7, h7', h8, h8', h8'']
        obtain rfl := Option.some.inj hM
        exact hK5 false _ rfl (Lift.into (by constructor <;> simp [go_sem, h7, h7', h8, h8', h8'']))
    · rw [if_neg h7] at hM
      have h7 := Bool.eq_false_iff.2 h7
      have h7' := h7; try simp at h7'
      refine AW_region ?_
      simp (maxSteps := 10000000) [go_sem, h7, h7']
      refine by_ctr false (s_l2Shape_ctr k a0 x2 e6) (by simp (maxSteps := 10000000) [go_sem, h7, h7']) (by simp) ?_
      simp (maxSteps := 10000000) [go_sem, h7, h7']
      obtain rfl := Option.some.inj hM
      exact hK5 false _ rfl (Lift.into (by constructor <;> simp [go_sem, h7, h7']))
  · rintro x1 rfl
    have hM := hR3
    try dsimp only at hM
    obtain rfl := Option.some.inj hM
    refine AW_ret ?_
    simp (maxSteps := 10000000) [go_sem]
set_option maxHeartbeats 4000000 in
set_option maxRecDepth 100000 in
theorem s_l3Number_ctr (a0 : Int) (r : Bool) (hM : s_l3Number a0 = some r) : Ctr Tryz.prog 85 [.one (.int .i64 a0)] true [.one (.bool r)] := by
  unfold s_l3Number at hM
  refine Ctr.of_walk (by kernel_rfl) Tryz.func85 rfl Tryz.ntmps85 Tryz.results85 (by simp) ?_; intro N w0 hbad
  refine AW_seq fun K1 hK1 => ?_
  refine AW_region ?_
  simp (maxSteps := 10000000) [go_sem]
  refine hK1 _ ?_
  refine AW_seq fun K2 hK2 => ?_
  obtain ⟨x1, e3, hM⟩ := bind_some hM
  refine AW_region ?_
  simp (maxSteps := 10000000) [go_sem]
  refine by_ctr false (s_l1In_ctr a0 (-1000000000) 1000000000 x1 e3) (by simp (maxSteps := 10000000) [go_sem]) (by simp) ?_
  simp (maxSteps := 10000000) [go_sem]
  refine hK2 _ ?_
  obtain rfl := Option.some.inj hM
  refine AW_ret ?_
  simp (maxSteps := 10000000) [go_sem]
set_option maxHeartbeats 4000000 in
set_option maxRecDepth 100000 in
theorem s_l14Files_ctr (k : Nat) (a0 : List TFile) (r : Bool) (hM : s_l14Files k a0 = some r) : Ctr Tryz.prog 49 [.one (.sl (a0.map TFile.c))] true [.one (.bool r)] := by
  unfold s_l14Files at hM
  refine Ctr.of_walk (by kernel_rfl) Tryz.func49 rfl Tryz.ntmps49 Tryz.results49 (by simp) ?_; intro N w0 hbad
  refine AW_seq fun K1 hK1 => ?_
  refine AW_region ?_
  simp (maxSteps := 10000000) [go_sem]
  refine hK1 _ ?_
  obtain ⟨e2, hU4, hR3⟩ := bind_some hM; clear hM
  refine AW_mid (ι := Unit) (fun i => ⟨47, [(0, .one (.l (.sl (a0.map TFile.c))))], [], []⟩) (fun i => (.inl i) = e2) ?_ ?_
  · intro K5 hK5
    have hM := hU4; clear hU4
    refine AW_seq fun K6 hK6 => ?_
    refine AW_region ?_
    simp (maxSteps := 10000000) [go_sem]
    refine hK6 _ ?_
    refine AW_block ?_
    refine AW_go (ι := Int) (fun i => ⟨47, [(0, .one (.l (.sl (a0.map TFile.c)))), (3, .one (.l (.int .i64 i)))], [], []⟩) (fun n i => s_l14Files_u1 k a0 n i = some e2) k 0 hM (Lift.into (by constructor <;> simp [go_sem])) (fun _ h => by simp [s_l14Files_u1] at h) ?_
    intro KL7 n x1 hL7 hM
    have hM : s_l14Files_u1 k a0 (n + 1) x1 = some e2 := hM; rw [s_l14Files_u1] at hM
    refine AW_seq fun K8 hK8 => ?_
    refine AW_seq fun K9 hK9 => ?_
    refine AW_region ?_
    simp (maxSteps := 10000000) [go_sem]
    refine hK9 _ ?_
    refine AW_cond (b := (decide (x1 < (a0.length : Int)))) (by simp (maxSteps := 10000000) [go_sem]) (fun h10 => ?_) (fun h10 => ?_)
    · rw [if_pos h10] at hM
      have h10' := h10; try simp at h10'
      have h10'' : ¬ ((a0.length : Int) ≤ x1) := by first | (have := h10; simp only [decide_eq_true_eq, decide_eq_false_iff_not, Bool.not_eq_true', Bool.not_eq_false', Bool.not_eq_true, Bool.not_eq_false] at this; omega) | (have := h10; simp at this; omega)
      refine AW_skip ?_
      refine hK8 _ ?_
      refine AW_seq fun K11 hK11 => ?_
      refine AW_block ?_
      obtain ⟨e12, hU14, hR13⟩ := bind_some hM; clear hM
      refine AW_mid (ι := Bool) (fun i => ⟨47, [(0, .one (.l (.sl (a0.map TFile.c)))), (3, .one (.l (.int .i64 x1))), (43, .one (.l (.bool i)))], [], []⟩) (fun i => i = e12) ?_ ?_
      · intro K15 hK15
        have hM := hU14; clear hU14
        obtain ⟨x3, e16, hM⟩ := bind_some hM
        obtain ⟨p17, q18, l19, g20⟩ := at_spec e16
        obtain ⟨x4, e21, hM⟩ := bind_some hM
        by_cases h22 : (!x4) = true
        · rw [if_pos h22] at hM
          have h22' := h22; try simp at h22'
          refine AW_quick [[], [], [0, 1], [0, 1, 2], [0, 1, 2, 3], [0, 1, 2, 3, 4], [0, 1, 2, 3, 4, 5], [0, 1, 2, 3, 4, 5, 6], [0, 1, 2, 3, 4, 5, 6, 7], [0, 1, 2, 3, 4, 5, 6, 7], [0, 1, 2, 3, 4, 5, 6, 7, 8, 9], [0, 1, 2, 3, 4, 5, 6, 7, 8, 9, 10], [0, 1, 2, 3, 4, 5, 6, 7, 8, 9, 10, 11], [0, 1, 2, 3, 4, 5, 6, 7, 8, 9, 10, 11, 12], [0, 1, 2, 3, 4, 5, 6, 7, 8, 9, 10, 11, 12, 13], [0, 1, 2, 3, 4, 5, 6, 7, 8, 9, 10, 11, 12, 13, 14], [0, 1, 2, 3, 4, 5, 6, 7, 8, 9, 10, 11, 12, 13, 14, 15], [0, 1, 2, 3, 4, 5, 6, 7, 8, 9, 10, 11, 12, 13, 14, 15, 16], [0, 1, 2, 3, 4, 5, 6, 7, 8, 9, 10, 11, 12, 13, 14, 15, 16, 17], [0, 1, 2, 3, 4, 5, 6, 7, 8, 9, 10, 11, 12, 13, 14, 15, 16, 17, 18], [0, 1, 2, 3, 4, 5, 6, 7, 8, 9, 10, 11, 12, 13, 14, 15, 16, 17, 18, 19], [0, 1, 2, 3, 4, 5, 6, 7, 8, 9, 10, 11, 12, 13, 14, 15, 16, 17, 18, 19], [0, 1, 2, 3, 4, 5, 6, 7, 8, 9, 10, 11, 12, 13, 14, 15, 16, 17, 18, 19, 21], [0, 1, 2, 3, 4, 5, 6, 7, 8, 9, 10, 11, 12, 13, 14, 15, 16, 17, 18, 19, 20, 21, 22], [0, 1, 2, 3, 4, 5, 6, 7, 8, 9, 10, 11, 12, 13, 14, 15, 16, 17, 18, 19, 20, 21, 22, 23], [0, 1, 2, 3, 4, 5, 6, 7, 8, 9, 10, 11, 12, 13, 14, 15, 16, 17, 18, 19, 20, 21, 22, 23, 24], [0, 1, 2, 3, 4, 5, 6, 7, 8, 9, 10, 11, 12, 13, 14, 15, 16, 17, 18, 19], [0, 1, 2, 3, 4, 5, 6, 7, 8, 9, 10, 11, 12, 13, 14, 15, 16, 17, 18, 19], [0, 1, 2, 3, 4, 5, 6, 7, 8, 9, 10, 11, 12, 13, 14, 15, 16, 17, 18, 19, 26, 27], [0, 1, 2, 3, 4, 5, 6, 7, 8, 9, 10, 11, 12, 13, 14, 15, 16, 17, 18, 19, 26, 27, 28], [0, 1, 2, 3, 4, 5, 6, 7, 8, 9, 10, 11, 12, 13, 14, 15, 16, 17, 18, 19, 26, 27, 28, 29], [0, 1, 2, 3, 4, 5, 6, 7, 8, 9, 10, 11, 12, 13, 14, 15, 16, 17, 18, 19, 20, 21, 22, 23, 24, 25, 26, 27, 28, 29, 30], [0, 1, 2, 3, 4, 5, 6, 7, 8, 9, 10, 11, 12, 13, 14, 15, 16, 17, 18, 19, 20, 21, 22, 23, 24, 25, 26, 27, 28, 29, 30, 31], [0, 1, 2, 3, 4, 5, 6, 7, 8, 9, 10, 11, 12, 13, 14, 15, 16, 17, 18, 19, 20, 21, 22, 23, 24, 25, 26, 27, 28, 29, 30, 31, 32]] 31 mixed (by kernel_rfl) (by kernel_rfl) ?_
          simp (maxSteps := 10000000) [go_sem, h10, h10', h10'', p17, q18, g20, h22, h22']
          refine by_ctr false (s_IsValidName_ctr k x3.name x4 e21) (by simp (maxSteps := 10000000) [go_sem, h10, h10', h10'', p17, q18, g20, h22, h22']) (by simp) ?_
          simp (maxSteps := 10000000) [go_sem, h10, h10', h10'', p17, q18, g20, h22, h22']
          obtain rfl := Option.some.inj hM
          exact hK15 true _ rfl (Lift.into (by constructor <;> simp [go_sem, h10, h10', h10'', p17, q18, g20, h22, h22']))
        · rw [if_neg h22] at hM
          have h22 := Bool.eq_false_iff.2 h22
          have h22' := h22; try simp at h22'
          obtain ⟨x5, e23, hM⟩ := bind_some hM
          by_cases h24 : (!x5) = true
          · rw [if_pos h24] at hM
            have h24' := h24; try simp at h24'
            refine AW_quick [[], [], [0, 1], [0, 1, 2], [0, 1, 2, 3], [0, 1, 2, 3, 4], [0, 1, 2, 3, 4, 5], [0, 1, 2, 3, 4, 5, 6], [0, 1, 2, 3, 4, 5, 6, 7], [0, 1, 2, 3, 4, 5, 6, 7], [0, 1, 2, 3, 4, 5, 6, 7, 8, 9], [0, 1, 2, 3, 4, 5, 6, 7, 8, 9, 10], [0, 1, 2, 3, 4, 5, 6, 7, 8, 9, 10, 11], [0, 1, 2, 3, 4, 5, 6, 7, 8, 9, 10, 11, 12], [0, 1, 2, 3, 4, 5, 6, 7, 8, 9, 10, 11, 12, 13], [0, 1, 2, 3, 4, 5, 6, 7, 8, 9, 10, 11, 12, 13, 14], [0, 1, 2, 3, 4, 5, 6, 7, 8, 9, 10, 11, 12, 13, 14, 15], [0, 1, 2, 3, 4, 5, 6, 7, 8, 9, 10, 11, 12, 13, 14, 15, 16], [0, 1, 2, 3, 4, 5, 6, 7, 8, 9, 10, 11, 12, 13, 14, 15, 16, 17], [0, 1, 2, 3, 4, 5, 6, 7, 8, 9, 10, 11, 12, 13, 14, 15, 16, 17, 18], [0, 1, 2, 3, 4, 5, 6, 7, 8, 9, 10, 11, 12, 13, 14, 15, 16, 17, 18, 19], [0, 1, 2, 3, 4, 5, 6, 7, 8, 9, 10, 11, 12, 13, 14, 15, 16, 17, 18, 19], [0, 1, 2, 3, 4, 5, 6, 7, 8, 9, 10, 11, 12, 13, 14, 15, 16, 17, 18, 19, 21], [0, 1, 2, 3, 4, 5, 6, 7, 8, 9, 10, 11, 12, 13, 14, 15, 16, 17, 18, 19, 20, 21, 22], [0, 1, 2, 3, 4, 5, 6, 7, 8, 9, 10, 11, 12, 13, 14, 15, 16, 17, 18, 19, 20, 21, 22, 23], [0, 1, 2, 3, 4, 5, 6, 7, 8, 9, 10, 11, 12, 13, 14, 15, 16, 17, 18, 19, 20, 21, 22, 23, 24], [0, 1, 2, 3, 4, 5, 6, 7, 8, 9, 10, 11, 12, 13, 14, 15, 16, 17, 18, 19], [0, 1, 2, 3, 4, 5, 6, 7, 8, 9, 10, 11, 12, 13, 14, 15, 16, 17, 18, 19], [0, 1, 2, 3, 4, 5, 6, 7, 8, 9, 10, 11, 12, 13, 14, 15, 16, 17, 18, 19, 26, 27], [0, 1, 2, 3, 4, 5, 6, 7, 8, 9, 10, 11, 12, 13, 14, 15, 16, 17, 18, 19, 26, 27, 28], [0, 1, 2, 3, 4, 5, 6, 7, 8, 9, 10, 11, 12, 13, 14, 15, 16, 17, 18, 19, 26, 27, 28, 29], [0, 1, 2, 3, 4, 5, 6, 7, 8, 9, 10, 11, 12, 13, 14, 15, 16, 17, 18, 19, 20, 21, 22, 23, 24, 25, 26, 27, 28, 29, 30], [0, 1, 2, 3, 4, 5, 6, 7, 8, 9, 10, 11, 12, 13, 14, 15, 16, 17, 18, 19, 20, 21, 22, 23, 24, 25, 26, 27, 28, 29, 30, 31], [0, 1, 2, 3, 4, 5, 6, 7, 8, 9, 10, 11, 12, 13, 14, 15, 16, 17, 18, 19, 20, 21, 22, 23, 24, 25, 26, 27, 28, 29, 30, 31, 32]] 31 mixed (by kernel_rfl) (by kernel_rfl) ?_
            simp (maxSteps := 10000000) [go_sem, h10, h10', h10'', p17, q18, g20, h22, h22', h24, h24']
            refine by_ctr false (s_IsValidName_ctr k x3.name x4 e21) (by simp (maxSteps := 10000000) [go_sem, h10, h10', h10'', p17, q18, g20, h22, h22', h24, h24']) (by simp) ?_
            simp (maxSteps := 10000000) [go_sem, h10, h10', h10'', p17, q18, g20, h22, h22', h24, h24']
            refine by_ctr false (s_l3Number_ctr x3.n x5 e23) (by simp (maxSteps := 10000000) [go_sem, h10, h10', h10'', p17, q18, g20, h22, h22', h24, h24']) (by simp) ?_
            simp (maxSteps := 10000000) [go_sem, h10, h10', h10'', p17, q18, g20, h22, h22', h24, h24']
            obtain rfl := Option.some.inj hM
            exact hK15 true _ rfl (Lift.into (by constructor <;> simp [go_sem, h10, h10', h10'', p17, q18, g20, h22, h22', h24, h24']))
          · rw [if_neg h24] at hM
            have h24 := Bool.eq_false_iff.2 h24
            have h24' := h24; try simp at h24'
            by_cases h25 : (decide (0 < x1)) = true
            · rw [if_pos h25] at hM
              have h25' := h25; try simp at h25'
              have h25'' : ¬ (x1 ≤ 0) := by first | (have := h25; simp only [decide_eq_true_eq, decide_eq_false_iff_not, Bool.not_eq_true', Bool.not_eq_false', Bool.not_eq_true, Bool.not_eq_false] at this; omega) | (have := h25; simp at this; omega)
              obtain ⟨x6, e26, hM⟩ := bind_some hM
              obtain ⟨p27, q28, l29, g30⟩ := at_spec e26
              refine AW_quick [[], [], [0, 1], [0, 1, 2], [0, 1, 2, 3], [0, 1, 2, 3, 4], [0, 1, 2, 3, 4, 5], [0, 1, 2, 3, 4, 5, 6], [0, 1, 2, 3, 4, 5, 6, 7], [0, 1, 2, 3, 4, 5, 6, 7], [0, 1, 2, 3, 4, 5, 6, 7, 8, 9], [0, 1, 2, 3, 4, 5, 6, 7, 8, 9, 10], [0, 1, 2, 3, 4, 5, 6, 7, 8, 9, 10, 11], [0, 1, 2, 3, 4, 5, 6, 7, 8, 9, 10, 11, 12], [0, 1, 2, 3, 4, 5, 6, 7, 8, 9, 10, 11, 12, 13], [0, 1, 2, 3, 4, 5, 6, 7, 8, 9, 10, 11, 12, 13, 14], [0, 1, 2, 3, 4, 5, 6, 7, 8, 9, 10, 11, 12, 13, 14, 15], [0, 1, 2, 3, 4, 5, 6, 7, 8, 9, 10, 11, 12, 13, 14, 15, 16], [0, 1, 2, 3, 4, 5, 6, 7, 8, 9, 10, 11, 12, 13, 14, 15, 16, 17], [0, 1, 2, 3, 4, 5, 6, 7, 8, 9, 10, 11, 12, 13, 14, 15, 16, 17, 18], [0, 1, 2, 3, 4, 5, 6, 7, 8, 9, 10, 11, 12, 13, 14, 15, 16, 17, 18, 19], [0, 1, 2, 3, 4, 5, 6, 7, 8, 9, 10, 11, 12, 13, 14, 15, 16, 17, 18, 19], [0, 1, 2, 3, 4, 5, 6, 7, 8, 9, 10, 11, 12, 13, 14, 15, 16, 17, 18, 19, 21], [0, 1, 2, 3, 4, 5, 6, 7, 8, 9, 10, 11, 12, 13, 14, 15, 16, 17, 18, 19, 20, 21, 22], [0, 1, 2, 3, 4, 5, 6, 7, 8, 9, 10, 11, 12, 13, 14, 15, 16, 17, 18, 19, 20, 21, 22, 23], [0, 1, 2, 3, 4, 5, 6, 7, 8, 9, 10, 11, 12, 13, 14, 15, 16, 17, 18, 19, 20, 21, 22, 23, 24], [0, 1, 2, 3, 4, 5, 6, 7, 8, 9, 10, 11, 12, 13, 14, 15, 16, 17, 18, 19], [0, 1, 2, 3, 4, 5, 6, 7, 8, 9, 10, 11, 12, 13, 14, 15, 16, 17, 18, 19], [0, 1, 2, 3, 4, 5, 6, 7, 8, 9, 10, 11, 12, 13, 14, 15, 16, 17, 18, 19, 26, 27], [0, 1, 2, 3, 4, 5, 6, 7, 8, 9, 10, 11, 12, 13, 14, 15, 16, 17, 18, 19, 26, 27, 28], [0, 1, 2, 3, 4, 5, 6, 7, 8, 9, 10, 11, 12, 13, 14, 15, 16, 17, 18, 19, 26, 27, 28, 29], [0, 1, 2, 3, 4, 5, 6, 7, 8, 9, 10, 11, 12, 13, 14, 15, 16, 17, 18, 19, 20, 21, 22, 23, 24, 25, 26, 27, 28, 29, 30], [0, 1, 2, 3, 4, 5, 6, 7, 8, 9, 10, 11, 12, 13, 14, 15, 16, 17, 18, 19, 20, 21, 22, 23, 24, 25, 26, 27, 28, 29, 30, 31], [0, 1, 2, 3, 4, 5, 6, 7, 8, 9, 10, 11, 12, 13, 14, 15, 16, 17, 18, 19, 20, 21, 22, 23, 24, 25, 26, 27, 28, 29, 30, 31, 32]] 31 mixed (by kernel_rfl) (by kernel_rfl) ?_
              simp (maxSteps := 10000000) [go_sem, h10, h10', h10'', p17, q18, g20, h22, h22', h24, h24', h25, h25', h25'', p27, q28, g30]
              refine by_ctr false (s_IsValidName_ctr k x3.name x4 e21) (by simp (maxSteps := 10000000) [go_sem, h10, h10', h10'', p17, q18, g20, h22, h22', h24, h24', h25, h25', h25'', p27, q28, g30]) (by simp) ?_
              simp (maxSteps := 10000000) [go_sem, h10, h10', h10'', p17, q18, g20, h22, h22', h24, h24', h25, h25', h25'', p27, q28, g30]
              refine by_ctr false (s_l3Number_ctr x3.n x5 e23) (by simp (maxSteps := 10000000) [go_sem, h10, h10', h10'', p17, q18, g20, h22, h22', h24, h24', h25, h25', h25'', p27, q28, g30]) (by simp) ?_
              simp (maxSteps := 10000000) [go_sem, h10, h10', h10'', p17, q18, g20, h22, h22', h24, h24', h25, h25', h25'', p27, q28, g30]
              obtain rfl := Option.some.inj hM
              exact hK15 (!sLess x6.name x3.name) _ rfl (Lift.into (by constructor <;> simp [go_sem, h10, h10', h10'', p17, q18, g20, h22, h22', h24, h24', h25, h25', h25'', p27, q28, g30]))
            · rw [if_neg h25] at hM
              have h25 := Bool.eq_false_iff.2 h25
              have h25' := h25; try simp at h25'
              have h25'' : ¬ (0 < x1) := by first | (have := h25; simp only [decide_eq_true_eq, decide_eq_false_iff_not, Bool.not_eq_true', Bool.not_eq_false', Bool.not_eq_true, Bool.not_eq_false] at this; omega) | (have := h25; simp at this; omega)
              refine AW_quick [[], [], [0, 1], [0, 1, 2], [0, 1, 2, 3], [0, 1, 2, 3, 4], [0, 1, 2, 3, 4, 5], [0, 1, 2, 3, 4, 5, 6], [0, 1, 2, 3, 4, 5, 6, 7], [0, 1, 2, 3, 4, 5, 6, 7], [0, 1, 2, 3, 4, 5, 6, 7, 8, 9], [0, 1, 2, 3, 4, 5, 6, 7, 8, 9, 10], [0, 1, 2, 3, 4, 5, 6, 7, 8, 9, 10, 11], [0, 1, 2, 3, 4, 5, 6, 7, 8, 9, 10, 11, 12], [0, 1, 2, 3, 4, 5, 6, 7, 8, 9, 10, 11, 12, 13], [0, 1, 2, 3, 4, 5, 6, 7, 8, 9, 10, 11, 12, 13, 14], [0, 1, 2, 3, 4, 5, 6, 7, 8, 9, 10, 11, 12, 13, 14, 15], [0, 1, 2, 3, 4, 5, 6, 7, 8, 9, 10, 11, 12, 13, 14, 15, 16], [0, 1, 2, 3, 4, 5, 6, 7, 8, 9, 10, 11, 12, 13, 14, 15, 16, 17], [0, 1, 2, 3, 4, 5, 6, 7, 8, 9, 10, 11, 12, 13, 14, 15, 16, 17, 18], [0, 1, 2, 3, 4, 5, 6, 7, 8, 9, 10, 11, 12, 13, 14, 15, 16, 17, 18, 19], [0, 1, 2, 3, 4, 5, 6, 7, 8, 9, 10, 11, 12, 13, 14, 15, 16, 17, 18, 19], [0, 1, 2, 3, 4, 5, 6, 7, 8, 9, 10, 11, 12, 13, 14, 15, 16, 17, 18, 19, 21], [0, 1, 2, 3, 4, 5, 6, 7, 8, 9, 10, 11, 12, 13, 14, 15, 16, 17, 18, 19, 20, 21, 22], [0, 1, 2, 3, 4, 5, 6, 7, 8, 9, 10, 11, 12, 13, 14, 15, 16, 17, 18, 19, 20, 21, 22, 23], [0, 1, 2, 3, 4, 5, 6, 7, 8, 9, 10, 11, 12, 13, 14, 15, 16, 17, 18, 19, 20, 21, 22, 23, 24], [0, 1, 2, 3, 4, 5, 6, 7, 8, 9, 10, 11, 12, 13, 14, 15, 16, 17, 18, 19], [0, 1, 2, 3, 4, 5, 6, 7, 8, 9, 10, 11, 12, 13, 14, 15, 16, 17, 18, 19], [0, 1, 2, 3, 4, 5, 6, 7, 8, 9, 10, 11, 12, 13, 14, 15, 16, 17, 18, 19, 26, 27], [0, 1, 2, 3, 4, 5, 6, 7, 8, 9, 10, 11, 12, 13, 14, 15, 16, 17, 18, 19, 26, 27, 28], [0, 1, 2, 3, 4, 5, 6, 7, 8, 9, 10, 11, 12, 13, 14, 15, 16, 17, 18, 19, 26, 27, 28, 29], [0, 1, 2, 3, 4, 5, 6, 7, 8, 9, 10, 11, 12, 13, 14, 15, 16, 17, 18, 19, 20, 21, 22, 23, 24, 25, 26, 27, 28, 29, 30], [0, 1, 2, 3, 4, 5, 6, 7, 8, 9, 10, 11, 12, 13, 14, 15, 16, 17, 18, 19, 20, 21, 22, 23, 24, 25, 26, 27, 28, 29, 30, 31], [0, 1, 2, 3, 4, 5, 6, 7, 8, 9, 10, 11, 12, 13, 14, 15, 16, 17, 18, 19, 20, 21, 22, 23, 24, 25, 26, 27, 28, 29, 30, 31, 32]] 31 mixed (by kernel_rfl) (by kernel_rfl) ?_
              simp (maxSteps := 10000000) [go_sem, h10, h10', h10'', p17, q18, g20, h22, h22', h24, h24', h25, h25', h25'']
              refine by_ctr false (s_IsValidName_ctr k x3.name x4 e21) (by simp (maxSteps := 10000000) [go_sem, h10, h10', h10'', p17, q18, g20, h22, h22', h24, h24', h25, h25', h25'']) (by simp) ?_
              simp (maxSteps := 10000000) [go_sem, h10, h10', h10'', p17, q18, g20, h22, h22', h24, h24', h25, h25', h25'']
              refine by_ctr false (s_l3Number_ctr x3.n x5 e23) (by simp (maxSteps := 10000000) [go_sem, h10, h10', h10'', p17, q18, g20, h22, h22', h24, h24', h25, h25', h25'']) (by simp) ?_
              simp (maxSteps := 10000000) [go_sem, h10, h10', h10'', p17, q18, g20, h22, h22', h24, h24', h25, h25', h25'']
              obtain rfl := Option.some.inj hM
              exact hK15 false _ rfl (Lift.into (by constructor <;> simp [go_sem, h10, h10', h10'', p17, q18, g20, h22, h22', h24, h24', h25, h25', h25'']))
      · rintro x2 rfl
        have hM := hR13
        try dsimp only at hM
        refine AW_cond (b := x2) (by simp (maxSteps := 10000000) [go_sem, h10, h10', h10'']) (fun h31 => ?_) (fun h31 => ?_)
        · rw [if_pos h31] at hM
          have h31' := h31; try simp at h31'
          refine AW_seq fun K32 hK32 => ?_
          refine AW_region ?_
          simp (maxSteps := 10000000) [go_sem, h10, h10', h10'', h31, h31']
          refine hK32 _ ?_
          obtain rfl := Option.some.inj hM
          have hM := hR3; dsimp only at hM
          obtain rfl := Option.some.inj hM
          refine AW_ret ?_
          simp (maxSteps := 10000000) [go_sem, h10, h10', h10'', h31, h31']
        · rw [if_neg (ne_true h31)] at hM
          have h31' := h31; try simp at h31'
          refine AW_skip ?_
          refine hK11 _ ?_
          refine AW_region ?_
          simp (maxSteps := 10000000) [go_sem, h10, h10', h10'', h31, h31']
          exact hL7 (IntKind.i64.wrap (x1 + 1)) _ hM (Lift.into (by constructor <;> simp [go_sem, h10, h10', h10'', h31, h31']))
    · rw [if_neg (ne_true h10)] at hM
      have h10' := h10; try simp at h10'
      have h10'' : ¬ (x1 < (a0.length : Int)) := by first | (have := h10; simp only [decide_eq_true_eq, decide_eq_false_iff_not, Bool.not_eq_true', Bool.not_eq_false', Bool.not_eq_true, Bool.not_eq_false] at this; omega) | (have := h10; simp at this; omega)
      refine AW_exit ?_
      obtain rfl := Option.some.inj hM
      exact hK5 () _ rfl (Lift.into (by constructor <;> simp [go_sem, h10, h10', h10'']))
  · rintro _ rfl
    have hM := hR3
    dsimp only at hM
    refine AW_seq fun K33 hK33 => ?_
    refine AW_region ?_
    simp (maxSteps := 10000000) [go_sem]
    refine hK33 _ ?_
    obtain rfl := Option.some.inj hM
    refine AW_ret ?_
    simp (maxSteps := 10000000) [go_sem]
set_option maxHeartbeats 4000000 in
set_option maxRecDepth 100000 in
theorem s_IsValidWorld_ctr (k : Nat) (a0 : TWorld) (r : Bool) (hM : s_IsValidWorld k a0 = some r) : Ctr Tryz.prog 20 [.agg (TWorld.c a0)] true [.one (.bool r)] := by
  unfold s_IsValidWorld at hM
  refine Ctr.of_walk (by kernel_rfl) Tryz.func20 rfl Tryz.ntmps20 Tryz.results20 (by simp) ?_; intro N w0 hbad
  refine AW_seq fun K1 hK1 => ?_
  refine AW_region ?_
  simp (maxSteps := 10000000) [go_sem]
  refine hK1 _ ?_
  obtain ⟨e2, hU4, hR3⟩ := bind_some hM; clear hM
  refine AW_mid (ι := Bool) (fun i => ⟨16, [(2, .one (.l (.bool i)))], [], []⟩) (fun i => i = e2) ?_ ?_
  · intro K5 hK5
    have hM := hU4; clear hU4
    obtain ⟨x2, e6, hM⟩ := bind_some hM
    by_cases h7 : x2 = true
    · rw [if_pos h7] at hM
      have h7' := h7; try simp at h7'
      obtain ⟨x3, e8, hM⟩ := bind_some hM
      by_cases h9 : x3 = true
      · rw [if_pos h9] at hM
        have h9' := h9; try simp at h9'
        obtain ⟨x4, e10, hM⟩ := bind_some hM
        refine AW_region ?_
        simp (maxSteps := 10000000) [go_sem, h7, h7', h9, h9']
        refine by_ctr false (s_l1In_ctr a0.clock 0 1000 x2 e6) (by simp (maxSteps := 10000000) [go_sem, h7, h7', h9, h9']) (by simp) ?_
        simp (maxSteps := 10000000) [go_sem, h7, h7', h9, h9']
        refine by_ctr false (s_l1In_ctr a0.seed 0 1000000 x3 e8) (by simp (maxSteps := 10000000) [go_sem, h7, h7', h9, h9']) (by simp) ?_
        simp (maxSteps := 10000000) [go_sem, h7, h7', h9, h9']
        refine by_ctr false (s_l14Files_ctr k a0.files x4 e10) (by simp (maxSteps := 10000000) [go_sem, h7, h7', h9, h9']) (by simp) ?_
        simp (maxSteps := 10000000) [go_sem, h7, h7', h9, h9']
        obtain rfl := Option.some.inj hM
        exact hK5 x4 _ rfl (Lift.into (by constructor <;> simp [go_sem, h7, h7', h9, h9']))
      · rw [if_neg h9] at hM
        have h9 := Bool.eq_false_iff.2 h9
        have h9' := h9; try simp at h9'
        refine AW_region ?_
        simp (maxSteps := 10000000) [go_sem, h7, h7', h9, h9']
        refine by_ctr false (s_l1In_ctr a0.clock 0 1000 x2 e6) (by simp (maxSteps := 10000000) [go_sem, h7, h7', h9, h9']) (by simp) ?_
        simp (maxSteps := 10000000) [go_sem, h7, h7', h9, h9']
        refine by_ctr false (s_l1In_ctr a0.seed 0 1000000 x3 e8) (by simp (maxSteps := 10000000) [go_sem, h7, h7', h9, h9']) (by simp) ?_
        simp (maxSteps := 10000000) [go_sem, h7, h7', h9, h9']
        obtain rfl := Option.some.inj hM
        exact hK5 false _ rfl (Lift.into (by constructor <;> simp [go_sem, h7, h7', h9, h9']))
    · rw [if_neg h7] at hM
      have h7 := Bool.eq_false_iff.2 h7
      have h7' := h7; try simp at h7'
      refine AW_region ?_
      simp (maxSteps := 10000000) [go_sem, h7, h7']
      refine by_ctr false (s_l1In_ctr a0.clock 0 1000 x2 e6) (by simp (maxSteps := 10000000) [go_sem, h7, h7']) (by simp) ?_
      simp (maxSteps := 10000000) [go_sem, h7, h7']
      obtain rfl := Option.some.inj hM
      exact hK5 false _ rfl (Lift.into (by constructor <;> simp [go_sem, h7, h7']))
  · rintro x1 rfl
    have hM := hR3
    try dsimp only at hM
    obtain rfl := Option.some.inj hM
    refine AW_ret ?_
    simp (maxSteps := 10000000) [go_sem]
set_option maxHeartbeats 4000000 in
set_option maxRecDepth 100000 in
theorem s_AdvanceWorld_ctr (k : Nat) (a0 : TEngine) (a1 : TWorld) (r : TEngine × Bool) (hM : s_AdvanceWorld k a0 a1 = some r) : Ctr Tryz.prog 6 [.agg (TEngine.c a0), .agg (TWorld.c a1)] true [.agg (TEngine.c r.1), .one (.bool r.2)] := by
  unfold s_AdvanceWorld at hM
  refine Ctr.of_walk (by kernel_rfl) Tryz.func6 rfl Tryz.ntmps6 Tryz.results6 (by simp) ?_; intro N w0 hbad
  refine AW_seq fun K1 hK1 => ?_
  refine AW_region ?_
  simp (maxSteps := 10000000) [go_sem]
  refine hK1 _ ?_
  refine AW_seq fun K2 hK2 => ?_
  obtain ⟨x1, e3, hM⟩ := bind_some hM
  refine AW_region ?_
  simp (maxSteps := 10000000) [go_sem]
  refine by_ctr false (s_l28Copy_ctr k a0 x1 e3) (by simp (maxSteps := 10000000) [go_sem]) (by simp) ?_
  simp (maxSteps := 10000000) [go_sem]
  refine hK2 _ ?_
  refine AW_seq fun K4 hK4 => ?_
  refine AW_seq fun K5 hK5 => ?_
  obtain ⟨x2, e6, hM⟩ := bind_some hM
  refine AW_region ?_
  simp (maxSteps := 10000000) [go_sem]
  refine by_ctr false (s_IsValidWorld_ctr k a1 x2 e6) (by simp (maxSteps := 10000000) [go_sem]) (by simp) ?_
  simp (maxSteps := 10000000) [go_sem]
  refine hK5 _ ?_
  refine AW_cond (b := (!x2)) (by simp (maxSteps := 10000000) [go_sem]) (fun h7 => ?_) (fun h7 => ?_)
  · rw [if_pos h7] at hM
    have h7' := h7; try simp at h7'
    refine AW_seq fun K8 hK8 => ?_
    refine AW_region ?_
    simp (maxSteps := 10000000) [go_sem, h7, h7']
    refine hK8 _ ?_
    obtain rfl := Option.some.inj hM
    refine AW_ret ?_
    simp (maxSteps := 10000000) [go_sem, h7, h7']
  · rw [if_neg (ne_true h7)] at hM
    have h7' := h7; try simp at h7'
    refine AW_skip ?_
    refine hK4 _ ?_
    refine AW_seq fun K9 hK9 => ?_
    obtain ⟨x3, e10, hM⟩ := bind_some hM
    refine AW_region ?_
    simp (maxSteps := 10000000) [go_sem, h7, h7']
    refine by_ctr false (s_l14Copy_ctr a1 x3 e10) (by simp (maxSteps := 10000000) [go_sem, h7, h7']) (by simp) ?_
    simp (maxSteps := 10000000) [go_sem, h7, h7']
    refine hK9 _ ?_
    refine AW_seq fun K11 hK11 => ?_
    refine AW_region ?_
    simp (maxSteps := 10000000) [go_sem, h7, h7']
    refine hK11 _ ?_
    obtain rfl := Option.some.inj hM
    refine AW_ret ?_
    simp (maxSteps := 10000000) [go_sem, h7, h7']
set_option maxHeartbeats 4000000 in
set_option maxRecDepth 100000 in
theorem i_copyNotebook_ctr (a0 : TNotebook) (r : TNotebook) (hM : i_copyNotebook a0 = some r) : Ctr Tryz.prog 54 [.agg (TNotebook.c a0)] true [.agg (TNotebook.c r)] := by
  unfold i_copyNotebook at hM
  refine Ctr.of_walk (by kernel_rfl) Tryz.func54 rfl Tryz.ntmps54 Tryz.results54 (by simp) ?_; intro N w0 hbad
  refine AW_seq fun K1 hK1 => ?_
  refine AW_region ?_
  simp (maxSteps := 10000000) [go_sem]
  refine hK1 _ ?_
  refine AW_seq fun K2 hK2 => ?_
  obtain ⟨x1, e3, hM⟩ := bind_some hM
  obtain ⟨c4, s5, s6⟩ := app_spec e3
  replace c4 := c4.symm; subst c4
  try simp at s5
  try simp at s6
  refine AW_region ?_
  simp (maxSteps := 10000000) [go_sem, s5, s6]
  refine hK2 _ ?_
  obtain rfl := Option.some.inj hM
  refine AW_ret ?_
  simp (maxSteps := 10000000) [go_sem, s5, s6]
set_option maxHeartbeats 4000000 in
set_option maxRecDepth 100000 in
theorem i_copyWorld_ctr (a0 : TWorld) (r : TWorld) (hM : i_copyWorld a0 = some r) : Ctr Tryz.prog 28 [.agg (TWorld.c a0)] true [.agg (TWorld.c r)] := by
  unfold i_copyWorld at hM
  refine Ctr.of_walk (by kernel_rfl) Tryz.func28 rfl Tryz.ntmps28 Tryz.results28 (by simp) ?_; intro N w0 hbad
  refine AW_seq fun K1 hK1 => ?_
  refine AW_region ?_
  simp (maxSteps := 10000000) [go_sem]
  refine hK1 _ ?_
  refine AW_seq fun K2 hK2 => ?_
  obtain ⟨x1, e3, hM⟩ := bind_some hM
  obtain ⟨c4, s5, s6⟩ := app_spec e3
  replace c4 := c4.symm; subst c4
  try simp at s5
  try simp at s6
  refine AW_region ?_
  simp (maxSteps := 10000000) [go_sem, s5, s6]
  refine hK2 _ ?_
  refine AW_seq fun K7 hK7 => ?_
  refine AW_region ?_
  simp (maxSteps := 10000000) [go_sem, s5, s6]
  refine hK7 _ ?_
  obtain rfl := Option.some.inj hM
  refine AW_ret ?_
  simp (maxSteps := 10000000) [go_sem, s5, s6]
set_option maxHeartbeats 4000000 in
set_option maxRecDepth 100000 in
theorem i_copyRow_ctr (a0 : TRow) (r : TRow) (hM : i_copyRow a0 = some r) : Ctr Tryz.prog 92 [.agg (TRow.c a0)] true [.agg (TRow.c r)] := by
  unfold i_copyRow at hM
  refine Ctr.of_walk (by kernel_rfl) Tryz.func92 rfl Tryz.ntmps92 Tryz.results92 (by simp) ?_; intro N w0 hbad
  refine AW_seq fun K1 hK1 => ?_
  refine AW_region ?_
  simp (maxSteps := 10000000) [go_sem]
  refine hK1 _ ?_
  refine AW_seq fun K2 hK2 => ?_
  refine AW_into (σ' := ⟨12, [(1, .one (.box 1 0)), (2, .one (.box 2 0))], [(1, [.l (.sl (a0.cells.map iC)), .l (.sl (a0.from_.map TOrigin.c))]), (2, [.nil, .nil])], []⟩) (Lift.into (by constructor <;> simp [go_sem])) ?_
  obtain ⟨x1, e3, hM⟩ := bind_some hM
  obtain ⟨c4, s5, s6⟩ := app_spec e3
  replace c4 := c4.symm; subst c4
  try simp at s5
  try simp at s6
  obtain ⟨x2, e7, hM⟩ := bind_some hM
  obtain ⟨c8, s9, s10⟩ := app_spec e7
  replace c8 := c8.symm; subst c8
  try simp at s9
  try simp at s10
  refine AW_open [[], [], [1], [0, 1, 2], [], [], [5], [0, 1, 2, 3, 4, 5, 6], [0, 1, 2, 3, 4, 5, 6, 7], [0, 1, 2, 3, 4, 5, 6, 7, 8]] mixed (by kernel_rfl) ?_
  simp (maxSteps := 10000000) [go_sem, s5, s6, s9, s10]
  refine ⟨dOkK_sound (by kernel_rfl), ?_⟩
  refine hK2 _ ?_
  obtain rfl := Option.some.inj hM
  refine AW_ret ?_
  simp (maxSteps := 10000000) [go_sem, s5, s6, s9, s10]
set_option maxHeartbeats 4000000 in
set_option maxRecDepth 100000 in
theorem i_copyValues_all : ∀ (k : Nat), (∀ (a0 : List TValue) (r : List TValue) (hM : i_copyValues k a0 = some r), Ctr Tryz.prog 91 [.one (.sl (a0.map TValue.c))] true [.one (.sl (r.map TValue.c))]) ∧
    (∀ (a0 : TValue) (r : TValue) (hM : i_copyValue k a0 = some r), Ctr Tryz.prog 56 [.agg (TValue.c a0)] true [.agg (TValue.c r)]) := by
  intro k
  induction k with
  | zero => exact ⟨by intro a0 r hM; simp [i_copyValues] at hM, by intro a0 r hM; simp [i_copyValue] at hM⟩
  | succ k ih =>
    obtain ⟨ih_i_copyValues, ih_i_copyValue⟩ := ih
    refine ⟨?_, ?_⟩
    · intro a0 r hM
      rw [i_copyValues] at hM
      refine Ctr.of_walk (by kernel_rfl) Tryz.func91 rfl Tryz.ntmps91 Tryz.results91 (by simp) ?_; intro N w0 hbad
      refine AW_seq fun K1 hK1 => ?_
      refine AW_region ?_
      simp (maxSteps := 10000000) [go_sem]
      refine hK1 _ ?_
      refine AW_seq fun K2 hK2 => ?_
      refine AW_region ?_
      simp (maxSteps := 10000000) [go_sem]
      refine hK2 _ ?_
      obtain ⟨e3, hU5, hR4⟩ := bind_some hM; clear hM
      refine AW_mid (ι := List TValue) (fun i => ⟨20, [(3, .one (.own 384 i.length))], [], [(384, some ⟨true, i.map TValue.c⟩)]⟩) (fun i => i = e3) ?_ ?_
      · intro K6 hK6
        have hM := hU5; clear hU5
        refine AW_seq fun K7 hK7 => ?_
        refine AW_region ?_
        simp (maxSteps := 10000000) [go_sem]
        refine hK7 _ ?_
        refine AW_block ?_
        refine AW_go (ι := (List TValue) × Int) (fun i => ⟨20, [(3, .one (.own 384 i.1.length)), (7, .one (.l (.sl (a0.map TValue.c)))), (8, .one (.l (.int .i64 (a0.length : Int)))), (9, .one (.l (.int .i64 i.2)))], [], [(384, some ⟨true, i.1.map TValue.c⟩)]⟩) (fun n i => i_copyValues_u1 (i_copyValue k) a0 n i.1 i.2 = some e3) k (([] : List TValue), 0) hM (Lift.into (by constructor <;> simp [go_sem])) (fun _ h => by simp [i_copyValues_u1] at h) ?_
        intro KL8 n ⟨x2, x3⟩ hL8 hM
        have hM : i_copyValues_u1 (i_copyValue k) a0 (n + 1) x2 x3 = some e3 := hM; rw [i_copyValues_u1] at hM
        refine AW_seq fun K9 hK9 => ?_
        refine AW_region ?_
        simp (maxSteps := 10000000) [go_sem]
        refine hK9 _ ?_
        refine AW_seq fun K10 hK10 => ?_
        refine AW_cond (b := (decide (x3 < (a0.length : Int)))) (by simp (maxSteps := 10000000) [go_sem]) (fun h11 => ?_) (fun h11 => ?_)
        · rw [if_pos h11] at hM
          have h11' := h11; try simp at h11'
          have h11'' : ¬ ((a0.length : Int) ≤ x3) := by first | (have := h11; simp only [decide_eq_true_eq, decide_eq_false_iff_not, Bool.not_eq_true', Bool.not_eq_false', Bool.not_eq_true, Bool.not_eq_false] at this; omega) | (have := h11; simp at this; omega)
          refine AW_skip ?_
          refine hK10 _ ?_
          refine AW_seq fun K12 hK12 => ?_
          refine AW_block ?_
          refine AW_seq fun K13 hK13 => ?_
          obtain ⟨x4, e14, hM⟩ := bind_some hM
          obtain ⟨p15, q16, l17, g18⟩ := at_spec e14
          refine AW_region ?_
          simp (maxSteps := 10000000) [go_sem, h11, h11', h11'', p15, q16, g18]
          refine hK13 _ ?_
          obtain ⟨x5, e19, hM⟩ := bind_some hM
          obtain ⟨x6, e20, hM⟩ := bind_some hM
          obtain ⟨c21, s22, s23⟩ := app_spec e20
          replace c21 := c21.symm; subst c21
          try simp at s22
          try simp at s23
          refine AW_region ?_
          simp (maxSteps := 10000000) [go_sem, h11, h11', h11'', p15, q16, g18, s22, s23]
          refine by_ctr false (ih_i_copyValue x4 x5 e19) (by simp (maxSteps := 10000000) [go_sem, h11, h11', h11'', p15, q16, g18, s22, s23]) (by simp) ?_
          simp (maxSteps := 10000000) [go_sem, h11, h11', h11'', p15, q16, g18, s22, s23]
          refine hK12 _ ?_
          refine AW_region ?_
          simp (maxSteps := 10000000) [go_sem, h11, h11', h11'', p15, q16, g18, s22, s23]
          exact hL8 ((x2 ++ [x5]), (IntKind.i64.wrap (x3 + 1))) _ hM (Lift.into (by constructor <;> simp [go_sem, h11, h11', h11'', p15, q16, g18, s22, s23]))
        · rw [if_neg (ne_true h11)] at hM
          have h11' := h11; try simp at h11'
          have h11'' : ¬ (x3 < (a0.length : Int)) := by first | (have := h11; simp only [decide_eq_true_eq, decide_eq_false_iff_not, Bool.not_eq_true', Bool.not_eq_false', Bool.not_eq_true, Bool.not_eq_false] at this; omega) | (have := h11; simp at this; omega)
          refine AW_exit ?_
          obtain rfl := Option.some.inj hM
          exact hK6 x2 _ rfl (Lift.into (by constructor <;> simp [go_sem, h11, h11', h11'']))
      · rintro x1 rfl
        have hM := hR4
        try dsimp only at hM
        refine AW_seq fun K24 hK24 => ?_
        refine AW_region ?_
        simp (maxSteps := 10000000) [go_sem]
        refine hK24 _ ?_
        obtain rfl := Option.some.inj hM
        refine AW_ret ?_
        simp (maxSteps := 10000000) [go_sem]
    · intro a0 r hM
      rw [i_copyValue] at hM
      refine Ctr.of_walk (by kernel_rfl) Tryz.func56 rfl Tryz.ntmps56 Tryz.results56 (by simp) ?_; intro N w0 hbad
      refine AW_seq fun K1 hK1 => ?_
      refine AW_region ?_
      simp (maxSteps := 10000000) [go_sem]
      refine hK1 _ ?_
      refine AW_seq fun K2 hK2 => ?_
      refine AW_region ?_
      simp (maxSteps := 10000000) [go_sem]
      refine hK2 _ ?_
      refine AW_seq fun K3 hK3 => ?_
      obtain ⟨x1, e4, hM⟩ := bind_some hM
      refine AW_region ?_
      simp (maxSteps := 10000000) [go_sem]
      refine by_ctr false (ih_i_copyValues a0.list x1 e4) (by simp (maxSteps := 10000000) [go_sem]) (by simp) ?_
      simp (maxSteps := 10000000) [go_sem]
      refine hK3 _ ?_
      refine AW_seq fun K5 hK5 => ?_
      obtain ⟨x2, e6, hM⟩ := bind_some hM
      obtain ⟨c7, s8, s9⟩ := app_spec e6
      replace c7 := c7.symm; subst c7
      try simp at s8
      try simp at s9
      refine AW_region ?_
      simp (maxSteps := 10000000) [go_sem, s8, s9]
      refine hK5 _ ?_
      refine AW_seq fun K10 hK10 => ?_
      refine AW_region ?_
      simp (maxSteps := 10000000) [go_sem, s8, s9]
      refine hK10 _ ?_
      obtain ⟨e11, hU13, hR12⟩ := bind_some hM; clear hM
      refine AW_mid (ι := List TRow) (fun i => ⟨33, [(2, .one (.box 2 0)), (3, .one (.box 3 0))], [(2, [.l (.int .i64 0), .l (.int .i64 0), .l (.int .i64 0), .l (.str (⟨#[]⟩ : ByteArray)), .nil, .nil, .nil]), (3, [.l (.int .i64 a0.kind), .l (.int .i64 a0.n), .l (.int .i64 a0.step), .l (.str a0.text), .own 576 x1.length, .own 704 ((([] : List ByteArray) ++ a0.columns).length), .own 1856 i.length])], [(576, some ⟨true, x1.map TValue.c⟩), (704, some ⟨true, (([] : List ByteArray) ++ a0.columns).map sC⟩), (1856, some ⟨true, i.map TRow.c⟩)]⟩) (fun i => i = e11) ?_ ?_
      · intro K14 hK14
        have hM := hU13; clear hU13
        refine AW_seq fun K15 hK15 => ?_
        refine AW_region ?_
        simp (maxSteps := 10000000) [go_sem, s8, s9]
        refine hK15 _ ?_
        refine AW_block ?_
        refine AW_go (ι := (List TRow) × Int) (fun i => ⟨33, [(2, .one (.box 2 0)), (3, .one (.box 3 0)), (18, .one (.l (.sl (a0.rows.map TRow.c)))), (19, .one (.l (.int .i64 (a0.rows.length : Int)))), (20, .one (.l (.int .i64 i.2)))], [(2, [.l (.int .i64 0), .l (.int .i64 0), .l (.int .i64 0), .l (.str (⟨#[]⟩ : ByteArray)), .nil, .nil, .nil]), (3, [.l (.int .i64 a0.kind), .l (.int .i64 a0.n), .l (.int .i64 a0.step), .l (.str a0.text), .own 576 x1.length, .own 704 ((([] : List ByteArray) ++ a0.columns).length), .own 1856 i.1.length])], [(576, some ⟨true, x1.map TValue.c⟩), (704, some ⟨true, (([] : List ByteArray) ++ a0.columns).map sC⟩), (1856, some ⟨true, i.1.map TRow.c⟩)]⟩) (fun n i => i_copyValue_u1 a0 n i.1 i.2 = some e11) k ([], 0) hM (Lift.into (by constructor <;> simp [go_sem, s8, s9])) (fun _ h => by simp [i_copyValue_u1] at h) ?_
        intro KL16 n ⟨x4, x5⟩ hL16 hM
        have hM : i_copyValue_u1 a0 (n + 1) x4 x5 = some e11 := hM; rw [i_copyValue_u1] at hM
        refine AW_seq fun K17 hK17 => ?_
        refine AW_region ?_
        simp (maxSteps := 10000000) [go_sem]
        refine hK17 _ ?_
        refine AW_seq fun K18 hK18 => ?_
        refine AW_cond (b := (decide (x5 < (a0.rows.length : Int)))) (by simp (maxSteps := 10000000) [go_sem]) (fun h19 => ?_) (fun h19 => ?_)
        · rw [if_pos h19] at hM
          have h19' := h19; try simp at h19'
          have h19'' : ¬ ((a0.rows.length : Int) ≤ x5) := by first | (have := h19; simp only [decide_eq_true_eq, decide_eq_false_iff_not, Bool.not_eq_true', Bool.not_eq_false', Bool.not_eq_true, Bool.not_eq_false] at this; omega) | (have := h19; simp at this; omega)
          refine AW_skip ?_
          refine hK18 _ ?_
          refine AW_seq fun K20 hK20 => ?_
          refine AW_block ?_
          refine AW_seq fun K21 hK21 => ?_
          obtain ⟨x6, e22, hM⟩ := bind_some hM
          obtain ⟨p23, q24, l25, g26⟩ := at_spec e22
          refine AW_region ?_
          simp (maxSteps := 10000000) [go_sem, h19, h19', h19'', p23, q24, g26]
          refine hK21 _ ?_
          refine AW_into (σ' := ⟨33, [(2, .one (.box 2 0)), (3, .one (.box 3 0)), (5, .one (.box 5 0)), (18, .one (.l (.sl (a0.rows.map TRow.c)))), (19, .one (.l (.int .i64 (a0.rows.length : Int)))), (20, .one (.l (.int .i64 x5)))], [(2, [.l (.int .i64 0), .l (.int .i64 0), .l (.int .i64 0), .l (.str (⟨#[]⟩ : ByteArray)), .nil, .nil, .nil]), (3, [.l (.int .i64 a0.kind), .l (.int .i64 a0.n), .l (.int .i64 a0.step), .l (.str a0.text), .own 576 x1.length, .own 704 ((([] : List ByteArray) ++ a0.columns).length), .own 1856 x4.length]), (5, [.l (.sl (x6.cells.map iC)), .l (.sl (x6.from_.map TOrigin.c))])], [(576, some ⟨true, x1.map TValue.c⟩), (704, some ⟨true, (([] : List ByteArray) ++ a0.columns).map sC⟩), (1856, some ⟨true, x4.map TRow.c⟩)]⟩) (Lift.into (by constructor <;> simp [go_sem, h19, h19', h19'', p23, q24, g26])) ?_
          obtain ⟨x7, e27, hM⟩ := bind_some hM
          obtain ⟨x8, e28, hM⟩ := bind_some hM
          obtain ⟨c29, s30, s31⟩ := app_spec e28
          replace c29 := c29.symm; subst c29
          try simp at s30
          try simp at s31
          refine AW_open [[], [0], [], [2], [2, 3], [0, 1, 2, 3, 4], [0, 1, 2, 3, 4, 5], [0, 1, 2, 3, 4, 5, 6]] mixed (by kernel_rfl) ?_
          simp (maxSteps := 10000000) [go_sem, h19, h19', h19'', p23, q24, g26, s30, s31]
          refine by_ctr false (i_copyRow_ctr x6 x7 e27) (by simp (maxSteps := 10000000) [go_sem, h19, h19', h19'', p23, q24, g26, s30, s31]) (by simp) ?_
          simp (maxSteps := 10000000) [go_sem, h19, h19', h19'', p23, q24, g26, s30, s31]
          refine ⟨dOkK_sound (by kernel_rfl), ?_⟩
          refine hK20 _ ?_
          refine AW_region ?_
          simp (maxSteps := 10000000) [go_sem, h19, h19', h19'', p23, q24, g26, s30, s31]
          exact hL16 ((x4 ++ [x7]), (IntKind.i64.wrap (x5 + 1))) _ hM (Lift.into (by constructor <;> simp [go_sem, h19, h19', h19'', p23, q24, g26, s30, s31]))
        · rw [if_neg (ne_true h19)] at hM
          have h19' := h19; try simp at h19'
          have h19'' : ¬ (x5 < (a0.rows.length : Int)) := by first | (have := h19; simp only [decide_eq_true_eq, decide_eq_false_iff_not, Bool.not_eq_true', Bool.not_eq_false', Bool.not_eq_true, Bool.not_eq_false] at this; omega) | (have := h19; simp at this; omega)
          refine AW_exit ?_
          obtain rfl := Option.some.inj hM
          exact hK14 x4 _ rfl (Lift.into (by constructor <;> simp [go_sem, h19, h19', h19'']))
      · rintro x3 rfl
        have hM := hR12
        try dsimp only at hM
        refine AW_seq fun K32 hK32 => ?_
        refine AW_region ?_
        simp (maxSteps := 10000000) [go_sem, s8, s9]
        refine hK32 _ ?_
        obtain rfl := Option.some.inj hM
        refine AW_ret ?_
        simp (maxSteps := 10000000) [go_sem, s8, s9]
theorem i_copyValues_ctr (k : Nat) : ∀ (a0 : List TValue) (r : List TValue) (hM : i_copyValues k a0 = some r), Ctr Tryz.prog 91 [.one (.sl (a0.map TValue.c))] true [.one (.sl (r.map TValue.c))] := (i_copyValues_all k).1
theorem i_copyValue_ctr (k : Nat) : ∀ (a0 : TValue) (r : TValue) (hM : i_copyValue k a0 = some r), Ctr Tryz.prog 56 [.agg (TValue.c a0)] true [.agg (TValue.c r)] := (i_copyValues_all k).2

set_option maxHeartbeats 4000000 in
set_option maxRecDepth 100000 in
theorem i_copyReads_ctr (k : Nat) (a0 : List TRead) (r : List TRead) (hM : i_copyReads k a0 = some r) : Ctr Tryz.prog 90 [.one (.sl (a0.map TRead.c))] true [.one (.sl (r.map TRead.c))] := by
  unfold i_copyReads at hM
  refine Ctr.of_walk (by kernel_rfl) Tryz.func90 rfl Tryz.ntmps90 Tryz.results90 (by simp) ?_; intro N w0 hbad
  refine AW_seq fun K1 hK1 => ?_
  refine AW_region ?_
  simp (maxSteps := 10000000) [go_sem]
  refine hK1 _ ?_
  refine AW_seq fun K2 hK2 => ?_
  refine AW_region ?_
  simp (maxSteps := 10000000) [go_sem]
  refine hK2 _ ?_
  obtain ⟨e3, hU5, hR4⟩ := bind_some hM; clear hM
  refine AW_mid (ι := List TRead) (fun i => ⟨23, [(3, .one (.own 384 i.length))], [], [(384, some ⟨true, i.map TRead.c⟩)]⟩) (fun i => i = e3) ?_ ?_
  · intro K6 hK6
    have hM := hU5; clear hU5
    refine AW_seq fun K7 hK7 => ?_
    refine AW_region ?_
    simp (maxSteps := 10000000) [go_sem]
    refine hK7 _ ?_
    refine AW_block ?_
    refine AW_go (ι := (List TRead) × Int) (fun i => ⟨23, [(3, .one (.own 384 i.1.length)), (7, .one (.l (.sl (a0.map TRead.c)))), (8, .one (.l (.int .i64 (a0.length : Int)))), (9, .one (.l (.int .i64 i.2)))], [], [(384, some ⟨true, i.1.map TRead.c⟩)]⟩) (fun n i => i_copyReads_u1 k a0 n i.1 i.2 = some e3) k (([] : List TRead), 0) hM (Lift.into (by constructor <;> simp [go_sem])) (fun _ h => by simp [i_copyReads_u1] at h) ?_
    intro KL8 n ⟨x2, x3⟩ hL8 hM
    have hM : i_copyReads_u1 k a0 (n + 1) x2 x3 = some e3 := hM; rw [i_copyReads_u1] at hM
    refine AW_seq fun K9 hK9 => ?_
    refine AW_region ?_
    simp (maxSteps := 10000000) [go_sem]
    refine hK9 _ ?_
    refine AW_seq fun K10 hK10 => ?_
    refine AW_cond (b := (decide (x3 < (a0.length : Int)))) (by simp (maxSteps := 10000000) [go_sem]) (fun h11 => ?_) (fun h11 => ?_)
    · rw [if_pos h11] at hM
      have h11' := h11; try simp at h11'
      have h11'' : ¬ ((a0.length : Int) ≤ x3) := by first | (have := h11; simp only [decide_eq_true_eq, decide_eq_false_iff_not, Bool.not_eq_true', Bool.not_eq_false', Bool.not_eq_true, Bool.not_eq_false] at this; omega) | (have := h11; simp at this; omega)
      refine AW_skip ?_
      refine hK10 _ ?_
      refine AW_seq fun K12 hK12 => ?_
      refine AW_block ?_
      refine AW_seq fun K13 hK13 => ?_
      obtain ⟨x4, e14, hM⟩ := bind_some hM
      obtain ⟨p15, q16, l17, g18⟩ := at_spec e14
      refine AW_region ?_
      simp (maxSteps := 10000000) [go_sem, h11, h11', h11'', p15, q16, g18]
      refine hK13 _ ?_
      refine AW_seq fun K19 hK19 => ?_
      obtain ⟨x5, e20, hM⟩ := bind_some hM
      refine AW_region ?_
      simp (maxSteps := 10000000) [go_sem, h11, h11', h11'', p15, q16, g18]
      refine by_ctr false (i_copyValue_ctr k x4.result x5 e20) (by simp (maxSteps := 10000000) [go_sem, h11, h11', h11'', p15, q16, g18]) (by simp) ?_
      simp (maxSteps := 10000000) [go_sem, h11, h11', h11'', p15, q16, g18]
      refine hK19 _ ?_
      obtain ⟨x6, e21, hM⟩ := bind_some hM
      obtain ⟨c22, s23, s24⟩ := app_spec e21
      replace c22 := c22.symm; subst c22
      try simp at s23
      try simp at s24
      refine AW_region ?_
      simp (maxSteps := 10000000) [go_sem, h11, h11', h11'', p15, q16, g18, s23, s24]
      refine hK12 _ ?_
      refine AW_region ?_
      simp (maxSteps := 10000000) [go_sem, h11, h11', h11'', p15, q16, g18, s23, s24]
      exact hL8 ((x2 ++ [(TRead.mk x4.kind x4.n x4.time x4.text x5)]), (IntKind.i64.wrap (x3 + 1))) _ hM (Lift.into (by constructor <;> simp [go_sem, h11, h11', h11'', p15, q16, g18, s23, s24]))
    · rw [if_neg (ne_true h11)] at hM
      have h11' := h11; try simp at h11'
      have h11'' : ¬ (x3 < (a0.length : Int)) := by first | (have := h11; simp only [decide_eq_true_eq, decide_eq_false_iff_not, Bool.not_eq_true', Bool.not_eq_false', Bool.not_eq_true, Bool.not_eq_false] at this; omega) | (have := h11; simp at this; omega)
      refine AW_exit ?_
      obtain rfl := Option.some.inj hM
      exact hK6 x2 _ rfl (Lift.into (by constructor <;> simp [go_sem, h11, h11', h11'']))
  · rintro x1 rfl
    have hM := hR4
    try dsimp only at hM
    refine AW_seq fun K25 hK25 => ?_
    refine AW_region ?_
    simp (maxSteps := 10000000) [go_sem]
    refine hK25 _ ?_
    obtain rfl := Option.some.inj hM
    refine AW_ret ?_
    simp (maxSteps := 10000000) [go_sem]
set_option maxHeartbeats 4000000 in
set_option maxRecDepth 100000 in
theorem i_copyTapes_ctr (k : Nat) (a0 : List TTape) (r : List TTape) (hM : i_copyTapes k a0 = some r) : Ctr Tryz.prog 55 [.one (.sl (a0.map TTape.c))] true [.one (.sl (r.map TTape.c))] := by
  unfold i_copyTapes at hM
  refine Ctr.of_walk (by kernel_rfl) Tryz.func55 rfl Tryz.ntmps55 Tryz.results55 (by simp) ?_; intro N w0 hbad
  refine AW_seq fun K1 hK1 => ?_
  refine AW_region ?_
  simp (maxSteps := 10000000) [go_sem]
  refine hK1 _ ?_
  refine AW_seq fun K2 hK2 => ?_
  refine AW_region ?_
  simp (maxSteps := 10000000) [go_sem]
  refine hK2 _ ?_
  obtain ⟨e3, hU5, hR4⟩ := bind_some hM; clear hM
  refine AW_mid (ι := List TTape) (fun i => ⟨26, [(3, .one (.own 384 i.length))], [], [(384, some ⟨true, i.map TTape.c⟩)]⟩) (fun i => i = e3) ?_ ?_
  · intro K6 hK6
    have hM := hU5; clear hU5
    refine AW_seq fun K7 hK7 => ?_
    refine AW_region ?_
    simp (maxSteps := 10000000) [go_sem]
    refine hK7 _ ?_
    refine AW_block ?_
    refine AW_go (ι := (List TTape) × Int) (fun i => ⟨26, [(3, .one (.own 384 i.1.length)), (7, .one (.l (.sl (a0.map TTape.c)))), (8, .one (.l (.int .i64 (a0.length : Int)))), (9, .one (.l (.int .i64 i.2)))], [], [(384, some ⟨true, i.1.map TTape.c⟩)]⟩) (fun n i => i_copyTapes_u1 k a0 n i.1 i.2 = some e3) k (([] : List TTape), 0) hM (Lift.into (by constructor <;> simp [go_sem])) (fun _ h => by simp [i_copyTapes_u1] at h) ?_
    intro KL8 n ⟨x2, x3⟩ hL8 hM
    have hM : i_copyTapes_u1 k a0 (n + 1) x2 x3 = some e3 := hM; rw [i_copyTapes_u1] at hM
    refine AW_seq fun K9 hK9 => ?_
    refine AW_region ?_
    simp (maxSteps := 10000000) [go_sem]
    refine hK9 _ ?_
    refine AW_seq fun K10 hK10 => ?_
    refine AW_cond (b := (decide (x3 < (a0.length : Int)))) (by simp (maxSteps := 10000000) [go_sem]) (fun h11 => ?_) (fun h11 => ?_)
    · rw [if_pos h11] at hM
      have h11' := h11; try simp at h11'
      have h11'' : ¬ ((a0.length : Int) ≤ x3) := by first | (have := h11; simp only [decide_eq_true_eq, decide_eq_false_iff_not, Bool.not_eq_true', Bool.not_eq_false', Bool.not_eq_true, Bool.not_eq_false] at this; omega) | (have := h11; simp at this; omega)
      refine AW_skip ?_
      refine hK10 _ ?_
      refine AW_seq fun K12 hK12 => ?_
      refine AW_block ?_
      refine AW_seq fun K13 hK13 => ?_
      obtain ⟨x4, e14, hM⟩ := bind_some hM
      obtain ⟨p15, q16, l17, g18⟩ := at_spec e14
      refine AW_region ?_
      simp (maxSteps := 10000000) [go_sem, h11, h11', h11'', p15, q16, g18]
      refine hK13 _ ?_
      refine AW_into (σ' := ⟨26, [(3, .one (.own 384 x2.length)), (5, .one (.box 5 0)), (7, .one (.l (.sl (a0.map TTape.c)))), (8, .one (.l (.int .i64 (a0.length : Int)))), (9, .one (.l (.int .i64 x3)))], [(5, [.l (.int .i64 x4.cell), .l (.int .i64 x4.version), .l (.sl (x4.reads.map TRead.c))])], [(384, some ⟨true, x2.map TTape.c⟩)]⟩) (Lift.into (by constructor <;> simp [go_sem, h11, h11', h11'', p15, q16, g18])) ?_
      obtain ⟨x5, e19, hM⟩ := bind_some hM
      obtain ⟨x6, e20, hM⟩ := bind_some hM
      obtain ⟨c21, s22, s23⟩ := app_spec e20
      replace c21 := c21.symm; subst c21
      try simp at s22
      try simp at s23
      refine AW_open [[], [], [1], [], [3], [], [5], [5, 6], [1, 2, 3, 4, 5, 6, 7], [1, 2, 3, 4, 5, 6, 7, 8], [0, 1, 2, 3, 4, 5, 6, 7, 8, 9], [0, 1, 2, 3, 4, 5, 6, 7, 8, 9, 10]] mixed (by kernel_rfl) ?_
      simp (maxSteps := 10000000) [go_sem, h11, h11', h11'', p15, q16, g18, s22, s23]
      refine by_ctr false (i_copyReads_ctr k x4.reads x5 e19) (by simp (maxSteps := 10000000) [go_sem, h11, h11', h11'', p15, q16, g18, s22, s23]) (by simp) ?_
      simp (maxSteps := 10000000) [go_sem, h11, h11', h11'', p15, q16, g18, s22, s23]
      refine ⟨dOkK_sound (by kernel_rfl), ?_⟩
      refine hK12 _ ?_
      refine AW_region ?_
      simp (maxSteps := 10000000) [go_sem, h11, h11', h11'', p15, q16, g18, s22, s23]
      exact hL8 ((x2 ++ [(TTape.mk x4.cell x4.version x5)]), (IntKind.i64.wrap (x3 + 1))) _ hM (Lift.into (by constructor <;> simp [go_sem, h11, h11', h11'', p15, q16, g18, s22, s23]))
    · rw [if_neg (ne_true h11)] at hM
      have h11' := h11; try simp at h11'
      have h11'' : ¬ (x3 < (a0.length : Int)) := by first | (have := h11; simp only [decide_eq_true_eq, decide_eq_false_iff_not, Bool.not_eq_true', Bool.not_eq_false', Bool.not_eq_true, Bool.not_eq_false] at this; omega) | (have := h11; simp at this; omega)
      refine AW_exit ?_
      obtain rfl := Option.some.inj hM
      exact hK6 x2 _ rfl (Lift.into (by constructor <;> simp [go_sem, h11, h11', h11'']))
  · rintro x1 rfl
    have hM := hR4
    try dsimp only at hM
    refine AW_seq fun K24 hK24 => ?_
    refine AW_region ?_
    simp (maxSteps := 10000000) [go_sem]
    refine hK24 _ ?_
    obtain rfl := Option.some.inj hM
    refine AW_ret ?_
    simp (maxSteps := 10000000) [go_sem]
set_option maxHeartbeats 4000000 in
set_option maxRecDepth 100000 in
theorem i_copyEngine_ctr (k : Nat) (a0 : TEngine) (r : TEngine) (hM : i_copyEngine k a0 = some r) : Ctr Tryz.prog 26 [.agg (TEngine.c a0)] true [.agg (TEngine.c r)] := by
  unfold i_copyEngine at hM
  refine Ctr.of_walk (by kernel_rfl) Tryz.func26 rfl Tryz.ntmps26 Tryz.results26 (by simp) ?_; intro N w0 hbad
  refine AW_seq fun K1 hK1 => ?_
  refine AW_region ?_
  simp (maxSteps := 10000000) [go_sem]
  refine hK1 _ ?_
  refine AW_seq fun K2 hK2 => ?_
  refine AW_region ?_
  simp (maxSteps := 10000000) [go_sem]
  refine hK2 _ ?_
  refine AW_seq fun K3 hK3 => ?_
  obtain ⟨x1, e4, hM⟩ := bind_some hM
  refine AW_region ?_
  simp (maxSteps := 10000000) [go_sem]
  refine by_ctr false (i_copyNotebook_ctr a0.notebook x1 e4) (by simp (maxSteps := 10000000) [go_sem]) (by simp) ?_
  simp (maxSteps := 10000000) [go_sem]
  refine hK3 _ ?_
  refine AW_seq fun K5 hK5 => ?_
  obtain ⟨x2, e6, hM⟩ := bind_some hM
  refine AW_region ?_
  simp (maxSteps := 10000000) [go_sem]
  refine by_ctr false (i_copyWorld_ctr a0.world x2 e6) (by simp (maxSteps := 10000000) [go_sem]) (by simp) ?_
  simp (maxSteps := 10000000) [go_sem]
  refine hK5 _ ?_
  refine AW_seq fun K7 hK7 => ?_
  obtain ⟨x3, e8, hM⟩ := bind_some hM
  refine AW_region ?_
  simp (maxSteps := 10000000) [go_sem]
  refine by_ctr false (i_copyTapes_ctr k a0.tapes x3 e8) (by simp (maxSteps := 10000000) [go_sem]) (by simp) ?_
  simp (maxSteps := 10000000) [go_sem]
  refine hK7 _ ?_
  refine AW_seq fun K9 hK9 => ?_
  refine AW_region ?_
  simp (maxSteps := 10000000) [go_sem]
  refine hK9 _ ?_
  obtain ⟨e10, hU12, hR11⟩ := bind_some hM; clear hM
  refine AW_mid (ι := List TEntry) (fun i => ⟨44, [(2, .one (.box 2 0)), (3, .one (.box 3 0))], [(2, [.nil, .l (.int .i64 0), .l (.int .i64 0), .nil, .nil, .nil, .l (.int .i64 0), .l (.int .i64 0), .l (.int .i64 0)]), (3, [.own 576 x1.cells.length, .l (.int .i64 x2.clock), .l (.int .i64 x2.seed), .own 832 x2.files.length, .own 1088 x3.length, .own 2560 i.length, .l (.int .i64 a0.next), .l (.int .i64 a0.limit), .l (.int .i64 a0.work)])], [(576, some ⟨true, x1.cells.map TCell.c⟩), (832, some ⟨true, x2.files.map TFile.c⟩), (1088, some ⟨true, x3.map TTape.c⟩), (2560, some ⟨true, i.map TEntry.c⟩)]⟩) (fun i => i = e10) ?_ ?_
  · intro K13 hK13
    have hM := hU12; clear hU12
    refine AW_seq fun K14 hK14 => ?_
    refine AW_region ?_
    simp (maxSteps := 10000000) [go_sem]
    refine hK14 _ ?_
    refine AW_block ?_
    refine AW_go (ι := (List TEntry) × Int) (fun i => ⟨44, [(2, .one (.box 2 0)), (3, .one (.box 3 0)), (21, .one (.l (.sl (a0.entries.map TEntry.c)))), (22, .one (.l (.int .i64 (a0.entries.length : Int)))), (23, .one (.l (.int .i64 i.2)))], [(2, [.nil, .l (.int .i64 0), .l (.int .i64 0), .nil, .nil, .nil, .l (.int .i64 0), .l (.int .i64 0), .l (.int .i64 0)]), (3, [.own 576 x1.cells.length, .l (.int .i64 x2.clock), .l (.int .i64 x2.seed), .own 832 x2.files.length, .own 1088 x3.length, .own 2560 i.1.length, .l (.int .i64 a0.next), .l (.int .i64 a0.limit), .l (.int .i64 a0.work)])], [(576, some ⟨true, x1.cells.map TCell.c⟩), (832, some ⟨true, x2.files.map TFile.c⟩), (1088, some ⟨true, x3.map TTape.c⟩), (2560, some ⟨true, i.1.map TEntry.c⟩)]⟩) (fun n i => i_copyEngine_u1 k a0 n i.1 i.2 = some e10) k ([], 0) hM (Lift.into (by constructor <;> simp [go_sem])) (fun _ h => by simp [i_copyEngine_u1] at h) ?_
    intro KL15 n ⟨x5, x6⟩ hL15 hM
    have hM : i_copyEngine_u1 k a0 (n + 1) x5 x6 = some e10 := hM; rw [i_copyEngine_u1] at hM
    refine AW_seq fun K16 hK16 => ?_
    refine AW_region ?_
    simp (maxSteps := 10000000) [go_sem]
    refine hK16 _ ?_
    refine AW_seq fun K17 hK17 => ?_
    refine AW_cond (b := (decide (x6 < (a0.entries.length : Int)))) (by simp (maxSteps := 10000000) [go_sem]) (fun h18 => ?_) (fun h18 => ?_)
    · rw [if_pos h18] at hM
      have h18' := h18; try simp at h18'
      have h18'' : ¬ ((a0.entries.length : Int) ≤ x6) := by first | (have := h18; simp only [decide_eq_true_eq, decide_eq_false_iff_not, Bool.not_eq_true', Bool.not_eq_false', Bool.not_eq_true, Bool.not_eq_false] at this; omega) | (have := h18; simp at this; omega)
      refine AW_skip ?_
      refine hK17 _ ?_
      refine AW_seq fun K19 hK19 => ?_
      refine AW_block ?_
      refine AW_seq fun K20 hK20 => ?_
      obtain ⟨x7, e21, hM⟩ := bind_some hM
      obtain ⟨p22, q23, l24, g25⟩ := at_spec e21
      refine AW_region ?_
      simp (maxSteps := 10000000) [go_sem, h18, h18', h18'', p22, q23, g25]
      refine hK20 _ ?_
      refine AW_seq fun K26 hK26 => ?_
      obtain ⟨x8, e27, hM⟩ := bind_some hM
      obtain ⟨c28, s29, s30⟩ := app_spec e27
      replace c28 := c28.symm; subst c28
      try simp at s29
      try simp at s30
      refine AW_region ?_
      simp (maxSteps := 10000000) [go_sem, h18, h18', h18'', p22, q23, g25, s29, s30]
      refine hK26 _ ?_
      refine AW_seq fun K31 hK31 => ?_
      obtain ⟨x9, e32, hM⟩ := bind_some hM
      refine AW_region ?_
      simp (maxSteps := 10000000) [go_sem, h18, h18', h18'', p22, q23, g25, s29, s30]
      refine by_ctr false (i_copyValue_ctr k x7.value x9 e32) (by simp (maxSteps := 10000000) [go_sem, h18, h18', h18'', p22, q23, g25, s29, s30]) (by simp) ?_
      simp (maxSteps := 10000000) [go_sem, h18, h18', h18'', p22, q23, g25, s29, s30]
      refine hK31 _ ?_
      obtain ⟨x10, e33, hM⟩ := bind_some hM
      obtain ⟨c34, s35, s36⟩ := app_spec e33
      replace c34 := c34.symm; subst c34
      try simp at s35
      try simp at s36
      refine AW_region ?_
      simp (maxSteps := 10000000) [go_sem, h18, h18', h18'', p22, q23, g25, s29, s30, s35, s36]
      refine hK19 _ ?_
      refine AW_region ?_
      simp (maxSteps := 10000000) [go_sem, h18, h18', h18'', p22, q23, g25, s29, s30, s35, s36]
      exact hL15 ((x5 ++ [(TEntry.mk x7.cell x7.version x7.stamp (([] : List Int) ++ x7.inputs) x9 x7.has)]), (IntKind.i64.wrap (x6 + 1))) _ hM (Lift.into (by constructor <;> simp [go_sem, h18, h18', h18'', p22, q23, g25, s29, s30, s35, s36]))
    · rw [if_neg (ne_true h18)] at hM
      have h18' := h18; try simp at h18'
      have h18'' : ¬ (x6 < (a0.entries.length : Int)) := by first | (have := h18; simp only [decide_eq_true_eq, decide_eq_false_iff_not, Bool.not_eq_true', Bool.not_eq_false', Bool.not_eq_true, Bool.not_eq_false] at this; omega) | (have := h18; simp at this; omega)
      refine AW_exit ?_
      obtain rfl := Option.some.inj hM
      exact hK13 x5 _ rfl (Lift.into (by constructor <;> simp [go_sem, h18, h18', h18'']))
  · rintro x4 rfl
    have hM := hR11
    try dsimp only at hM
    refine AW_seq fun K37 hK37 => ?_
    refine AW_region ?_
    simp (maxSteps := 10000000) [go_sem]
    refine hK37 _ ?_
    obtain rfl := Option.some.inj hM
    refine AW_ret ?_
    simp (maxSteps := 10000000) [go_sem]
set_option maxHeartbeats 4000000 in
set_option maxRecDepth 100000 in
theorem i_within_ctr (a0 : Int) (a1 : Int) (a2 : Int) (r : Bool) (hM : i_within a0 a1 a2 = some r) : Ctr Tryz.prog 59 [.one (.int .i64 a0), .one (.int .i64 a1), .one (.int .i64 a2)] true [.one (.bool r)] := by
  unfold i_within at hM
  refine Ctr.of_walk (by kernel_rfl) Tryz.func59 rfl Tryz.ntmps59 Tryz.results59 (by simp) ?_; intro N w0 hbad
  refine AW_seq fun K1 hK1 => ?_
  refine AW_region ?_
  simp (maxSteps := 10000000) [go_sem]
  refine hK1 _ ?_
  obtain ⟨e2, hU4, hR3⟩ := bind_some hM; clear hM
  refine AW_mid (ι := Bool) (fun i => ⟨15, [(6, .one (.l (.bool i)))], [], []⟩) (fun i => i = e2) ?_ ?_
  · intro K5 hK5
    have hM := hU4; clear hU4
    by_cases h6 : (decide (a1 ≤ a0)) = true
    · rw [if_pos h6] at hM
      have h6' := h6; try simp at h6'
      have h6'' : ¬ (a0 < a1) := by first | (have := h6; simp only [decide_eq_true_eq, decide_eq_false_iff_not, Bool.not_eq_true', Bool.not_eq_false', Bool.not_eq_true, Bool.not_eq_false] at this; omega) | (have := h6; simp at this; omega)
      refine AW_region ?_
      simp (maxSteps := 10000000) [go_sem, h6, h6', h6'']
      obtain rfl := Option.some.inj hM
      exact hK5 (decide (a0 ≤ a2)) _ rfl (Lift.into (by constructor <;> simp [go_sem, h6, h6', h6'']))
    · rw [if_neg h6] at hM
      have h6 := Bool.eq_false_iff.2 h6
      have h6' := h6; try simp at h6'
      have h6'' : ¬ (a1 ≤ a0) := by first | (have := h6; simp only [decide_eq_true_eq, decide_eq_false_iff_not, Bool.not_eq_true', Bool.not_eq_false', Bool.not_eq_true, Bool.not_eq_false] at this; omega) | (have := h6; simp at this; omega)
      refine AW_region ?_
      simp (maxSteps := 10000000) [go_sem, h6, h6', h6'']
      obtain rfl := Option.some.inj hM
      exact hK5 false _ rfl (Lift.into (by constructor <;> simp [go_sem, h6, h6', h6'']))
  · rintro x1 rfl
    have hM := hR3
    try dsimp only at hM
    obtain rfl := Option.some.inj hM
    refine AW_ret ?_
    simp (maxSteps := 10000000) [go_sem]
end Go.Proofs.YtmiboaogfjgkjaaGreat
