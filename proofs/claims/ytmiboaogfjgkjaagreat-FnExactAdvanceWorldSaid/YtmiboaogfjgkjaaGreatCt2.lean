/- Contracts of the program's functions: where the mirrored function answers, the program's function returns this answer. Written by a program of mine. -/
import Derived.Test.YtmiboaogfjgkjaaGreatWn
import Derived.Test.YtmiboaogfjgkjaaGreatMd2
import Derived.Test.YtmiboaogfjgkjaaGreatCt1
set_option linter.unusedSimpArgs false
set_option linter.unusedVariables false
namespace Go.Proofs.YtmiboaogfjgkjaaGreat
open Go.RowKit Am

set_option maxHeartbeats 4000000 in
set_option maxRecDepth 100000 in
theorem i_isWord_ctr (k : Nat) (a0 : ByteArray) (r : Bool) (hM : i_isWord k a0 = some r) : Ctr Tryz.prog 93 [.one (.str a0)] true [.one (.bool r)] := by
  unfold i_isWord at hM
  refine Ctr.of_walk (by kernel_rfl) Tryz.func93 rfl Tryz.ntmps93 Tryz.results93 (by simp) ?_; intro N w0 hbad
  refine AW_seq fun K1 hK1 => ?_
  refine AW_region ?_
  simp (maxSteps := 10000000) [go_sem]
  refine hK1 _ ?_
  obtain ⟨e2, hU4, hR3⟩ := bind_some hM; clear hM
  refine AW_mid (ι := Unit) (fun i => ⟨42, [(0, .one (.l (.str a0)))], [], []⟩) (fun i => (.inl i) = e2) ?_ ?_
  · intro K5 hK5
    have hM := hU4; clear hU4
    refine AW_seq fun K6 hK6 => ?_
    refine AW_region ?_
    simp (maxSteps := 10000000) [go_sem]
    refine hK6 _ ?_
    refine AW_block ?_
    refine AW_go (ι := Int) (fun i => ⟨42, [(0, .one (.l (.str a0))), (3, .one (.l (.int .i64 i)))], [], []⟩) (fun n i => i_isWord_u1 a0 n i = some e2) k 0 hM (Lift.into (by constructor <;> simp [go_sem])) (fun _ h => by simp [i_isWord_u1] at h) ?_
    intro KL7 n x1 hL7 hM
    have hM : i_isWord_u1 a0 (n + 1) x1 = some e2 := hM; rw [i_isWord_u1] at hM
    refine AW_seq fun K8 hK8 => ?_
    refine AW_seq fun K9 hK9 => ?_
    refine AW_region ?_
    simp (maxSteps := 10000000) [go_sem]
    refine hK9 _ ?_
    refine AW_cond (b := (decide (x1 < (a0.size : Int)))) (by simp (maxSteps := 10000000) [go_sem]) (fun h10 => ?_) (fun h10 => ?_)
    · rw [if_pos h10] at hM
      have h10' := h10; try simp at h10'
      have h10'' : ¬ ((a0.size : Int) ≤ x1) := by first | (have := h10; simp only [decide_eq_true_eq, decide_eq_false_iff_not, Bool.not_eq_true', Bool.not_eq_false', Bool.not_eq_true, Bool.not_eq_false] at this; omega) | (have := h10; simp at this; omega)
      refine AW_skip ?_
      refine hK8 _ ?_
      refine AW_seq fun K11 hK11 => ?_
      refine AW_block ?_
      obtain ⟨e12, hU14, hR13⟩ := bind_some hM; clear hM
      refine AW_mid (ι := Bool) (fun i => ⟨42, [(0, .one (.l (.str a0))), (3, .one (.l (.int .i64 x1))), (4, .one (.l (.bool i)))], [], []⟩) (fun i => i = e12) ?_ ?_
      · intro K15 hK15
        have hM := hU14; clear hU14
        obtain ⟨x3, e16, hM⟩ := bind_some hM
        obtain ⟨p17, q18, l19, g20⟩ := at_spec e16
        by_cases h21 : (decide (97 ≤ (x3.toNat : Int))) = true
        · rw [if_pos h21] at hM
          have h21' := h21; try simp at h21'
          have h21'' : ¬ ((x3.toNat : Int) < 97) := by first | (have := h21; simp only [decide_eq_true_eq, decide_eq_false_iff_not, Bool.not_eq_true', Bool.not_eq_false', Bool.not_eq_true, Bool.not_eq_false] at this; omega) | (have := h21; simp at this; omega)
          refine AW_region ?_
          simp (maxSteps := 10000000) [go_sem, h10, h10', h10'', p17, q18, g20, h21, h21', h21'']
          obtain rfl := Option.some.inj hM
          exact hK15 (decide ((x3.toNat : Int) ≤ 122)) _ rfl (Lift.into (by constructor <;> simp [go_sem, h10, h10', h10'', p17, q18, g20, h21, h21', h21'']))
        · rw [if_neg h21] at hM
          have h21 := Bool.eq_false_iff.2 h21
          have h21' := h21; try simp at h21'
          have h21'' : ¬ (97 ≤ (x3.toNat : Int)) := by first | (have := h21; simp only [decide_eq_true_eq, decide_eq_false_iff_not, Bool.not_eq_true', Bool.not_eq_false', Bool.not_eq_true, Bool.not_eq_false] at this; omega) | (have := h21; simp at this; omega)
          refine AW_region ?_
          simp (maxSteps := 10000000) [go_sem, h10, h10', h10'', p17, q18, g20, h21, h21', h21'']
          obtain rfl := Option.some.inj hM
          exact hK15 false _ rfl (Lift.into (by constructor <;> simp [go_sem, h10, h10', h10'', p17, q18, g20, h21, h21', h21'']))
      · rintro x2 rfl
        have hM := hR13
        try dsimp only at hM
        obtain ⟨e22, hU24, hR23⟩ := bind_some hM; clear hM
        refine AW_mid (ι := Bool) (fun i => ⟨42, [(0, .one (.l (.str a0))), (3, .one (.l (.int .i64 x1))), (38, .one (.l (.bool i)))], [], []⟩) (fun i => i = e22) ?_ ?_
        · intro K25 hK25
          have hM := hU24; clear hU24
          by_cases h26 : (!x2) = true
          · rw [if_pos h26] at hM
            have h26' := h26; try simp at h26'
            by_cases h27 : (decide (x1 = 0)) = true
            · rw [if_pos h27] at hM
              have h27' := h27; try simp at h27'
              refine AW_region ?_
              simp (maxSteps := 10000000) [go_sem, h10, h10', h10'', h26, h26', h27, h27']
              obtain rfl := Option.some.inj hM
              exact hK25 true _ rfl (Lift.into (by constructor <;> simp [go_sem, h10, h10', h10'', h26, h26', h27, h27']))
            · rw [if_neg h27] at hM
              have h27 := Bool.eq_false_iff.2 h27
              have h27' := h27; try simp at h27'
              obtain ⟨x5, e28, hM⟩ := bind_some hM
              obtain ⟨p29, q30, l31, g32⟩ := at_spec e28
              by_cases h33 : (decide ((x5.toNat : Int) < 48)) = true
              · rw [if_pos h33] at hM
                have h33' := h33; try simp at h33'
                have h33'' : ¬ (48 ≤ (x5.toNat : Int)) := by first | (have := h33; simp only [decide_eq_true_eq, decide_eq_false_iff_not, Bool.not_eq_true', Bool.not_eq_false', Bool.not_eq_true, Bool.not_eq_false] at this; omega) | (have := h33; simp at this; omega)
                refine AW_region ?_
                simp (maxSteps := 10000000) [go_sem, h10, h10', h10'', h26, h26', h27, h27', p29, q30, g32, h33, h33', h33'']
                obtain rfl := Option.some.inj hM
                exact hK25 true _ rfl (Lift.into (by constructor <;> simp [go_sem, h10, h10', h10'', h26, h26', h27, h27', p29, q30, g32, h33, h33', h33'']))
              · rw [if_neg h33] at hM
                have h33 := Bool.eq_false_iff.2 h33
                have h33' := h33; try simp at h33'
                have h33'' : ¬ ((x5.toNat : Int) < 48) := by first | (have := h33; simp only [decide_eq_true_eq, decide_eq_false_iff_not, Bool.not_eq_true', Bool.not_eq_false', Bool.not_eq_true, Bool.not_eq_false] at this; omega) | (have := h33; simp at this; omega)
                refine AW_region ?_
                simp (maxSteps := 10000000) [go_sem, h10, h10', h10'', h26, h26', h27, h27', p29, q30, g32, h33, h33', h33'']
                obtain rfl := Option.some.inj hM
                exact hK25 (decide (57 < (x5.toNat : Int))) _ rfl (Lift.into (by constructor <;> simp [go_sem, h10, h10', h10'', h26, h26', h27, h27', p29, q30, g32, h33, h33', h33'']))
          · rw [if_neg h26] at hM
            have h26 := Bool.eq_false_iff.2 h26
            have h26' := h26; try simp at h26'
            refine AW_region ?_
            simp (maxSteps := 10000000) [go_sem, h10, h10', h10'', h26, h26']
            obtain rfl := Option.some.inj hM
            exact hK25 false _ rfl (Lift.into (by constructor <;> simp [go_sem, h10, h10', h10'', h26, h26']))
        · rintro x4 rfl
          have hM := hR23
          try dsimp only at hM
          refine AW_cond (b := x4) (by simp (maxSteps := 10000000) [go_sem, h10, h10', h10'']) (fun h34 => ?_) (fun h34 => ?_)
          · rw [if_pos h34] at hM
            have h34' := h34; try simp at h34'
            refine AW_seq fun K35 hK35 => ?_
            refine AW_region ?_
            simp (maxSteps := 10000000) [go_sem, h10, h10', h10'', h34, h34']
            refine hK35 _ ?_
            obtain rfl := Option.some.inj hM
            have hM := hR3; dsimp only at hM
            obtain rfl := Option.some.inj hM
            refine AW_ret ?_
            simp (maxSteps := 10000000) [go_sem, h10, h10', h10'', h34, h34']
          · rw [if_neg (ne_true h34)] at hM
            have h34' := h34; try simp at h34'
            refine AW_skip ?_
            refine hK11 _ ?_
            refine AW_region ?_
            simp (maxSteps := 10000000) [go_sem, h10, h10', h10'', h34, h34']
            exact hL7 (IntKind.i64.wrap (x1 + 1)) _ hM (Lift.into (by constructor <;> simp [go_sem, h10, h10', h10'', h34, h34']))
    · rw [if_neg (ne_true h10)] at hM
      have h10' := h10; try simp at h10'
      have h10'' : ¬ (x1 < (a0.size : Int)) := by first | (have := h10; simp only [decide_eq_true_eq, decide_eq_false_iff_not, Bool.not_eq_true', Bool.not_eq_false', Bool.not_eq_true, Bool.not_eq_false] at this; omega) | (have := h10; simp at this; omega)
      refine AW_exit ?_
      obtain rfl := Option.some.inj hM
      exact hK5 () _ rfl (Lift.into (by constructor <;> simp [go_sem, h10, h10', h10'']))
  · rintro _ rfl
    have hM := hR3
    dsimp only at hM
    refine AW_seq fun K36 hK36 => ?_
    obtain ⟨x6, e37, hM⟩ := bind_some hM
    refine AW_region ?_
    simp (maxSteps := 10000000) [go_sem]
    refine by_ctr false (i_within_ctr (a0.size : Int) 1 8 x6 e37) (by simp (maxSteps := 10000000) [go_sem]) (by simp) ?_
    simp (maxSteps := 10000000) [go_sem]
    refine hK36 _ ?_
    obtain rfl := Option.some.inj hM
    refine AW_ret ?_
    simp (maxSteps := 10000000) [go_sem]
set_option maxHeartbeats 4000000 in
set_option maxRecDepth 100000 in
theorem i_ArgumentCount_ctr (a0 : ByteArray) (r : Int) (hM : i_ArgumentCount a0 = some r) : Ctr Tryz.prog 113 [.one (.str a0)] true [.one (.int .i64 r)] := by
  unfold i_ArgumentCount at hM
  refine Ctr.of_walk (by kernel_rfl) Tryz.func113 rfl Tryz.ntmps113 Tryz.results113 (by simp) ?_; intro N w0 hbad
  refine AW_seq fun K1 hK1 => ?_
  refine AW_region ?_
  simp (maxSteps := 10000000) [go_sem]
  refine hK1 _ ?_
  refine AW_seq fun K2 hK2 => ?_
  refine AW_seq fun K3 hK3 => ?_
  refine AW_region ?_
  simp (maxSteps := 10000000) [go_sem]
  refine hK3 _ ?_
  refine AW_block ?_
  refine AW_seq fun K4 hK4 => ?_
  refine AW_region ?_
  simp (maxSteps := 10000000) [go_sem]
  refine hK4 _ ?_
  refine AW_cond (b := (decide (a0 = (⟨#[99, 108, 111, 99, 107]⟩ : ByteArray)))) (by simp (maxSteps := 10000000) [go_sem]) (fun h5 => ?_) (fun h5 => ?_)
  · rw [if_pos h5] at hM
    have h5' := h5; try simp at h5'
    refine AW_seq fun K6 hK6 => ?_
    refine AW_region ?_
    simp (maxSteps := 10000000) [go_sem, h5, h5']
    refine hK6 _ ?_
    obtain rfl := Option.some.inj hM
    refine AW_ret ?_
    simp (maxSteps := 10000000) [go_sem, h5, h5']
  · rw [if_neg (ne_true h5)] at hM
    have h5' := h5; try simp at h5'
    obtain ⟨e7, hU9, hR8⟩ := bind_some hM; clear hM
    refine AW_mid (ι := Bool) (fun i => ⟨26, [(3, .one (.l (.str a0))), (6, .one (.l (.bool i)))], [], []⟩) (fun i => i = e7) ?_ ?_
    · intro K10 hK10
      have hM := hU9; clear hU9
      refine AW_seq fun K11 hK11 => ?_
      refine AW_region ?_
      simp (maxSteps := 10000000) [go_sem, h5, h5']
      refine hK11 _ ?_
      refine AW_cond (b := (decide (a0 = (⟨#[108, 101, 110]⟩ : ByteArray)))) (by simp (maxSteps := 10000000) [go_sem, h5, h5']) (fun h12 => ?_) (fun h12 => ?_)
      · rw [if_pos h12] at hM
        have h12' := h12; try simp at h12'
        refine AW_skip ?_
        obtain rfl := Option.some.inj hM
        exact hK10 true _ rfl (Lift.into (by constructor <;> simp [go_sem, h5, h5', h12, h12']))
      · rw [if_neg (ne_true h12)] at hM
        have h12' := h12; try simp at h12'
        refine AW_seq fun K13 hK13 => ?_
        refine AW_region ?_
        simp (maxSteps := 10000000) [go_sem, h5, h5', h12, h12']
        refine hK13 _ ?_
        refine AW_cond (b := (decide (a0 = (⟨#[115, 117, 109]⟩ : ByteArray)))) (by simp (maxSteps := 10000000) [go_sem, h5, h5', h12, h12']) (fun h14 => ?_) (fun h14 => ?_)
        · rw [if_pos h14] at hM
          have h14' := h14; try simp at h14'
          refine AW_skip ?_
          obtain rfl := Option.some.inj hM
          exact hK10 true _ rfl (Lift.into (by constructor <;> simp [go_sem, h5, h5', h12, h12', h14, h14']))
        · rw [if_neg (ne_true h14)] at hM
          have h14' := h14; try simp at h14'
          refine AW_seq fun K15 hK15 => ?_
          refine AW_region ?_
          simp (maxSteps := 10000000) [go_sem, h5, h5', h12, h12', h14, h14']
          refine hK15 _ ?_
          refine AW_cond (b := (decide (a0 = (⟨#[114, 111, 119, 115]⟩ : ByteArray)))) (by simp (maxSteps := 10000000) [go_sem, h5, h5', h12, h12', h14, h14']) (fun h16 => ?_) (fun h16 => ?_)
          · rw [if_pos h16] at hM
            have h16' := h16; try simp at h16'
            refine AW_skip ?_
            obtain rfl := Option.some.inj hM
            exact hK10 true _ rfl (Lift.into (by constructor <;> simp [go_sem, h5, h5', h12, h12', h14, h14', h16, h16']))
          · rw [if_neg (ne_true h16)] at hM
            have h16' := h16; try simp at h16'
            refine AW_seq fun K17 hK17 => ?_
            refine AW_region ?_
            simp (maxSteps := 10000000) [go_sem, h5, h5', h12, h12', h14, h14', h16, h16']
            refine hK17 _ ?_
            refine AW_cond (b := (decide (a0 = (⟨#[99, 104, 97, 110, 99, 101]⟩ : ByteArray)))) (by simp (maxSteps := 10000000) [go_sem, h5, h5', h12, h12', h14, h14', h16, h16']) (fun h18 => ?_) (fun h18 => ?_)
            · rw [if_pos h18] at hM
              have h18' := h18; try simp at h18'
              refine AW_skip ?_
              obtain rfl := Option.some.inj hM
              exact hK10 true _ rfl (Lift.into (by constructor <;> simp [go_sem, h5, h5', h12, h12', h14, h14', h16, h16', h18, h18']))
            · rw [if_neg (ne_true h18)] at hM
              have h18' := h18; try simp at h18'
              refine AW_region ?_
              simp (maxSteps := 10000000) [go_sem, h5, h5', h12, h12', h14, h14', h16, h16', h18, h18']
              obtain rfl := Option.some.inj hM
              exact hK10 (decide (a0 = (⟨#[102, 105, 108, 101]⟩ : ByteArray))) _ rfl (Lift.into (by constructor <;> simp [go_sem, h5, h5', h12, h12', h14, h14', h16, h16', h18, h18']))
    · rintro x1 rfl
      have hM := hR8
      try dsimp only at hM
      refine AW_cond (b := x1) (by simp (maxSteps := 10000000) [go_sem, h5, h5']) (fun h19 => ?_) (fun h19 => ?_)
      · rw [if_pos h19] at hM
        have h19' := h19; try simp at h19'
        refine AW_seq fun K20 hK20 => ?_
        refine AW_region ?_
        simp (maxSteps := 10000000) [go_sem, h5, h5', h19, h19']
        refine hK20 _ ?_
        obtain rfl := Option.some.inj hM
        refine AW_ret ?_
        simp (maxSteps := 10000000) [go_sem, h5, h5', h19, h19']
      · rw [if_neg (ne_true h19)] at hM
        have h19' := h19; try simp at h19'
        obtain ⟨e21, hU23, hR22⟩ := bind_some hM; clear hM
        refine AW_mid (ι := Bool) (fun i => ⟨26, [(3, .one (.l (.str a0))), (12, .one (.l (.bool i)))], [], []⟩) (fun i => i = e21) ?_ ?_
        · intro K24 hK24
          have hM := hU23; clear hU23
          refine AW_seq fun K25 hK25 => ?_
          refine AW_region ?_
          simp (maxSteps := 10000000) [go_sem, h5, h5', h19, h19']
          refine hK25 _ ?_
          refine AW_cond (b := (decide (a0 = (⟨#[116, 97, 107, 101]⟩ : ByteArray)))) (by simp (maxSteps := 10000000) [go_sem, h5, h5', h19, h19']) (fun h26 => ?_) (fun h26 => ?_)
          · rw [if_pos h26] at hM
            have h26' := h26; try simp at h26'
            refine AW_skip ?_
            obtain rfl := Option.some.inj hM
            exact hK24 true _ rfl (Lift.into (by constructor <;> simp [go_sem, h5, h5', h19, h19', h26, h26']))
          · rw [if_neg (ne_true h26)] at hM
            have h26' := h26; try simp at h26'
            refine AW_seq fun K27 hK27 => ?_
            refine AW_region ?_
            simp (maxSteps := 10000000) [go_sem, h5, h5', h19, h19', h26, h26']
            refine hK27 _ ?_
            refine AW_cond (b := (decide (a0 = (⟨#[115, 107, 105, 112]⟩ : ByteArray)))) (by simp (maxSteps := 10000000) [go_sem, h5, h5', h19, h19', h26, h26']) (fun h28 => ?_) (fun h28 => ?_)
            · rw [if_pos h28] at hM
              have h28' := h28; try simp at h28'
              refine AW_skip ?_
              obtain rfl := Option.some.inj hM
              exact hK24 true _ rfl (Lift.into (by constructor <;> simp [go_sem, h5, h5', h19, h19', h26, h26', h28, h28']))
            · rw [if_neg (ne_true h28)] at hM
              have h28' := h28; try simp at h28'
              refine AW_seq fun K29 hK29 => ?_
              refine AW_region ?_
              simp (maxSteps := 10000000) [go_sem, h5, h5', h19, h19', h26, h26', h28, h28']
              refine hK29 _ ?_
              refine AW_cond (b := (decide (a0 = (⟨#[114, 97, 110, 103, 101]⟩ : ByteArray)))) (by simp (maxSteps := 10000000) [go_sem, h5, h5', h19, h19', h26, h26', h28, h28']) (fun h30 => ?_) (fun h30 => ?_)
              · rw [if_pos h30] at hM
                have h30' := h30; try simp at h30'
                refine AW_skip ?_
                obtain rfl := Option.some.inj hM
                exact hK24 true _ rfl (Lift.into (by constructor <;> simp [go_sem, h5, h5', h19, h19', h26, h26', h28, h28', h30, h30']))
              · rw [if_neg (ne_true h30)] at hM
                have h30' := h30; try simp at h30'
                refine AW_seq fun K31 hK31 => ?_
                refine AW_region ?_
                simp (maxSteps := 10000000) [go_sem, h5, h5', h19, h19', h26, h26', h28, h28', h30, h30']
                refine hK31 _ ?_
                refine AW_cond (b := (decide (a0 = (⟨#[110, 116, 104]⟩ : ByteArray)))) (by simp (maxSteps := 10000000) [go_sem, h5, h5', h19, h19', h26, h26', h28, h28', h30, h30']) (fun h32 => ?_) (fun h32 => ?_)
                · rw [if_pos h32] at hM
                  have h32' := h32; try simp at h32'
                  refine AW_skip ?_
                  obtain rfl := Option.some.inj hM
                  exact hK24 true _ rfl (Lift.into (by constructor <;> simp [go_sem, h5, h5', h19, h19', h26, h26', h28, h28', h30, h30', h32, h32']))
                · rw [if_neg (ne_true h32)] at hM
                  have h32' := h32; try simp at h32'
                  refine AW_seq fun K33 hK33 => ?_
                  refine AW_region ?_
                  simp (maxSteps := 10000000) [go_sem, h5, h5', h19, h19', h26, h26', h28, h28', h30, h30', h32, h32']
                  refine hK33 _ ?_
                  refine AW_cond (b := (decide (a0 = (⟨#[107, 101, 101, 112]⟩ : ByteArray)))) (by simp (maxSteps := 10000000) [go_sem, h5, h5', h19, h19', h26, h26', h28, h28', h30, h30', h32, h32']) (fun h34 => ?_) (fun h34 => ?_)
                  · rw [if_pos h34] at hM
                    have h34' := h34; try simp at h34'
                    refine AW_skip ?_
                    obtain rfl := Option.some.inj hM
                    exact hK24 true _ rfl (Lift.into (by constructor <;> simp [go_sem, h5, h5', h19, h19', h26, h26', h28, h28', h30, h30', h32, h32', h34, h34']))
                  · rw [if_neg (ne_true h34)] at hM
                    have h34' := h34; try simp at h34'
                    refine AW_seq fun K35 hK35 => ?_
                    refine AW_region ?_
                    simp (maxSteps := 10000000) [go_sem, h5, h5', h19, h19', h26, h26', h28, h28', h30, h30', h32, h32', h34, h34']
                    refine hK35 _ ?_
                    refine AW_cond (b := (decide (a0 = (⟨#[99, 111, 108, 117, 109, 110]⟩ : ByteArray)))) (by simp (maxSteps := 10000000) [go_sem, h5, h5', h19, h19', h26, h26', h28, h28', h30, h30', h32, h32', h34, h34']) (fun h36 => ?_) (fun h36 => ?_)
                    · rw [if_pos h36] at hM
                      have h36' := h36; try simp at h36'
                      refine AW_skip ?_
                      obtain rfl := Option.some.inj hM
                      exact hK24 true _ rfl (Lift.into (by constructor <;> simp [go_sem, h5, h5', h19, h19', h26, h26', h28, h28', h30, h30', h32, h32', h34, h34', h36, h36']))
                    · rw [if_neg (ne_true h36)] at hM
                      have h36' := h36; try simp at h36'
                      refine AW_region ?_
                      simp (maxSteps := 10000000) [go_sem, h5, h5', h19, h19', h26, h26', h28, h28', h30, h30', h32, h32', h34, h34', h36, h36']
                      obtain rfl := Option.some.inj hM
                      exact hK24 (decide (a0 = (⟨#[116, 97, 98, 108, 101]⟩ : ByteArray))) _ rfl (Lift.into (by constructor <;> simp [go_sem, h5, h5', h19, h19', h26, h26', h28, h28', h30, h30', h32, h32', h34, h34', h36, h36']))
        · rintro x2 rfl
          have hM := hR22
          try dsimp only at hM
          refine AW_cond (b := x2) (by simp (maxSteps := 10000000) [go_sem, h5, h5', h19, h19']) (fun h37 => ?_) (fun h37 => ?_)
          · rw [if_pos h37] at hM
            have h37' := h37; try simp at h37'
            refine AW_seq fun K38 hK38 => ?_
            refine AW_region ?_
            simp (maxSteps := 10000000) [go_sem, h5, h5', h19, h19', h37, h37']
            refine hK38 _ ?_
            obtain rfl := Option.some.inj hM
            refine AW_ret ?_
            simp (maxSteps := 10000000) [go_sem, h5, h5', h19, h19', h37, h37']
          · rw [if_neg (ne_true h37)] at hM
            have h37' := h37; try simp at h37'
            obtain ⟨e39, hU41, hR40⟩ := bind_some hM; clear hM
            refine AW_mid (ι := Bool) (fun i => ⟨26, [(3, .one (.l (.str a0))), (20, .one (.l (.bool i)))], [], []⟩) (fun i => i = e39) ?_ ?_
            · intro K42 hK42
              have hM := hU41; clear hU41
              refine AW_seq fun K43 hK43 => ?_
              refine AW_region ?_
              simp (maxSteps := 10000000) [go_sem, h5, h5', h19, h19', h37, h37']
              refine hK43 _ ?_
              refine AW_cond (b := (decide (a0 = (⟨#[119, 104, 101, 114, 101]⟩ : ByteArray)))) (by simp (maxSteps := 10000000) [go_sem, h5, h5', h19, h19', h37, h37']) (fun h44 => ?_) (fun h44 => ?_)
              · rw [if_pos h44] at hM
                have h44' := h44; try simp at h44'
                refine AW_skip ?_
                obtain rfl := Option.some.inj hM
                exact hK42 true _ rfl (Lift.into (by constructor <;> simp [go_sem, h5, h5', h19, h19', h37, h37', h44, h44']))
              · rw [if_neg (ne_true h44)] at hM
                have h44' := h44; try simp at h44'
                refine AW_seq fun K45 hK45 => ?_
                refine AW_region ?_
                simp (maxSteps := 10000000) [go_sem, h5, h5', h19, h19', h37, h37', h44, h44']
                refine hK45 _ ?_
                refine AW_cond (b := (decide (a0 = (⟨#[103, 114, 111, 117, 112]⟩ : ByteArray)))) (by simp (maxSteps := 10000000) [go_sem, h5, h5', h19, h19', h37, h37', h44, h44']) (fun h46 => ?_) (fun h46 => ?_)
                · rw [if_pos h46] at hM
                  have h46' := h46; try simp at h46'
                  refine AW_skip ?_
                  obtain rfl := Option.some.inj hM
                  exact hK42 true _ rfl (Lift.into (by constructor <;> simp [go_sem, h5, h5', h19, h19', h37, h37', h44, h44', h46, h46']))
                · rw [if_neg (ne_true h46)] at hM
                  have h46' := h46; try simp at h46'
                  refine AW_region ?_
                  simp (maxSteps := 10000000) [go_sem, h5, h5', h19, h19', h37, h37', h44, h44', h46, h46']
                  obtain rfl := Option.some.inj hM
                  exact hK42 (decide (a0 = (⟨#[106, 111, 105, 110]⟩ : ByteArray))) _ rfl (Lift.into (by constructor <;> simp [go_sem, h5, h5', h19, h19', h37, h37', h44, h44', h46, h46']))
            · rintro x3 rfl
              have hM := hR40
              try dsimp only at hM
              refine AW_cond (b := x3) (by simp (maxSteps := 10000000) [go_sem, h5, h5', h19, h19', h37, h37']) (fun h47 => ?_) (fun h47 => ?_)
              · rw [if_pos h47] at hM
                have h47' := h47; try simp at h47'
                refine AW_seq fun K48 hK48 => ?_
                refine AW_region ?_
                simp (maxSteps := 10000000) [go_sem, h5, h5', h19, h19', h37, h37', h47, h47']
                refine hK48 _ ?_
                obtain rfl := Option.some.inj hM
                refine AW_ret ?_
                simp (maxSteps := 10000000) [go_sem, h5, h5', h19, h19', h37, h37', h47, h47']
              · rw [if_neg (ne_true h47)] at hM
                have h47' := h47; try simp at h47'
                refine AW_seq fun K49 hK49 => ?_
                refine AW_region ?_
                simp (maxSteps := 10000000) [go_sem, h5, h5', h19, h19', h37, h37', h47, h47']
                refine hK49 _ ?_
                refine AW_cond (b := (decide (a0 = (⟨#[97, 100, 100]⟩ : ByteArray)))) (by simp (maxSteps := 10000000) [go_sem, h5, h5', h19, h19', h37, h37', h47, h47']) (fun h50 => ?_) (fun h50 => ?_)
                · rw [if_pos h50] at hM
                  have h50' := h50; try simp at h50'
                  refine AW_seq fun K51 hK51 => ?_
                  refine AW_region ?_
                  simp (maxSteps := 10000000) [go_sem, h5, h5', h19, h19', h37, h37', h47, h47', h50, h50']
                  refine hK51 _ ?_
                  obtain rfl := Option.some.inj hM
                  refine AW_ret ?_
                  simp (maxSteps := 10000000) [go_sem, h5, h5', h19, h19', h37, h37', h47, h47', h50, h50']
                · rw [if_neg (ne_true h50)] at hM
                  have h50' := h50; try simp at h50'
                  refine AW_skip ?_
                  refine hK2 _ ?_
                  refine AW_seq fun K52 hK52 => ?_
                  refine AW_region ?_
                  simp (maxSteps := 10000000) [go_sem, h5, h5', h19, h19', h37, h37', h47, h47', h50, h50']
                  refine hK52 _ ?_
                  obtain rfl := Option.some.inj hM
                  refine AW_ret ?_
                  simp (maxSteps := 10000000) [go_sem, h5, h5', h19, h19', h37, h37', h47, h47', h50, h50']
set_option maxHeartbeats 4000000 in
set_option maxRecDepth 100000 in
theorem i_IsReserved_ctr (a0 : ByteArray) (r : Bool) (hM : i_IsReserved a0 = some r) : Ctr Tryz.prog 94 [.one (.str a0)] true [.one (.bool r)] := by
  unfold i_IsReserved at hM
  refine Ctr.of_walk (by kernel_rfl) Tryz.func94 rfl Tryz.ntmps94 Tryz.results94 (by simp) ?_; intro N w0 hbad
  refine AW_seq fun K1 hK1 => ?_
  refine AW_region ?_
  simp (maxSteps := 10000000) [go_sem]
  refine hK1 _ ?_
  refine AW_seq fun K2 hK2 => ?_
  refine AW_seq fun K3 hK3 => ?_
  refine AW_region ?_
  simp (maxSteps := 10000000) [go_sem]
  refine hK3 _ ?_
  refine AW_block ?_
  obtain ⟨e4, hU6, hR5⟩ := bind_some hM; clear hM
  refine AW_mid (ι := Bool) (fun i => ⟨15, [(0, .one (.l (.str a0))), (4, .one (.l (.bool i)))], [], []⟩) (fun i => i = e4) ?_ ?_
  · intro K7 hK7
    have hM := hU6; clear hU6
    refine AW_seq fun K8 hK8 => ?_
    refine AW_region ?_
    simp (maxSteps := 10000000) [go_sem]
    refine hK8 _ ?_
    refine AW_cond (b := (decide (a0 = (⟨#[108, 101, 116]⟩ : ByteArray)))) (by simp (maxSteps := 10000000) [go_sem]) (fun h9 => ?_) (fun h9 => ?_)
    · rw [if_pos h9] at hM
      have h9' := h9; try simp at h9'
      refine AW_skip ?_
      obtain rfl := Option.some.inj hM
      exact hK7 true _ rfl (Lift.into (by constructor <;> simp [go_sem, h9, h9']))
    · rw [if_neg (ne_true h9)] at hM
      have h9' := h9; try simp at h9'
      refine AW_seq fun K10 hK10 => ?_
      refine AW_region ?_
      simp (maxSteps := 10000000) [go_sem, h9, h9']
      refine hK10 _ ?_
      refine AW_cond (b := (decide (a0 = (⟨#[105, 110]⟩ : ByteArray)))) (by simp (maxSteps := 10000000) [go_sem, h9, h9']) (fun h11 => ?_) (fun h11 => ?_)
      · rw [if_pos h11] at hM
        have h11' := h11; try simp at h11'
        refine AW_skip ?_
        obtain rfl := Option.some.inj hM
        exact hK7 true _ rfl (Lift.into (by constructor <;> simp [go_sem, h9, h9', h11, h11']))
      · rw [if_neg (ne_true h11)] at hM
        have h11' := h11; try simp at h11'
        refine AW_seq fun K12 hK12 => ?_
        refine AW_region ?_
        simp (maxSteps := 10000000) [go_sem, h9, h9', h11, h11']
        refine hK12 _ ?_
        refine AW_cond (b := (decide (a0 = (⟨#[105, 102]⟩ : ByteArray)))) (by simp (maxSteps := 10000000) [go_sem, h9, h9', h11, h11']) (fun h13 => ?_) (fun h13 => ?_)
        · rw [if_pos h13] at hM
          have h13' := h13; try simp at h13'
          refine AW_skip ?_
          obtain rfl := Option.some.inj hM
          exact hK7 true _ rfl (Lift.into (by constructor <;> simp [go_sem, h9, h9', h11, h11', h13, h13']))
        · rw [if_neg (ne_true h13)] at hM
          have h13' := h13; try simp at h13'
          refine AW_seq fun K14 hK14 => ?_
          refine AW_region ?_
          simp (maxSteps := 10000000) [go_sem, h9, h9', h11, h11', h13, h13']
          refine hK14 _ ?_
          refine AW_cond (b := (decide (a0 = (⟨#[116, 104, 101, 110]⟩ : ByteArray)))) (by simp (maxSteps := 10000000) [go_sem, h9, h9', h11, h11', h13, h13']) (fun h15 => ?_) (fun h15 => ?_)
          · rw [if_pos h15] at hM
            have h15' := h15; try simp at h15'
            refine AW_skip ?_
            obtain rfl := Option.some.inj hM
            exact hK7 true _ rfl (Lift.into (by constructor <;> simp [go_sem, h9, h9', h11, h11', h13, h13', h15, h15']))
          · rw [if_neg (ne_true h15)] at hM
            have h15' := h15; try simp at h15'
            refine AW_seq fun K16 hK16 => ?_
            refine AW_region ?_
            simp (maxSteps := 10000000) [go_sem, h9, h9', h11, h11', h13, h13', h15, h15']
            refine hK16 _ ?_
            refine AW_cond (b := (decide (a0 = (⟨#[101, 108, 115, 101]⟩ : ByteArray)))) (by simp (maxSteps := 10000000) [go_sem, h9, h9', h11, h11', h13, h13', h15, h15']) (fun h17 => ?_) (fun h17 => ?_)
            · rw [if_pos h17] at hM
              have h17' := h17; try simp at h17'
              refine AW_skip ?_
              obtain rfl := Option.some.inj hM
              exact hK7 true _ rfl (Lift.into (by constructor <;> simp [go_sem, h9, h9', h11, h11', h13, h13', h15, h15', h17, h17']))
            · rw [if_neg (ne_true h17)] at hM
              have h17' := h17; try simp at h17'
              refine AW_seq fun K18 hK18 => ?_
              refine AW_region ?_
              simp (maxSteps := 10000000) [go_sem, h9, h9', h11, h11', h13, h13', h15, h15', h17, h17']
              refine hK18 _ ?_
              refine AW_cond (b := (decide (a0 = (⟨#[102, 111, 114]⟩ : ByteArray)))) (by simp (maxSteps := 10000000) [go_sem, h9, h9', h11, h11', h13, h13', h15, h15', h17, h17']) (fun h19 => ?_) (fun h19 => ?_)
              · rw [if_pos h19] at hM
                have h19' := h19; try simp at h19'
                refine AW_skip ?_
                obtain rfl := Option.some.inj hM
                exact hK7 true _ rfl (Lift.into (by constructor <;> simp [go_sem, h9, h9', h11, h11', h13, h13', h15, h15', h17, h17', h19, h19']))
              · rw [if_neg (ne_true h19)] at hM
                have h19' := h19; try simp at h19'
                refine AW_region ?_
                simp (maxSteps := 10000000) [go_sem, h9, h9', h11, h11', h13, h13', h15, h15', h17, h17', h19, h19']
                obtain rfl := Option.some.inj hM
                exact hK7 (decide (a0 = (⟨#[100, 111]⟩ : ByteArray))) _ rfl (Lift.into (by constructor <;> simp [go_sem, h9, h9', h11, h11', h13, h13', h15, h15', h17, h17', h19, h19']))
  · rintro x1 rfl
    have hM := hR5
    try dsimp only at hM
    refine AW_cond (b := x1) (by simp (maxSteps := 10000000) [go_sem]) (fun h20 => ?_) (fun h20 => ?_)
    · rw [if_pos h20] at hM
      have h20' := h20; try simp at h20'
      refine AW_seq fun K21 hK21 => ?_
      refine AW_region ?_
      simp (maxSteps := 10000000) [go_sem, h20, h20']
      refine hK21 _ ?_
      obtain rfl := Option.some.inj hM
      refine AW_ret ?_
      simp (maxSteps := 10000000) [go_sem, h20, h20']
    · rw [if_neg (ne_true h20)] at hM
      have h20' := h20; try simp at h20'
      refine AW_skip ?_
      refine hK2 _ ?_
      refine AW_seq fun K22 hK22 => ?_
      obtain ⟨x2, e23, hM⟩ := bind_some hM
      refine AW_region ?_
      simp (maxSteps := 10000000) [go_sem, h20, h20']
      refine by_ctr false (i_ArgumentCount_ctr a0 x2 e23) (by simp (maxSteps := 10000000) [go_sem, h20, h20']) (by simp) ?_
      simp (maxSteps := 10000000) [go_sem, h20, h20']
      refine hK22 _ ?_
      obtain rfl := Option.some.inj hM
      refine AW_ret ?_
      simp (maxSteps := 10000000) [go_sem, h20, h20']
set_option maxHeartbeats 4000000 in
set_option maxRecDepth 100000 in
theorem i_IsValidName_ctr (k : Nat) (a0 : ByteArray) (r : Bool) (hM : i_IsValidName k a0 = some r) : Ctr Tryz.prog 57 [.one (.str a0)] true [.one (.bool r)] := by
  unfold i_IsValidName at hM
  refine Ctr.of_walk (by kernel_rfl) Tryz.func57 rfl Tryz.ntmps57 Tryz.results57 (by simp) ?_; intro N w0 hbad
  refine AW_seq fun K1 hK1 => ?_
  refine AW_region ?_
  simp (maxSteps := 10000000) [go_sem]
  refine hK1 _ ?_
  obtain ⟨e2, hU4, hR3⟩ := bind_some hM; clear hM
  refine AW_mid (ι := Bool) (fun i => ⟨10, [(2, .one (.l (.bool i)))], [], []⟩) (fun i => i = e2) ?_ ?_
  · intro K5 hK5
    have hM := hU4; clear hU4
    obtain ⟨x2, e6, hM⟩ := bind_some hM
    by_cases h7 : x2 = true
    · rw [if_pos h7] at hM
      have h7' := h7; try simp at h7'
      obtain ⟨x3, e8, hM⟩ := bind_some hM
      refine AW_region ?_
      simp (maxSteps := 10000000) [go_sem, h7, h7']
      refine by_ctr false (i_isWord_ctr k a0 x2 e6) (by simp (maxSteps := 10000000) [go_sem, h7, h7']) (by simp) ?_
      simp (maxSteps := 10000000) [go_sem, h7, h7']
      refine by_ctr false (i_IsReserved_ctr a0 x3 e8) (by simp (maxSteps := 10000000) [go_sem, h7, h7']) (by simp) ?_
      simp (maxSteps := 10000000) [go_sem, h7, h7']
      obtain rfl := Option.some.inj hM
      exact hK5 (!x3) _ rfl (Lift.into (by constructor <;> simp [go_sem, h7, h7']))
    · rw [if_neg h7] at hM
      have h7 := Bool.eq_false_iff.2 h7
      have h7' := h7; try simp at h7'
      refine AW_region ?_
      simp (maxSteps := 10000000) [go_sem, h7, h7']
      refine by_ctr false (i_isWord_ctr k a0 x2 e6) (by simp (maxSteps := 10000000) [go_sem, h7, h7']) (by simp) ?_
      simp (maxSteps := 10000000) [go_sem, h7, h7']
      obtain rfl := Option.some.inj hM
      exact hK5 false _ rfl (Lift.into (by constructor <;> simp [go_sem, h7, h7']))
  · rintro x1 rfl
    have hM := hR3
    try dsimp only at hM
    obtain rfl := Option.some.inj hM
    refine AW_ret ?_
    simp (maxSteps := 10000000) [go_sem]
set_option maxHeartbeats 4000000 in
set_option maxRecDepth 100000 in
theorem i_isNumber_ctr (a0 : Int) (r : Bool) (hM : i_isNumber a0 = some r) : Ctr Tryz.prog 58 [.one (.int .i64 a0)] true [.one (.bool r)] := by
  unfold i_isNumber at hM
  refine Ctr.of_walk (by kernel_rfl) Tryz.func58 rfl Tryz.ntmps58 Tryz.results58 (by simp) ?_; intro N w0 hbad
  refine AW_seq fun K1 hK1 => ?_
  refine AW_region ?_
  simp (maxSteps := 10000000) [go_sem]
  refine hK1 _ ?_
  refine AW_seq fun K2 hK2 => ?_
  obtain ⟨x1, e3, hM⟩ := bind_some hM
  refine AW_region ?_
  simp (maxSteps := 10000000) [go_sem]
  refine by_ctr false (i_within_ctr a0 (-1000000000) 1000000000 x1 e3) (by simp (maxSteps := 10000000) [go_sem]) (by simp) ?_
  simp (maxSteps := 10000000) [go_sem]
  refine hK2 _ ?_
  obtain rfl := Option.some.inj hM
  refine AW_ret ?_
  simp (maxSteps := 10000000) [go_sem]
set_option maxHeartbeats 4000000 in
set_option maxRecDepth 100000 in
theorem i_IsValidWorld_ctr (k : Nat) (a0 : TWorld) (r : Bool) (hM : i_IsValidWorld k a0 = some r) : Ctr Tryz.prog 27 [.agg (TWorld.c a0)] true [.one (.bool r)] := by
  unfold i_IsValidWorld at hM
  refine Ctr.of_walk (by kernel_rfl) Tryz.func27 rfl Tryz.ntmps27 Tryz.results27 (by simp) ?_; intro N w0 hbad
  refine AW_seq fun K1 hK1 => ?_
  refine AW_region ?_
  simp (maxSteps := 10000000) [go_sem]
  refine hK1 _ ?_
  obtain ⟨e2, hU4, hR3⟩ := bind_some hM; clear hM
  refine AW_mid (ι := Unit) (fun i => ⟨54, [(1, .one (.box 1 0))], [(1, [.l (.int .i64 a0.clock), .l (.int .i64 a0.seed), .l (.sl (a0.files.map TFile.c))])], []⟩) (fun i => (.inl i) = e2) ?_ ?_
  · intro K5 hK5
    have hM := hU4; clear hU4
    refine AW_seq fun K6 hK6 => ?_
    refine AW_region ?_
    simp (maxSteps := 10000000) [go_sem]
    refine hK6 _ ?_
    refine AW_block ?_
    refine AW_go (ι := Int) (fun i => ⟨54, [(1, .one (.box 1 0)), (6, .one (.l (.sl (a0.files.map TFile.c)))), (7, .one (.l (.int .i64 (a0.files.length : Int)))), (8, .one (.l (.int .i64 i)))], [(1, [.l (.int .i64 a0.clock), .l (.int .i64 a0.seed), .l (.sl (a0.files.map TFile.c))])], []⟩) (fun n i => i_IsValidWorld_u1 k a0 n i = some e2) k 0 hM (Lift.into (by constructor <;> simp [go_sem])) (fun _ h => by simp [i_IsValidWorld_u1] at h) ?_
    intro KL7 n x1 hL7 hM
    have hM : i_IsValidWorld_u1 k a0 (n + 1) x1 = some e2 := hM; rw [i_IsValidWorld_u1] at hM
    refine AW_seq fun K8 hK8 => ?_
    refine AW_region ?_
    simp (maxSteps := 10000000) [go_sem]
    refine hK8 _ ?_
    refine AW_seq fun K9 hK9 => ?_
    refine AW_cond (b := (decide (x1 < (a0.files.length : Int)))) (by simp (maxSteps := 10000000) [go_sem]) (fun h10 => ?_) (fun h10 => ?_)
    · rw [if_pos h10] at hM
      have h10' := h10; try simp at h10'
      have h10'' : ¬ ((a0.files.length : Int) ≤ x1) := by first | (have := h10; simp only [decide_eq_true_eq, decide_eq_false_iff_not, Bool.not_eq_true', Bool.not_eq_false', Bool.not_eq_true, Bool.not_eq_false] at this; omega) | (have := h10; simp at this; omega)
      refine AW_skip ?_
      refine hK9 _ ?_
      refine AW_seq fun K11 hK11 => ?_
      refine AW_block ?_
      refine AW_seq fun K12 hK12 => ?_
      obtain ⟨x2, e13, hM⟩ := bind_some hM
      obtain ⟨p14, q15, l16, g17⟩ := at_spec e13
      refine AW_region ?_
      simp (maxSteps := 10000000) [go_sem, h10, h10', h10'', p14, q15, g17]
      refine hK12 _ ?_
      obtain ⟨e18, hU20, hR19⟩ := bind_some hM; clear hM
      refine AW_mid (ι := Bool) (fun i => ⟨54, [(1, .one (.box 1 0)), (6, .one (.l (.sl (a0.files.map TFile.c)))), (7, .one (.l (.int .i64 (a0.files.length : Int)))), (8, .one (.l (.int .i64 x1))), (38, .one (.l (.bool i)))], [(1, [.l (.int .i64 a0.clock), .l (.int .i64 a0.seed), .l (.sl (a0.files.map TFile.c))])], []⟩) (fun i => i = e18) ?_ ?_
      · intro K21 hK21
        have hM := hU20; clear hU20
        obtain ⟨x4, e22, hM⟩ := bind_some hM
        by_cases h23 : (!x4) = true
        · rw [if_pos h23] at hM
          have h23' := h23; try simp at h23'
          refine AW_quick [[], [0], [0, 1], [0, 1, 2], [0, 1, 2, 3], [0, 1, 2, 3, 4], [0, 1, 2, 3, 4, 5], [0, 1, 2, 3, 4, 5, 6], [0, 1, 2, 3, 4, 5, 6, 7], [0, 1, 2, 3, 4, 5, 6, 7, 8], [0, 1, 2, 3, 4, 5, 6, 7, 8, 9], [0, 1, 2, 3, 4, 5, 6, 7, 8, 9, 10], [0, 1, 2, 3, 4, 5, 6, 7, 8, 9, 10, 11], [0, 1, 2, 3, 4, 5, 6, 7, 8, 9, 10, 11, 12], [0, 1, 2, 3, 4, 5, 6, 7, 8, 9, 10, 11, 12, 13], [0, 1, 2, 3, 4, 5, 6, 7, 8, 9, 10, 11, 12, 13, 14], [0, 1, 2, 3, 4, 5, 6, 7, 8, 9, 10, 11, 12, 13], [0, 1, 2, 3, 4, 5, 6, 7, 8, 9, 10, 11, 12, 13, 16], [0, 1, 2, 3, 4, 5, 6, 7, 8, 9, 10, 11, 12, 13, 14, 15, 16, 17], [0, 1, 2, 3, 4, 5, 6, 7, 8, 9, 10, 11, 12, 13, 14, 15, 16, 17, 18], [0, 1, 2, 3, 4, 5, 6, 7, 8, 9, 10, 11, 12, 13, 14, 15, 16, 17, 18, 19], [0, 1, 2, 3, 4, 5, 6, 7, 8, 9, 10, 11, 12, 13], [0, 1, 2, 3, 4, 5, 6, 7, 8, 9, 10, 11, 12, 13, 21], [0, 1, 2, 3, 4, 5, 6, 7, 8, 9, 10, 11, 12, 13, 14, 15, 16, 17, 18, 19, 20, 21, 22], [0, 1, 2, 3, 4, 5, 6, 7, 8, 9, 10, 11, 12, 13, 14, 15, 16, 17, 18, 19, 20, 21, 22, 23], [0, 1, 2, 3, 4, 5, 6, 7, 8, 9, 10, 11, 12, 13, 14, 15, 16, 17, 18, 19, 20, 21, 22, 23, 24]] 23 mixed (by kernel_rfl) (by kernel_rfl) ?_
          simp (maxSteps := 10000000) [go_sem, h10, h10', h10'', p14, q15, g17, h23, h23']
          refine by_ctr false (i_IsValidName_ctr k x2.name x4 e22) (by simp (maxSteps := 10000000) [go_sem, h10, h10', h10'', p14, q15, g17, h23, h23']) (by simp) ?_
          simp (maxSteps := 10000000) [go_sem, h10, h10', h10'', p14, q15, g17, h23, h23']
          obtain rfl := Option.some.inj hM
          exact hK21 true _ rfl (Lift.into (by constructor <;> simp [go_sem, h10, h10', h10'', p14, q15, g17, h23, h23']))
        · rw [if_neg h23] at hM
          have h23 := Bool.eq_false_iff.2 h23
          have h23' := h23; try simp at h23'
          obtain ⟨x5, e24, hM⟩ := bind_some hM
          by_cases h25 : (!x5) = true
          · rw [if_pos h25] at hM
            have h25' := h25; try simp at h25'
            refine AW_quick [[], [0], [0, 1], [0, 1, 2], [0, 1, 2, 3], [0, 1, 2, 3, 4], [0, 1, 2, 3, 4, 5], [0, 1, 2, 3, 4, 5, 6], [0, 1, 2, 3, 4, 5, 6, 7], [0, 1, 2, 3, 4, 5, 6, 7, 8], [0, 1, 2, 3, 4, 5, 6, 7, 8, 9], [0, 1, 2, 3, 4, 5, 6, 7, 8, 9, 10], [0, 1, 2, 3, 4, 5, 6, 7, 8, 9, 10, 11], [0, 1, 2, 3, 4, 5, 6, 7, 8, 9, 10, 11, 12], [0, 1, 2, 3, 4, 5, 6, 7, 8, 9, 10, 11, 12, 13], [0, 1, 2, 3, 4, 5, 6, 7, 8, 9, 10, 11, 12, 13, 14], [0, 1, 2, 3, 4, 5, 6, 7, 8, 9, 10, 11, 12, 13], [0, 1, 2, 3, 4, 5, 6, 7, 8, 9, 10, 11, 12, 13, 16], [0, 1, 2, 3, 4, 5, 6, 7, 8, 9, 10, 11, 12, 13, 14, 15, 16, 17], [0, 1, 2, 3, 4, 5, 6, 7, 8, 9, 10, 11, 12, 13, 14, 15, 16, 17, 18], [0, 1, 2, 3, 4, 5, 6, 7, 8, 9, 10, 11, 12, 13, 14, 15, 16, 17, 18, 19], [0, 1, 2, 3, 4, 5, 6, 7, 8, 9, 10, 11, 12, 13], [0, 1, 2, 3, 4, 5, 6, 7, 8, 9, 10, 11, 12, 13, 21], [0, 1, 2, 3, 4, 5, 6, 7, 8, 9, 10, 11, 12, 13, 14, 15, 16, 17, 18, 19, 20, 21, 22], [0, 1, 2, 3, 4, 5, 6, 7, 8, 9, 10, 11, 12, 13, 14, 15, 16, 17, 18, 19, 20, 21, 22, 23], [0, 1, 2, 3, 4, 5, 6, 7, 8, 9, 10, 11, 12, 13, 14, 15, 16, 17, 18, 19, 20, 21, 22, 23, 24]] 23 mixed (by kernel_rfl) (by kernel_rfl) ?_
            simp (maxSteps := 10000000) [go_sem, h10, h10', h10'', p14, q15, g17, h23, h23', h25, h25']
            refine by_ctr false (i_IsValidName_ctr k x2.name x4 e22) (by simp (maxSteps := 10000000) [go_sem, h10, h10', h10'', p14, q15, g17, h23, h23', h25, h25']) (by simp) ?_
            simp (maxSteps := 10000000) [go_sem, h10, h10', h10'', p14, q15, g17, h23, h23', h25, h25']
            refine by_ctr false (i_isNumber_ctr x2.n x5 e24) (by simp (maxSteps := 10000000) [go_sem, h10, h10', h10'', p14, q15, g17, h23, h23', h25, h25']) (by simp) ?_
            simp (maxSteps := 10000000) [go_sem, h10, h10', h10'', p14, q15, g17, h23, h23', h25, h25']
            obtain rfl := Option.some.inj hM
            exact hK21 true _ rfl (Lift.into (by constructor <;> simp [go_sem, h10, h10', h10'', p14, q15, g17, h23, h23', h25, h25']))
          · rw [if_neg h25] at hM
            have h25 := Bool.eq_false_iff.2 h25
            have h25' := h25; try simp at h25'
            by_cases h26 : (decide (0 < x1)) = true
            · rw [if_pos h26] at hM
              have h26' := h26; try simp at h26'
              have h26'' : ¬ (x1 ≤ 0) := by first | (have := h26; simp only [decide_eq_true_eq, decide_eq_false_iff_not, Bool.not_eq_true', Bool.not_eq_false', Bool.not_eq_true, Bool.not_eq_false] at this; omega) | (have := h26; simp at this; omega)
              obtain ⟨x6, e27, hM⟩ := bind_some hM
              obtain ⟨p28, q29, l30, g31⟩ := at_spec e27
              refine AW_quick [[], [0], [0, 1], [0, 1, 2], [0, 1, 2, 3], [0, 1, 2, 3, 4], [0, 1, 2, 3, 4, 5], [0, 1, 2, 3, 4, 5, 6], [0, 1, 2, 3, 4, 5, 6, 7], [0, 1, 2, 3, 4, 5, 6, 7, 8], [0, 1, 2, 3, 4, 5, 6, 7, 8, 9], [0, 1, 2, 3, 4, 5, 6, 7, 8, 9, 10], [0, 1, 2, 3, 4, 5, 6, 7, 8, 9, 10, 11], [0, 1, 2, 3, 4, 5, 6, 7, 8, 9, 10, 11, 12], [0, 1, 2, 3, 4, 5, 6, 7, 8, 9, 10, 11, 12, 13], [0, 1, 2, 3, 4, 5, 6, 7, 8, 9, 10, 11, 12, 13, 14], [0, 1, 2, 3, 4, 5, 6, 7, 8, 9, 10, 11, 12, 13], [0, 1, 2, 3, 4, 5, 6, 7, 8, 9, 10, 11, 12, 13, 16], [0, 1, 2, 3, 4, 5, 6, 7, 8, 9, 10, 11, 12, 13, 14, 15, 16, 17], [0, 1, 2, 3, 4, 5, 6, 7, 8, 9, 10, 11, 12, 13, 14, 15, 16, 17, 18], [0, 1, 2, 3, 4, 5, 6, 7, 8, 9, 10, 11, 12, 13, 14, 15, 16, 17, 18, 19], [0, 1, 2, 3, 4, 5, 6, 7, 8, 9, 10, 11, 12, 13], [0, 1, 2, 3, 4, 5, 6, 7, 8, 9, 10, 11, 12, 13, 21], [0, 1, 2, 3, 4, 5, 6, 7, 8, 9, 10, 11, 12, 13, 14, 15, 16, 17, 18, 19, 20, 21, 22], [0, 1, 2, 3, 4, 5, 6, 7, 8, 9, 10, 11, 12, 13, 14, 15, 16, 17, 18, 19, 20, 21, 22, 23], [0, 1, 2, 3, 4, 5, 6, 7, 8, 9, 10, 11, 12, 13, 14, 15, 16, 17, 18, 19, 20, 21, 22, 23, 24]] 23 mixed (by kernel_rfl) (by kernel_rfl) ?_
              simp (maxSteps := 10000000) [go_sem, h10, h10', h10'', p14, q15, g17, h23, h23', h25, h25', h26, h26', h26'', p28, q29, g31]
              refine by_ctr false (i_IsValidName_ctr k x2.name x4 e22) (by simp (maxSteps := 10000000) [go_sem, h10, h10', h10'', p14, q15, g17, h23, h23', h25, h25', h26, h26', h26'', p28, q29, g31]) (by simp) ?_
              simp (maxSteps := 10000000) [go_sem, h10, h10', h10'', p14, q15, g17, h23, h23', h25, h25', h26, h26', h26'', p28, q29, g31]
              refine by_ctr false (i_isNumber_ctr x2.n x5 e24) (by simp (maxSteps := 10000000) [go_sem, h10, h10', h10'', p14, q15, g17, h23, h23', h25, h25', h26, h26', h26'', p28, q29, g31]) (by simp) ?_
              simp (maxSteps := 10000000) [go_sem, h10, h10', h10'', p14, q15, g17, h23, h23', h25, h25', h26, h26', h26'', p28, q29, g31]
              obtain rfl := Option.some.inj hM
              exact hK21 (!sLess x6.name x2.name) _ rfl (Lift.into (by constructor <;> simp [go_sem, h10, h10', h10'', p14, q15, g17, h23, h23', h25, h25', h26, h26', h26'', p28, q29, g31]))
            · rw [if_neg h26] at hM
              have h26 := Bool.eq_false_iff.2 h26
              have h26' := h26; try simp at h26'
              have h26'' : ¬ (0 < x1) := by first | (have := h26; simp only [decide_eq_true_eq, decide_eq_false_iff_not, Bool.not_eq_true', Bool.not_eq_false', Bool.not_eq_true, Bool.not_eq_false] at this; omega) | (have := h26; simp at this; omega)
              refine AW_quick [[], [0], [0, 1], [0, 1, 2], [0, 1, 2, 3], [0, 1, 2, 3, 4], [0, 1, 2, 3, 4, 5], [0, 1, 2, 3, 4, 5, 6], [0, 1, 2, 3, 4, 5, 6, 7], [0, 1, 2, 3, 4, 5, 6, 7, 8], [0, 1, 2, 3, 4, 5, 6, 7, 8, 9], [0, 1, 2, 3, 4, 5, 6, 7, 8, 9, 10], [0, 1, 2, 3, 4, 5, 6, 7, 8, 9, 10, 11], [0, 1, 2, 3, 4, 5, 6, 7, 8, 9, 10, 11, 12], [0, 1, 2, 3, 4, 5, 6, 7, 8, 9, 10, 11, 12, 13], [0, 1, 2, 3, 4, 5, 6, 7, 8, 9, 10, 11, 12, 13, 14], [0, 1, 2, 3, 4, 5, 6, 7, 8, 9, 10, 11, 12, 13], [0, 1, 2, 3, 4, 5, 6, 7, 8, 9, 10, 11, 12, 13, 16], [0, 1, 2, 3, 4, 5, 6, 7, 8, 9, 10, 11, 12, 13, 14, 15, 16, 17], [0, 1, 2, 3, 4, 5, 6, 7, 8, 9, 10, 11, 12, 13, 14, 15, 16, 17, 18], [0, 1, 2, 3, 4, 5, 6, 7, 8, 9, 10, 11, 12, 13, 14, 15, 16, 17, 18, 19], [0, 1, 2, 3, 4, 5, 6, 7, 8, 9, 10, 11, 12, 13], [0, 1, 2, 3, 4, 5, 6, 7, 8, 9, 10, 11, 12, 13, 21], [0, 1, 2, 3, 4, 5, 6, 7, 8, 9, 10, 11, 12, 13, 14, 15, 16, 17, 18, 19, 20, 21, 22], [0, 1, 2, 3, 4, 5, 6, 7, 8, 9, 10, 11, 12, 13, 14, 15, 16, 17, 18, 19, 20, 21, 22, 23], [0, 1, 2, 3, 4, 5, 6, 7, 8, 9, 10, 11, 12, 13, 14, 15, 16, 17, 18, 19, 20, 21, 22, 23, 24]] 23 mixed (by kernel_rfl) (by kernel_rfl) ?_
              simp (maxSteps := 10000000) [go_sem, h10, h10', h10'', p14, q15, g17, h23, h23', h25, h25', h26, h26', h26'']
              refine by_ctr false (i_IsValidName_ctr k x2.name x4 e22) (by simp (maxSteps := 10000000) [go_sem, h10, h10', h10'', p14, q15, g17, h23, h23', h25, h25', h26, h26', h26'']) (by simp) ?_
              simp (maxSteps := 10000000) [go_sem, h10, h10', h10'', p14, q15, g17, h23, h23', h25, h25', h26, h26', h26'']
              refine by_ctr false (i_isNumber_ctr x2.n x5 e24) (by simp (maxSteps := 10000000) [go_sem, h10, h10', h10'', p14, q15, g17, h23, h23', h25, h25', h26, h26', h26'']) (by simp) ?_
              simp (maxSteps := 10000000) [go_sem, h10, h10', h10'', p14, q15, g17, h23, h23', h25, h25', h26, h26', h26'']
              obtain rfl := Option.some.inj hM
              exact hK21 false _ rfl (Lift.into (by constructor <;> simp [go_sem, h10, h10', h10'', p14, q15, g17, h23, h23', h25, h25', h26, h26', h26'']))
      · rintro x3 rfl
        have hM := hR19
        try dsimp only at hM
        refine AW_cond (b := x3) (by simp (maxSteps := 10000000) [go_sem, h10, h10', h10'', p14, q15, g17]) (fun h32 => ?_) (fun h32 => ?_)
        · rw [if_pos h32] at hM
          have h32' := h32; try simp at h32'
          refine AW_seq fun K33 hK33 => ?_
          refine AW_region ?_
          simp (maxSteps := 10000000) [go_sem, h10, h10', h10'', p14, q15, g17, h32, h32']
          refine hK33 _ ?_
          obtain rfl := Option.some.inj hM
          have hM := hR3; dsimp only at hM
          obtain rfl := Option.some.inj hM
          refine AW_ret ?_
          simp (maxSteps := 10000000) [go_sem, h10, h10', h10'', p14, q15, g17, h32, h32']
        · rw [if_neg (ne_true h32)] at hM
          have h32' := h32; try simp at h32'
          refine AW_skip ?_
          refine hK11 _ ?_
          refine AW_region ?_
          simp (maxSteps := 10000000) [go_sem, h10, h10', h10'', p14, q15, g17, h32, h32']
          exact hL7 (IntKind.i64.wrap (x1 + 1)) _ hM (Lift.into (by constructor <;> simp [go_sem, h10, h10', h10'', p14, q15, g17, h32, h32']))
    · rw [if_neg (ne_true h10)] at hM
      have h10' := h10; try simp at h10'
      have h10'' : ¬ (x1 < (a0.files.length : Int)) := by first | (have := h10; simp only [decide_eq_true_eq, decide_eq_false_iff_not, Bool.not_eq_true', Bool.not_eq_false', Bool.not_eq_true, Bool.not_eq_false] at this; omega) | (have := h10; simp at this; omega)
      refine AW_exit ?_
      obtain rfl := Option.some.inj hM
      exact hK5 () _ rfl (Lift.into (by constructor <;> simp [go_sem, h10, h10', h10'']))
  · rintro _ rfl
    have hM := hR3
    dsimp only at hM
    obtain ⟨e34, hU36, hR35⟩ := bind_some hM; clear hM
    refine AW_mid (ι := Bool) (fun i => ⟨54, [(2, .one (.l (.bool i)))], [], []⟩) (fun i => i = e34) ?_ ?_
    · intro K37 hK37
      have hM := hU36; clear hU36
      obtain ⟨x8, e38, hM⟩ := bind_some hM
      by_cases h39 : x8 = true
      · rw [if_pos h39] at hM
        have h39' := h39; try simp at h39'
        obtain ⟨x9, e40, hM⟩ := bind_some hM
        by_cases h41 : x9 = true
        · rw [if_pos h41] at hM
          have h41' := h41; try simp at h41'
          refine AW_region ?_
          simp (maxSteps := 10000000) [go_sem, h39, h39', h41, h41']
          refine by_ctr false (i_within_ctr a0.clock 0 1000 x8 e38) (by simp (maxSteps := 10000000) [go_sem, h39, h39', h41, h41']) (by simp) ?_
          simp (maxSteps := 10000000) [go_sem, h39, h39', h41, h41']
          refine by_ctr false (i_within_ctr a0.seed 0 1000000 x9 e40) (by simp (maxSteps := 10000000) [go_sem, h39, h39', h41, h41']) (by simp) ?_
          simp (maxSteps := 10000000) [go_sem, h39, h39', h41, h41']
          obtain rfl := Option.some.inj hM
          exact hK37 (decide ((a0.files.length : Int) ≤ 4)) _ rfl (Lift.into (by constructor <;> simp [go_sem, h39, h39', h41, h41']))
        · rw [if_neg h41] at hM
          have h41 := Bool.eq_false_iff.2 h41
          have h41' := h41; try simp at h41'
          refine AW_region ?_
          simp (maxSteps := 10000000) [go_sem, h39, h39', h41, h41']
          refine by_ctr false (i_within_ctr a0.clock 0 1000 x8 e38) (by simp (maxSteps := 10000000) [go_sem, h39, h39', h41, h41']) (by simp) ?_
          simp (maxSteps := 10000000) [go_sem, h39, h39', h41, h41']
          refine by_ctr false (i_within_ctr a0.seed 0 1000000 x9 e40) (by simp (maxSteps := 10000000) [go_sem, h39, h39', h41, h41']) (by simp) ?_
          simp (maxSteps := 10000000) [go_sem, h39, h39', h41, h41']
          obtain rfl := Option.some.inj hM
          exact hK37 false _ rfl (Lift.into (by constructor <;> simp [go_sem, h39, h39', h41, h41']))
      · rw [if_neg h39] at hM
        have h39 := Bool.eq_false_iff.2 h39
        have h39' := h39; try simp at h39'
        refine AW_region ?_
        simp (maxSteps := 10000000) [go_sem, h39, h39']
        refine by_ctr false (i_within_ctr a0.clock 0 1000 x8 e38) (by simp (maxSteps := 10000000) [go_sem, h39, h39']) (by simp) ?_
        simp (maxSteps := 10000000) [go_sem, h39, h39']
        obtain rfl := Option.some.inj hM
        exact hK37 false _ rfl (Lift.into (by constructor <;> simp [go_sem, h39, h39']))
    · rintro x7 rfl
      have hM := hR35
      try dsimp only at hM
      obtain rfl := Option.some.inj hM
      refine AW_ret ?_
      simp (maxSteps := 10000000) [go_sem]
set_option maxHeartbeats 4000000 in
set_option maxRecDepth 100000 in
theorem i_AdvanceWorld_ctr (k : Nat) (a0 : TEngine) (a1 : TWorld) (r : TEngine × Bool) (hM : i_AdvanceWorld k a0 a1 = some r) : Ctr Tryz.prog 9 [.agg (TEngine.c a0), .agg (TWorld.c a1)] true [.agg (TEngine.c r.1), .one (.bool r.2)] := by
  unfold i_AdvanceWorld at hM
  refine Ctr.of_walk (by kernel_rfl) Tryz.func9 rfl Tryz.ntmps9 Tryz.results9 (by simp) ?_; intro N w0 hbad
  refine AW_seq fun K1 hK1 => ?_
  refine AW_region ?_
  simp (maxSteps := 10000000) [go_sem]
  refine hK1 _ ?_
  refine AW_seq fun K2 hK2 => ?_
  obtain ⟨x1, e3, hM⟩ := bind_some hM
  refine AW_region ?_
  simp (maxSteps := 10000000) [go_sem]
  refine by_ctr false (i_copyEngine_ctr k a0 x1 e3) (by simp (maxSteps := 10000000) [go_sem]) (by simp) ?_
  simp (maxSteps := 10000000) [go_sem]
  refine hK2 _ ?_
  refine AW_seq fun K4 hK4 => ?_
  refine AW_seq fun K5 hK5 => ?_
  obtain ⟨x2, e6, hM⟩ := bind_some hM
  refine AW_region ?_
  simp (maxSteps := 10000000) [go_sem]
  refine by_ctr false (i_IsValidWorld_ctr k a1 x2 e6) (by simp (maxSteps := 10000000) [go_sem]) (by simp) ?_
  simp (maxSteps := 10000000) [go_sem]
  refine hK5 _ ?_
  refine AW_cond (b := (!x2)) (by simp (maxSteps := 10000000) [go_sem]) (fun h7 => ?_) (fun h7 => ?_)
  · rw [if_pos h7] at hM
    have h7' := h7; try simp at h7'
    refine AW_seq fun K8 hK8 => ?_
    refine AW_region ?_
    simp (maxSteps := 10000000) [go_sem, h7, h7']
    refine hK8 _ ?_
    obtain rfl := Option.some.inj hM
    refine AW_ret ?_
    simp (maxSteps := 10000000) [go_sem, h7, h7']
  · rw [if_neg (ne_true h7)] at hM
    have h7' := h7; try simp at h7'
    refine AW_skip ?_
    refine hK4 _ ?_
    refine AW_seq fun K9 hK9 => ?_
    obtain ⟨x3, e10, hM⟩ := bind_some hM
    refine AW_region ?_
    simp (maxSteps := 10000000) [go_sem, h7, h7']
    refine by_ctr false (i_copyWorld_ctr a1 x3 e10) (by simp (maxSteps := 10000000) [go_sem, h7, h7']) (by simp) ?_
    simp (maxSteps := 10000000) [go_sem, h7, h7']
    refine hK9 _ ?_
    refine AW_seq fun K11 hK11 => ?_
    refine AW_region ?_
    simp (maxSteps := 10000000) [go_sem, h7, h7']
    refine hK11 _ ?_
    obtain rfl := Option.some.inj hM
    refine AW_ret ?_
    simp (maxSteps := 10000000) [go_sem, h7, h7']
end Go.Proofs.YtmiboaogfjgkjaaGreat
