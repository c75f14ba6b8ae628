/- Contracts of the program's functions: where the mirrored function answers, the program's function returns this answer. Written by a program of mine. -/
import Derived.Test.YtmiboaogfjgkjaaWn
import Derived.Test.YtmiboaogfjgkjaaMdA4
import Derived.Test.YtmiboaogfjgkjaaCtA0
import Derived.Test.YtmiboaogfjgkjaaCtA1
import Derived.Test.YtmiboaogfjgkjaaCtA2
import Derived.Test.YtmiboaogfjgkjaaCtA3
set_option linter.unusedSimpArgs false
set_option linter.unusedVariables false
namespace Go.Proofs.Ytmiboaogfjgkjaa
open Go.RowKit Am

set_option maxHeartbeats 4000000 in
set_option maxRecDepth 100000 in
theorem w_eqRead_ctr (k : Nat) (a0 : TRead) (a1 : TRead) (r : Bool) (hM : w_eqRead k a0 a1 = some r) : Ctr Try.prog 190 [.agg (TRead.c a0), .agg (TRead.c a1)] true [.one (.bool r)] := by
  unfold w_eqRead at hM
  refine Ctr.of_walk (by kernel_rfl) Try.func190 rfl Try.ntmps190 Try.results190 (by simp) ?_; intro N w0 hbad
  refine AW_seq fun K1 hK1 => ?_
  refine AW_region ?_
  simp (maxSteps := 10000000) [go_sem]
  refine hK1 _ ?_
  refine AW_seq fun K2 hK2 => ?_
  refine AW_seq fun K3 hK3 => ?_
  refine AW_region ?_
  simp (maxSteps := 10000000) [go_sem]
  refine hK3 _ ?_
  refine AW_cond (b := (!decide (a0.kind = a1.kind))) (by simp (maxSteps := 10000000) [go_sem]) (fun h4 => ?_) (fun h4 => ?_)
  · rw [if_pos h4] at hM
    have h4' := h4; try simp at h4'
    refine AW_seq fun K5 hK5 => ?_
    refine AW_region ?_
    simp (maxSteps := 10000000) [go_sem, h4, h4']
    refine hK5 _ ?_
    obtain rfl := Option.some.inj hM
    refine AW_ret ?_
    simp (maxSteps := 10000000) [go_sem, h4, h4']
  · rw [if_neg (ne_true h4)] at hM
    have h4' := h4; try simp at h4'
    refine AW_skip ?_
    refine hK2 _ ?_
    refine AW_seq fun K6 hK6 => ?_
    refine AW_seq fun K7 hK7 => ?_
    refine AW_region ?_
    simp (maxSteps := 10000000) [go_sem, h4, h4']
    refine hK7 _ ?_
    refine AW_cond (b := (!decide (a0.n = a1.n))) (by simp (maxSteps := 10000000) [go_sem, h4, h4']) (fun h8 => ?_) (fun h8 => ?_)
    · rw [if_pos h8] at hM
      have h8' := h8; try simp at h8'
      refine AW_seq fun K9 hK9 => ?_
      refine AW_region ?_
      simp (maxSteps := 10000000) [go_sem, h4, h4', h8, h8']
      refine hK9 _ ?_
      obtain rfl := Option.some.inj hM
      refine AW_ret ?_
      simp (maxSteps := 10000000) [go_sem, h4, h4', h8, h8']
    · rw [if_neg (ne_true h8)] at hM
      have h8' := h8; try simp at h8'
      refine AW_skip ?_
      refine hK6 _ ?_
      refine AW_seq fun K10 hK10 => ?_
      refine AW_seq fun K11 hK11 => ?_
      refine AW_region ?_
      simp (maxSteps := 10000000) [go_sem, h4, h4', h8, h8']
      refine hK11 _ ?_
      refine AW_cond (b := (!decide (a0.time = a1.time))) (by simp (maxSteps := 10000000) [go_sem, h4, h4', h8, h8']) (fun h12 => ?_) (fun h12 => ?_)
      · rw [if_pos h12] at hM
        have h12' := h12; try simp at h12'
        refine AW_seq fun K13 hK13 => ?_
        refine AW_region ?_
        simp (maxSteps := 10000000) [go_sem, h4, h4', h8, h8', h12, h12']
        refine hK13 _ ?_
        obtain rfl := Option.some.inj hM
        refine AW_ret ?_
        simp (maxSteps := 10000000) [go_sem, h4, h4', h8, h8', h12, h12']
      · rw [if_neg (ne_true h12)] at hM
        have h12' := h12; try simp at h12'
        refine AW_skip ?_
        refine hK10 _ ?_
        refine AW_seq fun K14 hK14 => ?_
        refine AW_seq fun K15 hK15 => ?_
        refine AW_region ?_
        simp (maxSteps := 10000000) [go_sem, h4, h4', h8, h8', h12, h12']
        refine hK15 _ ?_
        refine AW_cond (b := (!decide (a0.text = a1.text))) (by simp (maxSteps := 10000000) [go_sem, h4, h4', h8, h8', h12, h12']) (fun h16 => ?_) (fun h16 => ?_)
        · rw [if_pos h16] at hM
          have h16' := h16; try simp at h16'
          refine AW_seq fun K17 hK17 => ?_
          refine AW_region ?_
          simp (maxSteps := 10000000) [go_sem, h4, h4', h8, h8', h12, h12', h16, h16']
          refine hK17 _ ?_
          obtain rfl := Option.some.inj hM
          refine AW_ret ?_
          simp (maxSteps := 10000000) [go_sem, h4, h4', h8, h8', h12, h12', h16, h16']
        · rw [if_neg (ne_true h16)] at hM
          have h16' := h16; try simp at h16'
          refine AW_skip ?_
          refine hK14 _ ?_
          refine AW_seq fun K18 hK18 => ?_
          refine AW_seq fun K19 hK19 => ?_
          obtain ⟨x1, e20, hM⟩ := bind_some hM
          refine AW_region ?_
          simp (maxSteps := 10000000) [go_sem, h4, h4', h8, h8', h12, h12', h16, h16']
          refine by_ctr false (w_eqValue_ctr k a0.result a1.result x1 e20) (by simp (maxSteps := 10000000) [go_sem, h4, h4', h8, h8', h12, h12', h16, h16']) (by simp) ?_
          simp (maxSteps := 10000000) [go_sem, h4, h4', h8, h8', h12, h12', h16, h16']
          refine hK19 _ ?_
          refine AW_cond (b := (!x1)) (by simp (maxSteps := 10000000) [go_sem, h4, h4', h8, h8', h12, h12', h16, h16']) (fun h21 => ?_) (fun h21 => ?_)
          · rw [if_pos h21] at hM
            have h21' := h21; try simp at h21'
            refine AW_seq fun K22 hK22 => ?_
            refine AW_region ?_
            simp (maxSteps := 10000000) [go_sem, h4, h4', h8, h8', h12, h12', h16, h16', h21, h21']
            refine hK22 _ ?_
            obtain rfl := Option.some.inj hM
            refine AW_ret ?_
            simp (maxSteps := 10000000) [go_sem, h4, h4', h8, h8', h12, h12', h16, h16', h21, h21']
          · rw [if_neg (ne_true h21)] at hM
            have h21' := h21; try simp at h21'
            refine AW_skip ?_
            refine hK18 _ ?_
            refine AW_seq fun K23 hK23 => ?_
            refine AW_region ?_
            simp (maxSteps := 10000000) [go_sem, h4, h4', h8, h8', h12, h12', h16, h16', h21, h21']
            refine hK23 _ ?_
            obtain rfl := Option.some.inj hM
            refine AW_ret ?_
            simp (maxSteps := 10000000) [go_sem, h4, h4', h8, h8', h12, h12', h16, h16', h21, h21']
set_option maxHeartbeats 4000000 in
set_option maxRecDepth 100000 in
theorem w_eqReadS_ctr (k : Nat) (a0 : List TRead) (a1 : List TRead) (r : Bool) (hM : w_eqReadS k a0 a1 = some r) : Ctr Try.prog 176 [.one (.sl (a0.map TRead.c)), .one (.sl (a1.map TRead.c))] true [.one (.bool r)] := by
  unfold w_eqReadS at hM
  refine Ctr.of_walk (by kernel_rfl) Try.func176 rfl Try.ntmps176 Try.results176 (by simp) ?_; intro N w0 hbad
  refine AW_seq fun K1 hK1 => ?_
  refine AW_region ?_
  simp (maxSteps := 10000000) [go_sem]
  refine hK1 _ ?_
  refine AW_seq fun K2 hK2 => ?_
  refine AW_seq fun K3 hK3 => ?_
  refine AW_region ?_
  simp (maxSteps := 10000000) [go_sem]
  refine hK3 _ ?_
  refine AW_cond (b := (!decide ((a0.length : Int) = (a1.length : Int)))) (by simp (maxSteps := 10000000) [go_sem]) (fun h4 => ?_) (fun h4 => ?_)
  · rw [if_pos h4] at hM
    have h4' := h4; try simp at h4'
    refine AW_seq fun K5 hK5 => ?_
    refine AW_region ?_
    simp (maxSteps := 10000000) [go_sem, h4, h4']
    refine hK5 _ ?_
    obtain rfl := Option.some.inj hM
    refine AW_ret ?_
    simp (maxSteps := 10000000) [go_sem, h4, h4']
  · rw [if_neg (ne_true h4)] at hM
    have h4' := h4; try simp at h4'
    refine AW_skip ?_
    refine hK2 _ ?_
    obtain ⟨e6, hU8, hR7⟩ := bind_some hM; clear hM
    refine AW_mid (ι := Unit) (fun i => ⟨27, [], [], []⟩) (fun i => (.inl i) = e6) ?_ ?_
    · intro K9 hK9
      have hM := hU8; clear hU8
      refine AW_seq fun K10 hK10 => ?_
      refine AW_region ?_
      simp (maxSteps := 10000000) [go_sem, h4, h4']
      refine hK10 _ ?_
      refine AW_block ?_
      refine AW_go (ι := Int) (fun i => ⟨27, [(0, .one (.l (.sl (a0.map TRead.c)))), (1, .one (.l (.sl (a1.map TRead.c)))), (5, .one (.l (.int .i64 i)))], [], []⟩) (fun n i => w_eqReadS_u1 k a0 a1 n i = some e6) k 0 hM (Lift.into (by constructor <;> simp [go_sem, h4, h4'])) (fun _ h => by simp [w_eqReadS_u1] at h) ?_
      intro KL11 n x1 hL11 hM
      have hM : w_eqReadS_u1 k a0 a1 (n + 1) x1 = some e6 := hM; rw [w_eqReadS_u1] at hM
      refine AW_seq fun K12 hK12 => ?_
      refine AW_seq fun K13 hK13 => ?_
      refine AW_region ?_
      simp (maxSteps := 10000000) [go_sem]
      refine hK13 _ ?_
      refine AW_cond (b := (decide (x1 < (a0.length : Int)))) (by simp (maxSteps := 10000000) [go_sem]) (fun h14 => ?_) (fun h14 => ?_)
      · rw [if_pos h14] at hM
        have h14' := h14; try simp at h14'
        have h14'' : ¬ ((a0.length : Int) ≤ x1) := by first | (have := h14; simp only [decide_eq_true_eq, decide_eq_false_iff_not, Bool.not_eq_true', Bool.not_eq_false', Bool.not_eq_true, Bool.not_eq_false] at this; omega) | (have := h14; simp at this; omega)
        refine AW_skip ?_
        refine hK12 _ ?_
        refine AW_seq fun K15 hK15 => ?_
        refine AW_block ?_
        refine AW_seq fun K16 hK16 => ?_
        obtain ⟨x2, e17, hM⟩ := bind_some hM
        obtain ⟨p18, q19, l20, g21⟩ := at_spec e17
        obtain ⟨x3, e22, hM⟩ := bind_some hM
        obtain ⟨p23, q24, l25, g26⟩ := at_spec e22
        obtain ⟨x4, e27, hM⟩ := bind_some hM
        refine AW_quick [[], [], [0, 1], [0, 1, 2], [], [], [4, 5], [4, 5, 6], [0, 1, 2, 3, 4, 5, 6, 7], [0, 1, 2, 3, 4, 5, 6, 7, 8]] 8 mixed (by kernel_rfl) (by kernel_rfl) ?_
        simp (maxSteps := 10000000) [go_sem, h14, h14', h14'', p18, q19, g21, p23, q24, g26]
        refine by_ctr false (w_eqRead_ctr k x2 x3 x4 e27) (by simp (maxSteps := 10000000) [go_sem, h14, h14', h14'', p18, q19, g21, p23, q24, g26]) (by simp) ?_
        simp (maxSteps := 10000000) [go_sem, h14, h14', h14'', p18, q19, g21, p23, q24, g26]
        refine hK16 _ ?_
        refine AW_cond (b := (!x4)) (by simp (maxSteps := 10000000) [go_sem, h14, h14', h14'', p18, q19, g21, p23, q24, g26]) (fun h28 => ?_) (fun h28 => ?_)
        · rw [if_pos h28] at hM
          have h28' := h28; try simp at h28'
          refine AW_seq fun K29 hK29 => ?_
          refine AW_region ?_
          simp (maxSteps := 10000000) [go_sem, h14, h14', h14'', p18, q19, g21, p23, q24, g26, h28, h28']
          refine hK29 _ ?_
          obtain rfl := Option.some.inj hM
          have hM := hR7; dsimp only at hM
          obtain rfl := Option.some.inj hM
          refine AW_ret ?_
          simp (maxSteps := 10000000) [go_sem, h14, h14', h14'', p18, q19, g21, p23, q24, g26, h28, h28']
        · rw [if_neg (ne_true h28)] at hM
          have h28' := h28; try simp at h28'
          refine AW_skip ?_
          refine hK15 _ ?_
          refine AW_region ?_
          simp (maxSteps := 10000000) [go_sem, h14, h14', h14'', p18, q19, g21, p23, q24, g26, h28, h28']
          exact hL11 (IntKind.i64.wrap (x1 + 1)) _ hM (Lift.into (by constructor <;> simp [go_sem, h14, h14', h14'', p18, q19, g21, p23, q24, g26, h28, h28']))
      · rw [if_neg (ne_true h14)] at hM
        have h14' := h14; try simp at h14'
        have h14'' : ¬ (x1 < (a0.length : Int)) := by first | (have := h14; simp only [decide_eq_true_eq, decide_eq_false_iff_not, Bool.not_eq_true', Bool.not_eq_false', Bool.not_eq_true, Bool.not_eq_false] at this; omega) | (have := h14; simp at this; omega)
        refine AW_exit ?_
        obtain rfl := Option.some.inj hM
        exact hK9 () _ rfl (Lift.into (by constructor <;> simp [go_sem, h14, h14', h14'']))
    · rintro _ rfl
      have hM := hR7
      dsimp only at hM
      refine AW_seq fun K30 hK30 => ?_
      refine AW_region ?_
      simp (maxSteps := 10000000) [go_sem, h4, h4']
      refine hK30 _ ?_
      obtain rfl := Option.some.inj hM
      refine AW_ret ?_
      simp (maxSteps := 10000000) [go_sem, h4, h4']
set_option maxHeartbeats 4000000 in
set_option maxRecDepth 100000 in
theorem w_eqTape_ctr (k : Nat) (a0 : TTape) (a1 : TTape) (r : Bool) (hM : w_eqTape k a0 a1 = some r) : Ctr Try.prog 138 [.agg (TTape.c a0), .agg (TTape.c a1)] true [.one (.bool r)] := by
  unfold w_eqTape at hM
  refine Ctr.of_walk (by kernel_rfl) Try.func138 rfl Try.ntmps138 Try.results138 (by simp) ?_; intro N w0 hbad
  refine AW_seq fun K1 hK1 => ?_
  refine AW_region ?_
  simp (maxSteps := 10000000) [go_sem]
  refine hK1 _ ?_
  refine AW_seq fun K2 hK2 => ?_
  refine AW_seq fun K3 hK3 => ?_
  refine AW_region ?_
  simp (maxSteps := 10000000) [go_sem]
  refine hK3 _ ?_
  refine AW_cond (b := (!decide (a0.cell = a1.cell))) (by simp (maxSteps := 10000000) [go_sem]) (fun h4 => ?_) (fun h4 => ?_)
  · rw [if_pos h4] at hM
    have h4' := h4; try simp at h4'
    refine AW_seq fun K5 hK5 => ?_
    refine AW_region ?_
    simp (maxSteps := 10000000) [go_sem, h4, h4']
    refine hK5 _ ?_
    obtain rfl := Option.some.inj hM
    refine AW_ret ?_
    simp (maxSteps := 10000000) [go_sem, h4, h4']
  · rw [if_neg (ne_true h4)] at hM
    have h4' := h4; try simp at h4'
    refine AW_skip ?_
    refine hK2 _ ?_
    refine AW_seq fun K6 hK6 => ?_
    refine AW_seq fun K7 hK7 => ?_
    refine AW_region ?_
    simp (maxSteps := 10000000) [go_sem, h4, h4']
    refine hK7 _ ?_
    refine AW_cond (b := (!decide (a0.version = a1.version))) (by simp (maxSteps := 10000000) [go_sem, h4, h4']) (fun h8 => ?_) (fun h8 => ?_)
    · rw [if_pos h8] at hM
      have h8' := h8; try simp at h8'
      refine AW_seq fun K9 hK9 => ?_
      refine AW_region ?_
      simp (maxSteps := 10000000) [go_sem, h4, h4', h8, h8']
      refine hK9 _ ?_
      obtain rfl := Option.some.inj hM
      refine AW_ret ?_
      simp (maxSteps := 10000000) [go_sem, h4, h4', h8, h8']
    · rw [if_neg (ne_true h8)] at hM
      have h8' := h8; try simp at h8'
      refine AW_skip ?_
      refine hK6 _ ?_
      refine AW_seq fun K10 hK10 => ?_
      refine AW_seq fun K11 hK11 => ?_
      obtain ⟨x1, e12, hM⟩ := bind_some hM
      refine AW_region ?_
      simp (maxSteps := 10000000) [go_sem, h4, h4', h8, h8']
      refine by_ctr false (w_eqReadS_ctr k a0.reads a1.reads x1 e12) (by simp (maxSteps := 10000000) [go_sem, h4, h4', h8, h8']) (by simp) ?_
      simp (maxSteps := 10000000) [go_sem, h4, h4', h8, h8']
      refine hK11 _ ?_
      refine AW_cond (b := (!x1)) (by simp (maxSteps := 10000000) [go_sem, h4, h4', h8, h8']) (fun h13 => ?_) (fun h13 => ?_)
      · rw [if_pos h13] at hM
        have h13' := h13; try simp at h13'
        refine AW_seq fun K14 hK14 => ?_
        refine AW_region ?_
        simp (maxSteps := 10000000) [go_sem, h4, h4', h8, h8', h13, h13']
        refine hK14 _ ?_
        obtain rfl := Option.some.inj hM
        refine AW_ret ?_
        simp (maxSteps := 10000000) [go_sem, h4, h4', h8, h8', h13, h13']
      · rw [if_neg (ne_true h13)] at hM
        have h13' := h13; try simp at h13'
        refine AW_skip ?_
        refine hK10 _ ?_
        refine AW_seq fun K15 hK15 => ?_
        refine AW_region ?_
        simp (maxSteps := 10000000) [go_sem, h4, h4', h8, h8', h13, h13']
        refine hK15 _ ?_
        obtain rfl := Option.some.inj hM
        refine AW_ret ?_
        simp (maxSteps := 10000000) [go_sem, h4, h4', h8, h8', h13, h13']
set_option maxHeartbeats 4000000 in
set_option maxRecDepth 100000 in
theorem w_eqTapeS_ctr (k : Nat) (a0 : List TTape) (a1 : List TTape) (r : Bool) (hM : w_eqTapeS k a0 a1 = some r) : Ctr Try.prog 70 [.one (.sl (a0.map TTape.c)), .one (.sl (a1.map TTape.c))] true [.one (.bool r)] := by
  unfold w_eqTapeS at hM
  refine Ctr.of_walk (by kernel_rfl) Try.func70 rfl Try.ntmps70 Try.results70 (by simp) ?_; intro N w0 hbad
  refine AW_seq fun K1 hK1 => ?_
  refine AW_region ?_
  simp (maxSteps := 10000000) [go_sem]
  refine hK1 _ ?_
  refine AW_seq fun K2 hK2 => ?_
  refine AW_seq fun K3 hK3 => ?_
  refine AW_region ?_
  simp (maxSteps := 10000000) [go_sem]
  refine hK3 _ ?_
  refine AW_cond (b := (!decide ((a0.length : Int) = (a1.length : Int)))) (by simp (maxSteps := 10000000) [go_sem]) (fun h4 => ?_) (fun h4 => ?_)
  · rw [if_pos h4] at hM
    have h4' := h4; try simp at h4'
    refine AW_seq fun K5 hK5 => ?_
    refine AW_region ?_
    simp (maxSteps := 10000000) [go_sem, h4, h4']
    refine hK5 _ ?_
    obtain rfl := Option.some.inj hM
    refine AW_ret ?_
    simp (maxSteps := 10000000) [go_sem, h4, h4']
  · rw [if_neg (ne_true h4)] at hM
    have h4' := h4; try simp at h4'
    refine AW_skip ?_
    refine hK2 _ ?_
    obtain ⟨e6, hU8, hR7⟩ := bind_some hM; clear hM
    refine AW_mid (ι := Unit) (fun i => ⟨27, [], [], []⟩) (fun i => (.inl i) = e6) ?_ ?_
    · intro K9 hK9
      have hM := hU8; clear hU8
      refine AW_seq fun K10 hK10 => ?_
      refine AW_region ?_
      simp (maxSteps := 10000000) [go_sem, h4, h4']
      refine hK10 _ ?_
      refine AW_block ?_
      refine AW_go (ι := Int) (fun i => ⟨27, [(0, .one (.l (.sl (a0.map TTape.c)))), (1, .one (.l (.sl (a1.map TTape.c)))), (5, .one (.l (.int .i64 i)))], [], []⟩) (fun n i => w_eqTapeS_u1 k a0 a1 n i = some e6) k 0 hM (Lift.into (by constructor <;> simp [go_sem, h4, h4'])) (fun _ h => by simp [w_eqTapeS_u1] at h) ?_
      intro KL11 n x1 hL11 hM
      have hM : w_eqTapeS_u1 k a0 a1 (n + 1) x1 = some e6 := hM; rw [w_eqTapeS_u1] at hM
      refine AW_seq fun K12 hK12 => ?_
      refine AW_seq fun K13 hK13 => ?_
      refine AW_region ?_
      simp (maxSteps := 10000000) [go_sem]
      refine hK13 _ ?_
      refine AW_cond (b := (decide (x1 < (a0.length : Int)))) (by simp (maxSteps := 10000000) [go_sem]) (fun h14 => ?_) (fun h14 => ?_)
      · rw [if_pos h14] at hM
        have h14' := h14; try simp at h14'
        have h14'' : ¬ ((a0.length : Int) ≤ x1) := by first | (have := h14; simp only [decide_eq_true_eq, decide_eq_false_iff_not, Bool.not_eq_true', Bool.not_eq_false', Bool.not_eq_true, Bool.not_eq_false] at this; omega) | (have := h14; simp at this; omega)
        refine AW_skip ?_
        refine hK12 _ ?_
        refine AW_seq fun K15 hK15 => ?_
        refine AW_block ?_
        refine AW_seq fun K16 hK16 => ?_
        obtain ⟨x2, e17, hM⟩ := bind_some hM
        obtain ⟨p18, q19, l20, g21⟩ := at_spec e17
        obtain ⟨x3, e22, hM⟩ := bind_some hM
        obtain ⟨p23, q24, l25, g26⟩ := at_spec e22
        obtain ⟨x4, e27, hM⟩ := bind_some hM
        refine AW_quick [[], [], [0, 1], [0, 1, 2], [], [], [4, 5], [4, 5, 6], [0, 1, 2, 3, 4, 5, 6, 7], [0, 1, 2, 3, 4, 5, 6, 7, 8]] 8 mixed (by kernel_rfl) (by kernel_rfl) ?_
        simp (maxSteps := 10000000) [go_sem, h14, h14', h14'', p18, q19, g21, p23, q24, g26]
        refine by_ctr false (w_eqTape_ctr k x2 x3 x4 e27) (by simp (maxSteps := 10000000) [go_sem, h14, h14', h14'', p18, q19, g21, p23, q24, g26]) (by simp) ?_
        simp (maxSteps := 10000000) [go_sem, h14, h14', h14'', p18, q19, g21, p23, q24, g26]
        refine hK16 _ ?_
        refine AW_cond (b := (!x4)) (by simp (maxSteps := 10000000) [go_sem, h14, h14', h14'', p18, q19, g21, p23, q24, g26]) (fun h28 => ?_) (fun h28 => ?_)
        · rw [if_pos h28] at hM
          have h28' := h28; try simp at h28'
          refine AW_seq fun K29 hK29 => ?_
          refine AW_region ?_
          simp (maxSteps := 10000000) [go_sem, h14, h14', h14'', p18, q19, g21, p23, q24, g26, h28, h28']
          refine hK29 _ ?_
          obtain rfl := Option.some.inj hM
          have hM := hR7; dsimp only at hM
          obtain rfl := Option.some.inj hM
          refine AW_ret ?_
          simp (maxSteps := 10000000) [go_sem, h14, h14', h14'', p18, q19, g21, p23, q24, g26, h28, h28']
        · rw [if_neg (ne_true h28)] at hM
          have h28' := h28; try simp at h28'
          refine AW_skip ?_
          refine hK15 _ ?_
          refine AW_region ?_
          simp (maxSteps := 10000000) [go_sem, h14, h14', h14'', p18, q19, g21, p23, q24, g26, h28, h28']
          exact hL11 (IntKind.i64.wrap (x1 + 1)) _ hM (Lift.into (by constructor <;> simp [go_sem, h14, h14', h14'', p18, q19, g21, p23, q24, g26, h28, h28']))
      · rw [if_neg (ne_true h14)] at hM
        have h14' := h14; try simp at h14'
        have h14'' : ¬ (x1 < (a0.length : Int)) := by first | (have := h14; simp only [decide_eq_true_eq, decide_eq_false_iff_not, Bool.not_eq_true', Bool.not_eq_false', Bool.not_eq_true, Bool.not_eq_false] at this; omega) | (have := h14; simp at this; omega)
        refine AW_exit ?_
        obtain rfl := Option.some.inj hM
        exact hK9 () _ rfl (Lift.into (by constructor <;> simp [go_sem, h14, h14', h14'']))
    · rintro _ rfl
      have hM := hR7
      dsimp only at hM
      refine AW_seq fun K30 hK30 => ?_
      refine AW_region ?_
      simp (maxSteps := 10000000) [go_sem, h4, h4']
      refine hK30 _ ?_
      obtain rfl := Option.some.inj hM
      refine AW_ret ?_
      simp (maxSteps := 10000000) [go_sem, h4, h4']
set_option maxHeartbeats 4000000 in
set_option maxRecDepth 100000 in
theorem w_eqRun_ctr (k : Nat) (a0 : TRun) (a1 : TRun) (r : Bool) (hM : w_eqRun k a0 a1 = some r) : Ctr Try.prog 26 [.agg (TRun.c a0), .agg (TRun.c a1)] true [.one (.bool r)] := by
  unfold w_eqRun at hM
  refine Ctr.of_walk (by kernel_rfl) Try.func26 rfl Try.ntmps26 Try.results26 (by simp) ?_; intro N w0 hbad
  refine AW_seq fun K1 hK1 => ?_
  refine AW_region ?_
  simp (maxSteps := 10000000) [go_sem]
  refine hK1 _ ?_
  refine AW_seq fun K2 hK2 => ?_
  refine AW_seq fun K3 hK3 => ?_
  obtain ⟨x1, e4, hM⟩ := bind_some hM
  refine AW_region ?_
  simp (maxSteps := 10000000) [go_sem]
  refine by_ctr false (w_eqValueS_ctr k a0.values a1.values x1 e4) (by simp (maxSteps := 10000000) [go_sem]) (by simp) ?_
  simp (maxSteps := 10000000) [go_sem]
  refine hK3 _ ?_
  refine AW_cond (b := (!x1)) (by simp (maxSteps := 10000000) [go_sem]) (fun h5 => ?_) (fun h5 => ?_)
  · rw [if_pos h5] at hM
    have h5' := h5; try simp at h5'
    refine AW_seq fun K6 hK6 => ?_
    refine AW_region ?_
    simp (maxSteps := 10000000) [go_sem, h5, h5']
    refine hK6 _ ?_
    obtain rfl := Option.some.inj hM
    refine AW_ret ?_
    simp (maxSteps := 10000000) [go_sem, h5, h5']
  · rw [if_neg (ne_true h5)] at hM
    have h5' := h5; try simp at h5'
    refine AW_skip ?_
    refine hK2 _ ?_
    refine AW_seq fun K7 hK7 => ?_
    refine AW_seq fun K8 hK8 => ?_
    obtain ⟨x2, e9, hM⟩ := bind_some hM
    refine AW_region ?_
    simp (maxSteps := 10000000) [go_sem, h5, h5']
    refine by_ctr false (w_eqTapeS_ctr k a0.tapes a1.tapes x2 e9) (by simp (maxSteps := 10000000) [go_sem, h5, h5']) (by simp) ?_
    simp (maxSteps := 10000000) [go_sem, h5, h5']
    refine hK8 _ ?_
    refine AW_cond (b := (!x2)) (by simp (maxSteps := 10000000) [go_sem, h5, h5']) (fun h10 => ?_) (fun h10 => ?_)
    · rw [if_pos h10] at hM
      have h10' := h10; try simp at h10'
      refine AW_seq fun K11 hK11 => ?_
      refine AW_region ?_
      simp (maxSteps := 10000000) [go_sem, h5, h5', h10, h10']
      refine hK11 _ ?_
      obtain rfl := Option.some.inj hM
      refine AW_ret ?_
      simp (maxSteps := 10000000) [go_sem, h5, h5', h10, h10']
    · rw [if_neg (ne_true h10)] at hM
      have h10' := h10; try simp at h10'
      refine AW_skip ?_
      refine hK7 _ ?_
      refine AW_seq fun K12 hK12 => ?_
      refine AW_seq fun K13 hK13 => ?_
      refine AW_region ?_
      simp (maxSteps := 10000000) [go_sem, h5, h5', h10, h10']
      refine hK13 _ ?_
      refine AW_cond (b := (!decide (a0.steps = a1.steps))) (by simp (maxSteps := 10000000) [go_sem, h5, h5', h10, h10']) (fun h14 => ?_) (fun h14 => ?_)
      · rw [if_pos h14] at hM
        have h14' := h14; try simp at h14'
        refine AW_seq fun K15 hK15 => ?_
        refine AW_region ?_
        simp (maxSteps := 10000000) [go_sem, h5, h5', h10, h10', h14, h14']
        refine hK15 _ ?_
        obtain rfl := Option.some.inj hM
        refine AW_ret ?_
        simp (maxSteps := 10000000) [go_sem, h5, h5', h10, h10', h14, h14']
      · rw [if_neg (ne_true h14)] at hM
        have h14' := h14; try simp at h14'
        refine AW_skip ?_
        refine hK12 _ ?_
        refine AW_seq fun K16 hK16 => ?_
        refine AW_region ?_
        simp (maxSteps := 10000000) [go_sem, h5, h5', h10, h10', h14, h14']
        refine hK16 _ ?_
        obtain rfl := Option.some.inj hM
        refine AW_ret ?_
        simp (maxSteps := 10000000) [go_sem, h5, h5', h10, h10', h14, h14']
set_option maxHeartbeats 4000000 in
set_option maxRecDepth 100000 in
theorem w_szFile_ctr (a0 : TFile) (a1 : Int) (r : Int) (hM : w_szFile a0 a1 = some r) : Ctr Try.prog 147 [.agg (TFile.c a0), .one (.int .i64 a1)] true [.one (.int .i64 r)] := by
  unfold w_szFile at hM
  refine Ctr.of_walk (by kernel_rfl) Try.func147 rfl Try.ntmps147 Try.results147 (by simp) ?_; intro N w0 hbad
  refine AW_seq fun K1 hK1 => ?_
  refine AW_region ?_
  simp (maxSteps := 10000000) [go_sem]
  refine hK1 _ ?_
  refine AW_seq fun K2 hK2 => ?_
  refine AW_region ?_
  simp (maxSteps := 10000000) [go_sem]
  refine hK2 _ ?_
  refine AW_seq fun K3 hK3 => ?_
  refine AW_seq fun K4 hK4 => ?_
  refine AW_region ?_
  simp (maxSteps := 10000000) [go_sem]
  refine hK4 _ ?_
  refine AW_cond (b := (decide ((IntKind.i64.wrap (a1 - (a0.name.size : Int))) < 0))) (by simp (maxSteps := 10000000) [go_sem]) (fun h5 => ?_) (fun h5 => ?_)
  · rw [if_pos h5] at hM
    have h5' := h5; try simp at h5'
    have h5'' : ¬ (0 ≤ (IntKind.i64.wrap (a1 - (a0.name.size : Int)))) := by first | (have := h5; simp only [decide_eq_true_eq, decide_eq_false_iff_not, Bool.not_eq_true', Bool.not_eq_false', Bool.not_eq_true, Bool.not_eq_false] at this; omega) | (have := h5; simp at this; omega)
    refine AW_seq fun K6 hK6 => ?_
    refine AW_region ?_
    simp (maxSteps := 10000000) [go_sem, h5, h5', h5'']
    refine hK6 _ ?_
    obtain rfl := Option.some.inj hM
    refine AW_ret ?_
    simp (maxSteps := 10000000) [go_sem, h5, h5', h5'']
  · rw [if_neg (ne_true h5)] at hM
    have h5' := h5; try simp at h5'
    have h5'' : ¬ ((IntKind.i64.wrap (a1 - (a0.name.size : Int))) < 0) := by first | (have := h5; simp only [decide_eq_true_eq, decide_eq_false_iff_not, Bool.not_eq_true', Bool.not_eq_false', Bool.not_eq_true, Bool.not_eq_false] at this; omega) | (have := h5; simp at this; omega)
    refine AW_skip ?_
    refine hK3 _ ?_
    refine AW_seq fun K7 hK7 => ?_
    refine AW_region ?_
    simp (maxSteps := 10000000) [go_sem, h5, h5', h5'']
    refine hK7 _ ?_
    obtain rfl := Option.some.inj hM
    refine AW_ret ?_
    simp (maxSteps := 10000000) [go_sem, h5, h5', h5'']
set_option maxHeartbeats 4000000 in
set_option maxRecDepth 100000 in
theorem w_szFileS_ctr (k : Nat) (a0 : List TFile) (a1 : Int) (r : Int) (hM : w_szFileS k a0 a1 = some r) : Ctr Try.prog 97 [.one (.sl (a0.map TFile.c)), .one (.int .i64 a1)] true [.one (.int .i64 r)] := by
  unfold w_szFileS at hM
  refine Ctr.of_walk (by kernel_rfl) Try.func97 rfl Try.ntmps97 Try.results97 (by simp) ?_; intro N w0 hbad
  refine AW_seq fun K1 hK1 => ?_
  refine AW_region ?_
  simp (maxSteps := 10000000) [go_sem]
  refine hK1 _ ?_
  refine AW_seq fun K2 hK2 => ?_
  refine AW_region ?_
  simp (maxSteps := 10000000) [go_sem]
  refine hK2 _ ?_
  refine AW_seq fun K3 hK3 => ?_
  refine AW_seq fun K4 hK4 => ?_
  refine AW_region ?_
  simp (maxSteps := 10000000) [go_sem]
  refine hK4 _ ?_
  refine AW_cond (b := (decide ((IntKind.i64.wrap (a1 - (a0.length : Int))) < 0))) (by simp (maxSteps := 10000000) [go_sem]) (fun h5 => ?_) (fun h5 => ?_)
  · rw [if_pos h5] at hM
    have h5' := h5; try simp at h5'
    have h5'' : ¬ (0 ≤ (IntKind.i64.wrap (a1 - (a0.length : Int)))) := by first | (have := h5; simp only [decide_eq_true_eq, decide_eq_false_iff_not, Bool.not_eq_true', Bool.not_eq_false', Bool.not_eq_true, Bool.not_eq_false] at this; omega) | (have := h5; simp at this; omega)
    refine AW_seq fun K6 hK6 => ?_
    refine AW_region ?_
    simp (maxSteps := 10000000) [go_sem, h5, h5', h5'']
    refine hK6 _ ?_
    obtain rfl := Option.some.inj hM
    refine AW_ret ?_
    simp (maxSteps := 10000000) [go_sem, h5, h5', h5'']
  · rw [if_neg (ne_true h5)] at hM
    have h5' := h5; try simp at h5'
    have h5'' : ¬ ((IntKind.i64.wrap (a1 - (a0.length : Int))) < 0) := by first | (have := h5; simp only [decide_eq_true_eq, decide_eq_false_iff_not, Bool.not_eq_true', Bool.not_eq_false', Bool.not_eq_true, Bool.not_eq_false] at this; omega) | (have := h5; simp at this; omega)
    refine AW_skip ?_
    refine hK3 _ ?_
    obtain ⟨e7, hU9, hR8⟩ := bind_some hM; clear hM
    refine AW_mid (ι := Int) (fun i => ⟨27, [(1, .one (.l (.int .i64 i)))], [], []⟩) (fun i => (.inl i) = e7) ?_ ?_
    · intro K10 hK10
      have hM := hU9; clear hU9
      refine AW_seq fun K11 hK11 => ?_
      refine AW_region ?_
      simp (maxSteps := 10000000) [go_sem, h5, h5', h5'']
      refine hK11 _ ?_
      refine AW_block ?_
      refine AW_go (ι := Int × Int) (fun i => ⟨27, [(0, .one (.l (.sl (a0.map TFile.c)))), (1, .one (.l (.int .i64 i.1))), (5, .one (.l (.int .i64 i.2)))], [], []⟩) (fun n i => w_szFileS_u1 a0 n i.1 i.2 = some e7) k ((IntKind.i64.wrap (a1 - (a0.length : Int))), 0) hM (Lift.into (by constructor <;> simp [go_sem, h5, h5', h5''])) (fun _ h => by simp [w_szFileS_u1] at h) ?_
      intro KL12 n ⟨x2, x3⟩ hL12 hM
      have hM : w_szFileS_u1 a0 (n + 1) x2 x3 = some e7 := hM; rw [w_szFileS_u1] at hM
      refine AW_seq fun K13 hK13 => ?_
      refine AW_seq fun K14 hK14 => ?_
      refine AW_region ?_
      simp (maxSteps := 10000000) [go_sem]
      refine hK14 _ ?_
      refine AW_cond (b := (decide (x3 < (a0.length : Int)))) (by simp (maxSteps := 10000000) [go_sem]) (fun h15 => ?_) (fun h15 => ?_)
      · rw [if_pos h15] at hM
        have h15' := h15; try simp at h15'
        have h15'' : ¬ ((a0.length : Int) ≤ x3) := by first | (have := h15; simp only [decide_eq_true_eq, decide_eq_false_iff_not, Bool.not_eq_true', Bool.not_eq_false', Bool.not_eq_true, Bool.not_eq_false] at this; omega) | (have := h15; simp at this; omega)
        refine AW_skip ?_
        refine hK13 _ ?_
        refine AW_seq fun K16 hK16 => ?_
        refine AW_block ?_
        refine AW_seq fun K17 hK17 => ?_
        obtain ⟨x4, e18, hM⟩ := bind_some hM
        obtain ⟨p19, q20, l21, g22⟩ := at_spec e18
        obtain ⟨x5, e23, hM⟩ := bind_some hM
        refine AW_region ?_
        simp (maxSteps := 10000000) [go_sem, h15, h15', h15'', p19, q20, g22]
        refine by_ctr false (w_szFile_ctr x4 x2 x5 e23) (by simp (maxSteps := 10000000) [go_sem, h15, h15', h15'', p19, q20, g22]) (by simp) ?_
        simp (maxSteps := 10000000) [go_sem, h15, h15', h15'', p19, q20, g22]
        refine hK17 _ ?_
        refine AW_seq fun K24 hK24 => ?_
        refine AW_region ?_
        simp (maxSteps := 10000000) [go_sem, h15, h15', h15'', p19, q20, g22]
        refine hK24 _ ?_
        refine AW_cond (b := (decide (x5 < 0))) (by simp (maxSteps := 10000000) [go_sem, h15, h15', h15'', p19, q20, g22]) (fun h25 => ?_) (fun h25 => ?_)
        · rw [if_pos h25] at hM
          have h25' := h25; try simp at h25'
          have h25'' : ¬ (0 ≤ x5) := by first | (have := h25; simp only [decide_eq_true_eq, decide_eq_false_iff_not, Bool.not_eq_true', Bool.not_eq_false', Bool.not_eq_true, Bool.not_eq_false] at this; omega) | (have := h25; simp at this; omega)
          refine AW_seq fun K26 hK26 => ?_
          refine AW_region ?_
          simp (maxSteps := 10000000) [go_sem, h15, h15', h15'', p19, q20, g22, h25, h25', h25'']
          refine hK26 _ ?_
          obtain rfl := Option.some.inj hM
          have hM := hR8; dsimp only at hM
          obtain rfl := Option.some.inj hM
          refine AW_ret ?_
          simp (maxSteps := 10000000) [go_sem, h15, h15', h15'', p19, q20, g22, h25, h25', h25'']
        · rw [if_neg (ne_true h25)] at hM
          have h25' := h25; try simp at h25'
          have h25'' : ¬ (x5 < 0) := by first | (have := h25; simp only [decide_eq_true_eq, decide_eq_false_iff_not, Bool.not_eq_true', Bool.not_eq_false', Bool.not_eq_true, Bool.not_eq_false] at this; omega) | (have := h25; simp at this; omega)
          refine AW_skip ?_
          refine hK16 _ ?_
          refine AW_region ?_
          simp (maxSteps := 10000000) [go_sem, h15, h15', h15'', p19, q20, g22, h25, h25', h25'']
          exact hL12 (x5, (IntKind.i64.wrap (x3 + 1))) _ hM (Lift.into (by constructor <;> simp [go_sem, h15, h15', h15'', p19, q20, g22, h25, h25', h25'']))
      · rw [if_neg (ne_true h15)] at hM
        have h15' := h15; try simp at h15'
        have h15'' : ¬ (x3 < (a0.length : Int)) := by first | (have := h15; simp only [decide_eq_true_eq, decide_eq_false_iff_not, Bool.not_eq_true', Bool.not_eq_false', Bool.not_eq_true, Bool.not_eq_false] at this; omega) | (have := h15; simp at this; omega)
        refine AW_exit ?_
        obtain rfl := Option.some.inj hM
        exact hK10 x2 _ rfl (Lift.into (by constructor <;> simp [go_sem, h15, h15', h15'']))
    · rintro x1 rfl
      have hM := hR8
      dsimp only at hM
      refine AW_seq fun K27 hK27 => ?_
      refine AW_region ?_
      simp (maxSteps := 10000000) [go_sem, h5, h5', h5'']
      refine hK27 _ ?_
      obtain rfl := Option.some.inj hM
      refine AW_ret ?_
      simp (maxSteps := 10000000) [go_sem, h5, h5', h5'']
set_option maxHeartbeats 4000000 in
set_option maxRecDepth 100000 in
theorem w_szWorld_ctr (k : Nat) (a0 : TWorld) (a1 : Int) (r : Int) (hM : w_szWorld k a0 a1 = some r) : Ctr Try.prog 47 [.agg (TWorld.c a0), .one (.int .i64 a1)] true [.one (.int .i64 r)] := by
  unfold w_szWorld at hM
  refine Ctr.of_walk (by kernel_rfl) Try.func47 rfl Try.ntmps47 Try.results47 (by simp) ?_; intro N w0 hbad
  refine AW_seq fun K1 hK1 => ?_
  refine AW_region ?_
  simp (maxSteps := 10000000) [go_sem]
  refine hK1 _ ?_
  refine AW_seq fun K2 hK2 => ?_
  obtain ⟨x1, e3, hM⟩ := bind_some hM
  refine AW_region ?_
  simp (maxSteps := 10000000) [go_sem]
  refine by_ctr false (w_szFileS_ctr k a0.files a1 x1 e3) (by simp (maxSteps := 10000000) [go_sem]) (by simp) ?_
  simp (maxSteps := 10000000) [go_sem]
  refine hK2 _ ?_
  refine AW_seq fun K4 hK4 => ?_
  refine AW_seq fun K5 hK5 => ?_
  refine AW_region ?_
  simp (maxSteps := 10000000) [go_sem]
  refine hK5 _ ?_
  refine AW_cond (b := (decide (x1 < 0))) (by simp (maxSteps := 10000000) [go_sem]) (fun h6 => ?_) (fun h6 => ?_)
  · rw [if_pos h6] at hM
    have h6' := h6; try simp at h6'
    have h6'' : ¬ (0 ≤ x1) := by first | (have := h6; simp only [decide_eq_true_eq, decide_eq_false_iff_not, Bool.not_eq_true', Bool.not_eq_false', Bool.not_eq_true, Bool.not_eq_false] at this; omega) | (have := h6; simp at this; omega)
    refine AW_seq fun K7 hK7 => ?_
    refine AW_region ?_
    simp (maxSteps := 10000000) [go_sem, h6, h6', h6'']
    refine hK7 _ ?_
    obtain rfl := Option.some.inj hM
    refine AW_ret ?_
    simp (maxSteps := 10000000) [go_sem, h6, h6', h6'']
  · rw [if_neg (ne_true h6)] at hM
    have h6' := h6; try simp at h6'
    have h6'' : ¬ (x1 < 0) := by first | (have := h6; simp only [decide_eq_true_eq, decide_eq_false_iff_not, Bool.not_eq_true', Bool.not_eq_false', Bool.not_eq_true, Bool.not_eq_false] at this; omega) | (have := h6; simp at this; omega)
    refine AW_skip ?_
    refine hK4 _ ?_
    refine AW_seq fun K8 hK8 => ?_
    refine AW_region ?_
    simp (maxSteps := 10000000) [go_sem, h6, h6', h6'']
    refine hK8 _ ?_
    obtain rfl := Option.some.inj hM
    refine AW_ret ?_
    simp (maxSteps := 10000000) [go_sem, h6, h6', h6'']
set_option maxHeartbeats 4000000 in
set_option maxRecDepth 100000 in
theorem w_szEntry_ctr (k : Nat) (a0 : TEntry) (a1 : Int) (r : Int) (hM : w_szEntry k a0 a1 = some r) : Ctr Try.prog 135 [.agg (TEntry.c a0), .one (.int .i64 a1)] true [.one (.int .i64 r)] := by
  unfold w_szEntry at hM
  refine Ctr.of_walk (by kernel_rfl) Try.func135 rfl Try.ntmps135 Try.results135 (by simp) ?_; intro N w0 hbad
  refine AW_seq fun K1 hK1 => ?_
  refine AW_region ?_
  simp (maxSteps := 10000000) [go_sem]
  refine hK1 _ ?_
  refine AW_seq fun K2 hK2 => ?_
  obtain ⟨x1, e3, hM⟩ := bind_some hM
  refine AW_region ?_
  simp (maxSteps := 10000000) [go_sem]
  refine by_ctr false (w_szIntS_ctr a0.inputs a1 x1 e3) (by simp (maxSteps := 10000000) [go_sem]) (by simp) ?_
  simp (maxSteps := 10000000) [go_sem]
  refine hK2 _ ?_
  refine AW_seq fun K4 hK4 => ?_
  refine AW_seq fun K5 hK5 => ?_
  refine AW_region ?_
  simp (maxSteps := 10000000) [go_sem]
  refine hK5 _ ?_
  refine AW_cond (b := (decide (x1 < 0))) (by simp (maxSteps := 10000000) [go_sem]) (fun h6 => ?_) (fun h6 => ?_)
  · rw [if_pos h6] at hM
    have h6' := h6; try simp at h6'
    have h6'' : ¬ (0 ≤ x1) := by first | (have := h6; simp only [decide_eq_true_eq, decide_eq_false_iff_not, Bool.not_eq_true', Bool.not_eq_false', Bool.not_eq_true, Bool.not_eq_false] at this; omega) | (have := h6; simp at this; omega)
    refine AW_seq fun K7 hK7 => ?_
    refine AW_region ?_
    simp (maxSteps := 10000000) [go_sem, h6, h6', h6'']
    refine hK7 _ ?_
    obtain rfl := Option.some.inj hM
    refine AW_ret ?_
    simp (maxSteps := 10000000) [go_sem, h6, h6', h6'']
  · rw [if_neg (ne_true h6)] at hM
    have h6' := h6; try simp at h6'
    have h6'' : ¬ (x1 < 0) := by first | (have := h6; simp only [decide_eq_true_eq, decide_eq_false_iff_not, Bool.not_eq_true', Bool.not_eq_false', Bool.not_eq_true, Bool.not_eq_false] at this; omega) | (have := h6; simp at this; omega)
    refine AW_skip ?_
    refine hK4 _ ?_
    refine AW_seq fun K8 hK8 => ?_
    obtain ⟨x2, e9, hM⟩ := bind_some hM
    refine AW_region ?_
    simp (maxSteps := 10000000) [go_sem, h6, h6', h6'']
    refine by_ctr false (w_szValue_ctr k a0.value x1 x2 e9) (by simp (maxSteps := 10000000) [go_sem, h6, h6', h6'']) (by simp) ?_
    simp (maxSteps := 10000000) [go_sem, h6, h6', h6'']
    refine hK8 _ ?_
    refine AW_seq fun K10 hK10 => ?_
    refine AW_seq fun K11 hK11 => ?_
    refine AW_region ?_
    simp (maxSteps := 10000000) [go_sem, h6, h6', h6'']
    refine hK11 _ ?_
    refine AW_cond (b := (decide (x2 < 0))) (by simp (maxSteps := 10000000) [go_sem, h6, h6', h6'']) (fun h12 => ?_) (fun h12 => ?_)
    · rw [if_pos h12] at hM
      have h12' := h12; try simp at h12'
      have h12'' : ¬ (0 ≤ x2) := by first | (have := h12; simp only [decide_eq_true_eq, decide_eq_false_iff_not, Bool.not_eq_true', Bool.not_eq_false', Bool.not_eq_true, Bool.not_eq_false] at this; omega) | (have := h12; simp at this; omega)
      refine AW_seq fun K13 hK13 => ?_
      refine AW_region ?_
      simp (maxSteps := 10000000) [go_sem, h6, h6', h6'', h12, h12', h12'']
      refine hK13 _ ?_
      obtain rfl := Option.some.inj hM
      refine AW_ret ?_
      simp (maxSteps := 10000000) [go_sem, h6, h6', h6'', h12, h12', h12'']
    · rw [if_neg (ne_true h12)] at hM
      have h12' := h12; try simp at h12'
      have h12'' : ¬ (x2 < 0) := by first | (have := h12; simp only [decide_eq_true_eq, decide_eq_false_iff_not, Bool.not_eq_true', Bool.not_eq_false', Bool.not_eq_true, Bool.not_eq_false] at this; omega) | (have := h12; simp at this; omega)
      refine AW_skip ?_
      refine hK10 _ ?_
      refine AW_seq fun K14 hK14 => ?_
      refine AW_region ?_
      simp (maxSteps := 10000000) [go_sem, h6, h6', h6'', h12, h12', h12'']
      refine hK14 _ ?_
      obtain rfl := Option.some.inj hM
      refine AW_ret ?_
      simp (maxSteps := 10000000) [go_sem, h6, h6', h6'', h12, h12', h12'']
set_option maxHeartbeats 4000000 in
set_option maxRecDepth 100000 in
theorem w_szEntryS_ctr (k : Nat) (a0 : List TEntry) (a1 : Int) (r : Int) (hM : w_szEntryS k a0 a1 = some r) : Ctr Try.prog 67 [.one (.sl (a0.map TEntry.c)), .one (.int .i64 a1)] true [.one (.int .i64 r)] := by
  unfold w_szEntryS at hM
  refine Ctr.of_walk (by kernel_rfl) Try.func67 rfl Try.ntmps67 Try.results67 (by simp) ?_; intro N w0 hbad
  refine AW_seq fun K1 hK1 => ?_
  refine AW_region ?_
  simp (maxSteps := 10000000) [go_sem]
  refine hK1 _ ?_
  refine AW_seq fun K2 hK2 => ?_
  refine AW_region ?_
  simp (maxSteps := 10000000) [go_sem]
  refine hK2 _ ?_
  refine AW_seq fun K3 hK3 => ?_
  refine AW_seq fun K4 hK4 => ?_
  refine AW_region ?_
  simp (maxSteps := 10000000) [go_sem]
  refine hK4 _ ?_
  refine AW_cond (b := (decide ((IntKind.i64.wrap (a1 - (a0.length : Int))) < 0))) (by simp (maxSteps := 10000000) [go_sem]) (fun h5 => ?_) (fun h5 => ?_)
  · rw [if_pos h5] at hM
    have h5' := h5; try simp at h5'
    have h5'' : ¬ (0 ≤ (IntKind.i64.wrap (a1 - (a0.length : Int)))) := by first | (have := h5; simp only [decide_eq_true_eq, decide_eq_false_iff_not, Bool.not_eq_true', Bool.not_eq_false', Bool.not_eq_true, Bool.not_eq_false] at this; omega) | (have := h5; simp at this; omega)
    refine AW_seq fun K6 hK6 => ?_
    refine AW_region ?_
    simp (maxSteps := 10000000) [go_sem, h5, h5', h5'']
    refine hK6 _ ?_
    obtain rfl := Option.some.inj hM
    refine AW_ret ?_
    simp (maxSteps := 10000000) [go_sem, h5, h5', h5'']
  · rw [if_neg (ne_true h5)] at hM
    have h5' := h5; try simp at h5'
    have h5'' : ¬ ((IntKind.i64.wrap (a1 - (a0.length : Int))) < 0) := by first | (have := h5; simp only [decide_eq_true_eq, decide_eq_false_iff_not, Bool.not_eq_true', Bool.not_eq_false', Bool.not_eq_true, Bool.not_eq_false] at this; omega) | (have := h5; simp at this; omega)
    refine AW_skip ?_
    refine hK3 _ ?_
    obtain ⟨e7, hU9, hR8⟩ := bind_some hM; clear hM
    refine AW_mid (ι := Int) (fun i => ⟨27, [(1, .one (.l (.int .i64 i)))], [], []⟩) (fun i => (.inl i) = e7) ?_ ?_
    · intro K10 hK10
      have hM := hU9; clear hU9
      refine AW_seq fun K11 hK11 => ?_
      refine AW_region ?_
      simp (maxSteps := 10000000) [go_sem, h5, h5', h5'']
      refine hK11 _ ?_
      refine AW_block ?_
      refine AW_go (ι := Int × Int) (fun i => ⟨27, [(0, .one (.l (.sl (a0.map TEntry.c)))), (1, .one (.l (.int .i64 i.1))), (5, .one (.l (.int .i64 i.2)))], [], []⟩) (fun n i => w_szEntryS_u1 k a0 n i.1 i.2 = some e7) k ((IntKind.i64.wrap (a1 - (a0.length : Int))), 0) hM (Lift.into (by constructor <;> simp [go_sem, h5, h5', h5''])) (fun _ h => by simp [w_szEntryS_u1] at h) ?_
      intro KL12 n ⟨x2, x3⟩ hL12 hM
      have hM : w_szEntryS_u1 k a0 (n + 1) x2 x3 = some e7 := hM; rw [w_szEntryS_u1] at hM
      refine AW_seq fun K13 hK13 => ?_
      refine AW_seq fun K14 hK14 => ?_
      refine AW_region ?_
      simp (maxSteps := 10000000) [go_sem]
      refine hK14 _ ?_
      refine AW_cond (b := (decide (x3 < (a0.length : Int)))) (by simp (maxSteps := 10000000) [go_sem]) (fun h15 => ?_) (fun h15 => ?_)
      · rw [if_pos h15] at hM
        have h15' := h15; try simp at h15'
        have h15'' : ¬ ((a0.length : Int) ≤ x3) := by first | (have := h15; simp only [decide_eq_true_eq, decide_eq_false_iff_not, Bool.not_eq_true', Bool.not_eq_false', Bool.not_eq_true, Bool.not_eq_false] at this; omega) | (have := h15; simp at this; omega)
        refine AW_skip ?_
        refine hK13 _ ?_
        refine AW_seq fun K16 hK16 => ?_
        refine AW_block ?_
        refine AW_seq fun K17 hK17 => ?_
        obtain ⟨x4, e18, hM⟩ := bind_some hM
        obtain ⟨p19, q20, l21, g22⟩ := at_spec e18
        obtain ⟨x5, e23, hM⟩ := bind_some hM
        refine AW_region ?_
        simp (maxSteps := 10000000) [go_sem, h15, h15', h15'', p19, q20, g22]
        refine by_ctr false (w_szEntry_ctr k x4 x2 x5 e23) (by simp (maxSteps := 10000000) [go_sem, h15, h15', h15'', p19, q20, g22]) (by simp) ?_
        simp (maxSteps := 10000000) [go_sem, h15, h15', h15'', p19, q20, g22]
        refine hK17 _ ?_
        refine AW_seq fun K24 hK24 => ?_
        refine AW_region ?_
        simp (maxSteps := 10000000) [go_sem, h15, h15', h15'', p19, q20, g22]
        refine hK24 _ ?_
        refine AW_cond (b := (decide (x5 < 0))) (by simp (maxSteps := 10000000) [go_sem, h15, h15', h15'', p19, q20, g22]) (fun h25 => ?_) (fun h25 => ?_)
        · rw [if_pos h25] at hM
          have h25' := h25; try simp at h25'
          have h25'' : ¬ (0 ≤ x5) := by first | (have := h25; simp only [decide_eq_true_eq, decide_eq_false_iff_not, Bool.not_eq_true', Bool.not_eq_false', Bool.not_eq_true, Bool.not_eq_false] at this; omega) | (have := h25; simp at this; omega)
          refine AW_seq fun K26 hK26 => ?_
          refine AW_region ?_
          simp (maxSteps := 10000000) [go_sem, h15, h15', h15'', p19, q20, g22, h25, h25', h25'']
          refine hK26 _ ?_
          obtain rfl := Option.some.inj hM
          have hM := hR8; dsimp only at hM
          obtain rfl := Option.some.inj hM
          refine AW_ret ?_
          simp (maxSteps := 10000000) [go_sem, h15, h15', h15'', p19, q20, g22, h25, h25', h25'']
        · rw [if_neg (ne_true h25)] at hM
          have h25' := h25; try simp at h25'
          have h25'' : ¬ (x5 < 0) := by first | (have := h25; simp only [decide_eq_true_eq, decide_eq_false_iff_not, Bool.not_eq_true', Bool.not_eq_false', Bool.not_eq_true, Bool.not_eq_false] at this; omega) | (have := h25; simp at this; omega)
          refine AW_skip ?_
          refine hK16 _ ?_
          refine AW_region ?_
          simp (maxSteps := 10000000) [go_sem, h15, h15', h15'', p19, q20, g22, h25, h25', h25'']
          exact hL12 (x5, (IntKind.i64.wrap (x3 + 1))) _ hM (Lift.into (by constructor <;> simp [go_sem, h15, h15', h15'', p19, q20, g22, h25, h25', h25'']))
      · rw [if_neg (ne_true h15)] at hM
        have h15' := h15; try simp at h15'
        have h15'' : ¬ (x3 < (a0.length : Int)) := by first | (have := h15; simp only [decide_eq_true_eq, decide_eq_false_iff_not, Bool.not_eq_true', Bool.not_eq_false', Bool.not_eq_true, Bool.not_eq_false] at this; omega) | (have := h15; simp at this; omega)
        refine AW_exit ?_
        obtain rfl := Option.some.inj hM
        exact hK10 x2 _ rfl (Lift.into (by constructor <;> simp [go_sem, h15, h15', h15'']))
    · rintro x1 rfl
      have hM := hR8
      dsimp only at hM
      refine AW_seq fun K27 hK27 => ?_
      refine AW_region ?_
      simp (maxSteps := 10000000) [go_sem, h5, h5', h5'']
      refine hK27 _ ?_
      obtain rfl := Option.some.inj hM
      refine AW_ret ?_
      simp (maxSteps := 10000000) [go_sem, h5, h5', h5'']
set_option maxHeartbeats 4000000 in
set_option maxRecDepth 100000 in
theorem w_szEngine_ctr (k : Nat) (a0 : TEngine) (a1 : Int) (r : Int) (hM : w_szEngine k a0 a1 = some r) : Ctr Try.prog 11 [.agg (TEngine.c a0), .one (.int .i64 a1)] true [.one (.int .i64 r)] := by
  unfold w_szEngine at hM
  refine Ctr.of_walk (by kernel_rfl) Try.func11 rfl Try.ntmps11 Try.results11 (by simp) ?_; intro N w0 hbad
  refine AW_seq fun K1 hK1 => ?_
  refine AW_region ?_
  simp (maxSteps := 10000000) [go_sem]
  refine hK1 _ ?_
  refine AW_seq fun K2 hK2 => ?_
  obtain ⟨x1, e3, hM⟩ := bind_some hM
  refine AW_region ?_
  simp (maxSteps := 10000000) [go_sem]
  refine by_ctr false (w_szNotebook_ctr k a0.notebook a1 x1 e3) (by simp (maxSteps := 10000000) [go_sem]) (by simp) ?_
  simp (maxSteps := 10000000) [go_sem]
  refine hK2 _ ?_
  refine AW_seq fun K4 hK4 => ?_
  refine AW_seq fun K5 hK5 => ?_
  refine AW_region ?_
  simp (maxSteps := 10000000) [go_sem]
  refine hK5 _ ?_
  refine AW_cond (b := (decide (x1 < 0))) (by simp (maxSteps := 10000000) [go_sem]) (fun h6 => ?_) (fun h6 => ?_)
  · rw [if_pos h6] at hM
    have h6' := h6; try simp at h6'
    have h6'' : ¬ (0 ≤ x1) := by first | (have := h6; simp only [decide_eq_true_eq, decide_eq_false_iff_not, Bool.not_eq_true', Bool.not_eq_false', Bool.not_eq_true, Bool.not_eq_false] at this; omega) | (have := h6; simp at this; omega)
    refine AW_seq fun K7 hK7 => ?_
    refine AW_region ?_
    simp (maxSteps := 10000000) [go_sem, h6, h6', h6'']
    refine hK7 _ ?_
    obtain rfl := Option.some.inj hM
    refine AW_ret ?_
    simp (maxSteps := 10000000) [go_sem, h6, h6', h6'']
  · rw [if_neg (ne_true h6)] at hM
    have h6' := h6; try simp at h6'
    have h6'' : ¬ (x1 < 0) := by first | (have := h6; simp only [decide_eq_true_eq, decide_eq_false_iff_not, Bool.not_eq_true', Bool.not_eq_false', Bool.not_eq_true, Bool.not_eq_false] at this; omega) | (have := h6; simp at this; omega)
    refine AW_skip ?_
    refine hK4 _ ?_
    refine AW_seq fun K8 hK8 => ?_
    obtain ⟨x2, e9, hM⟩ := bind_some hM
    refine AW_region ?_
    simp (maxSteps := 10000000) [go_sem, h6, h6', h6'']
    refine by_ctr false (w_szWorld_ctr k a0.world x1 x2 e9) (by simp (maxSteps := 10000000) [go_sem, h6, h6', h6'']) (by simp) ?_
    simp (maxSteps := 10000000) [go_sem, h6, h6', h6'']
    refine hK8 _ ?_
    refine AW_seq fun K10 hK10 => ?_
    refine AW_seq fun K11 hK11 => ?_
    refine AW_region ?_
    simp (maxSteps := 10000000) [go_sem, h6, h6', h6'']
    refine hK11 _ ?_
    refine AW_cond (b := (decide (x2 < 0))) (by simp (maxSteps := 10000000) [go_sem, h6, h6', h6'']) (fun h12 => ?_) (fun h12 => ?_)
    · rw [if_pos h12] at hM
      have h12' := h12; try simp at h12'
      have h12'' : ¬ (0 ≤ x2) := by first | (have := h12; simp only [decide_eq_true_eq, decide_eq_false_iff_not, Bool.not_eq_true', Bool.not_eq_false', Bool.not_eq_true, Bool.not_eq_false] at this; omega) | (have := h12; simp at this; omega)
      refine AW_seq fun K13 hK13 => ?_
      refine AW_region ?_
      simp (maxSteps := 10000000) [go_sem, h6, h6', h6'', h12, h12', h12'']
      refine hK13 _ ?_
      obtain rfl := Option.some.inj hM
      refine AW_ret ?_
      simp (maxSteps := 10000000) [go_sem, h6, h6', h6'', h12, h12', h12'']
    · rw [if_neg (ne_true h12)] at hM
      have h12' := h12; try simp at h12'
      have h12'' : ¬ (x2 < 0) := by first | (have := h12; simp only [decide_eq_true_eq, decide_eq_false_iff_not, Bool.not_eq_true', Bool.not_eq_false', Bool.not_eq_true, Bool.not_eq_false] at this; omega) | (have := h12; simp at this; omega)
      refine AW_skip ?_
      refine hK10 _ ?_
      refine AW_seq fun K14 hK14 => ?_
      obtain ⟨x3, e15, hM⟩ := bind_some hM
      refine AW_region ?_
      simp (maxSteps := 10000000) [go_sem, h6, h6', h6'', h12, h12', h12'']
      refine by_ctr false (w_szTapeS_ctr k a0.tapes x2 x3 e15) (by simp (maxSteps := 10000000) [go_sem, h6, h6', h6'', h12, h12', h12'']) (by simp) ?_
      simp (maxSteps := 10000000) [go_sem, h6, h6', h6'', h12, h12', h12'']
      refine hK14 _ ?_
      refine AW_seq fun K16 hK16 => ?_
      refine AW_seq fun K17 hK17 => ?_
      refine AW_region ?_
      simp (maxSteps := 10000000) [go_sem, h6, h6', h6'', h12, h12', h12'']
      refine hK17 _ ?_
      refine AW_cond (b := (decide (x3 < 0))) (by simp (maxSteps := 10000000) [go_sem, h6, h6', h6'', h12, h12', h12'']) (fun h18 => ?_) (fun h18 => ?_)
      · rw [if_pos h18] at hM
        have h18' := h18; try simp at h18'
        have h18'' : ¬ (0 ≤ x3) := by first | (have := h18; simp only [decide_eq_true_eq, decide_eq_false_iff_not, Bool.not_eq_true', Bool.not_eq_false', Bool.not_eq_true, Bool.not_eq_false] at this; omega) | (have := h18; simp at this; omega)
        refine AW_seq fun K19 hK19 => ?_
        refine AW_region ?_
        simp (maxSteps := 10000000) [go_sem, h6, h6', h6'', h12, h12', h12'', h18, h18', h18'']
        refine hK19 _ ?_
        obtain rfl := Option.some.inj hM
        refine AW_ret ?_
        simp (maxSteps := 10000000) [go_sem, h6, h6', h6'', h12, h12', h12'', h18, h18', h18'']
      · rw [if_neg (ne_true h18)] at hM
        have h18' := h18; try simp at h18'
        have h18'' : ¬ (x3 < 0) := by first | (have := h18; simp only [decide_eq_true_eq, decide_eq_false_iff_not, Bool.not_eq_true', Bool.not_eq_false', Bool.not_eq_true, Bool.not_eq_false] at this; omega) | (have := h18; simp at this; omega)
        refine AW_skip ?_
        refine hK16 _ ?_
        refine AW_seq fun K20 hK20 => ?_
        obtain ⟨x4, e21, hM⟩ := bind_some hM
        refine AW_region ?_
        simp (maxSteps := 10000000) [go_sem, h6, h6', h6'', h12, h12', h12'', h18, h18', h18'']
        refine by_ctr false (w_szEntryS_ctr k a0.entries x3 x4 e21) (by simp (maxSteps := 10000000) [go_sem, h6, h6', h6'', h12, h12', h12'', h18, h18', h18'']) (by simp) ?_
        simp (maxSteps := 10000000) [go_sem, h6, h6', h6'', h12, h12', h12'', h18, h18', h18'']
        refine hK20 _ ?_
        refine AW_seq fun K22 hK22 => ?_
        refine AW_seq fun K23 hK23 => ?_
        refine AW_region ?_
        simp (maxSteps := 10000000) [go_sem, h6, h6', h6'', h12, h12', h12'', h18, h18', h18'']
        refine hK23 _ ?_
        refine AW_cond (b := (decide (x4 < 0))) (by simp (maxSteps := 10000000) [go_sem, h6, h6', h6'', h12, h12', h12'', h18, h18', h18'']) (fun h24 => ?_) (fun h24 => ?_)
        · rw [if_pos h24] at hM
          have h24' := h24; try simp at h24'
          have h24'' : ¬ (0 ≤ x4) := by first | (have := h24; simp only [decide_eq_true_eq, decide_eq_false_iff_not, Bool.not_eq_true', Bool.not_eq_false', Bool.not_eq_true, Bool.not_eq_false] at this; omega) | (have := h24; simp at this; omega)
          refine AW_seq fun K25 hK25 => ?_
          refine AW_region ?_
          simp (maxSteps := 10000000) [go_sem, h6, h6', h6'', h12, h12', h12'', h18, h18', h18'', h24, h24', h24'']
          refine hK25 _ ?_
          obtain rfl := Option.some.inj hM
          refine AW_ret ?_
          simp (maxSteps := 10000000) [go_sem, h6, h6', h6'', h12, h12', h12'', h18, h18', h18'', h24, h24', h24'']
        · rw [if_neg (ne_true h24)] at hM
          have h24' := h24; try simp at h24'
          have h24'' : ¬ (x4 < 0) := by first | (have := h24; simp only [decide_eq_true_eq, decide_eq_false_iff_not, Bool.not_eq_true', Bool.not_eq_false', Bool.not_eq_true, Bool.not_eq_false] at this; omega) | (have := h24; simp at this; omega)
          refine AW_skip ?_
          refine hK22 _ ?_
          refine AW_seq fun K26 hK26 => ?_
          refine AW_region ?_
          simp (maxSteps := 10000000) [go_sem, h6, h6', h6'', h12, h12', h12'', h18, h18', h18'', h24, h24', h24'']
          refine hK26 _ ?_
          obtain rfl := Option.some.inj hM
          refine AW_ret ?_
          simp (maxSteps := 10000000) [go_sem, h6, h6', h6'', h12, h12', h12'', h18, h18', h18'', h24, h24', h24'']
set_option maxHeartbeats 4000000 in
set_option maxRecDepth 100000 in
theorem w_toFile_ctr (a0 : TFile) (r : TFile) (hM : w_toFile a0 = some r) : Ctr Try.prog 149 [.agg (TFile.c a0)] true [.agg (TFile.c r)] := by
  unfold w_toFile at hM
  refine Ctr.of_walk (by kernel_rfl) Try.func149 rfl Try.ntmps149 Try.results149 (by simp) ?_; intro N w0 hbad
  refine AW_seq fun K1 hK1 => ?_
  refine AW_region ?_
  simp (maxSteps := 10000000) [go_sem]
  refine hK1 _ ?_
  refine AW_seq fun K2 hK2 => ?_
  refine AW_region ?_
  simp (maxSteps := 10000000) [go_sem]
  refine hK2 _ ?_
  refine AW_seq fun K3 hK3 => ?_
  refine AW_region ?_
  simp (maxSteps := 10000000) [go_sem]
  refine hK3 _ ?_
  refine AW_seq fun K4 hK4 => ?_
  refine AW_region ?_
  simp (maxSteps := 10000000) [go_sem]
  refine hK4 _ ?_
  refine AW_seq fun K5 hK5 => ?_
  refine AW_region ?_
  simp (maxSteps := 10000000) [go_sem]
  refine hK5 _ ?_
  obtain rfl := Option.some.inj hM
  refine AW_ret ?_
  simp (maxSteps := 10000000) [go_sem]
set_option maxHeartbeats 4000000 in
set_option maxRecDepth 100000 in
theorem w_toFileS_ctr (k : Nat) (a0 : List TFile) (r : List TFile) (hM : w_toFileS k a0 = some r) : Ctr Try.prog 100 [.one (.sl (a0.map TFile.c))] true [.one (.sl (r.map TFile.c))] := by
  unfold w_toFileS at hM
  refine Ctr.of_walk (by kernel_rfl) Try.func100 rfl Try.ntmps100 Try.results100 (by simp) ?_; intro N w0 hbad
  refine AW_seq fun K1 hK1 => ?_
  refine AW_region ?_
  simp (maxSteps := 10000000) [go_sem]
  refine hK1 _ ?_
  refine AW_seq fun K2 hK2 => ?_
  obtain ⟨x1, e3, hM⟩ := bind_some hM
  obtain ⟨c4, s5, s6, s7⟩ := mk_spec e3
  replace c4 := c4.symm; subst c4
  try simp at s5
  try simp at s6
  try simp at s7
  refine AW_region ?_
  simp (maxSteps := 10000000) [go_sem, s5, s6, s7]
  refine hK2 _ ?_
  obtain ⟨e8, hU10, hR9⟩ := bind_some hM; clear hM
  refine AW_mid (ι := List TFile) (fun i => ⟨23, [(3, .one (.own 448 i.length))], [], [(448, some ⟨true, i.map TFile.c⟩)]⟩) (fun i => i = e8) ?_ ?_
  · intro K11 hK11
    have hM := hU10; clear hU10
    refine AW_seq fun K12 hK12 => ?_
    refine AW_region ?_
    simp (maxSteps := 10000000) [go_sem, s5, s6, s7]
    refine hK12 _ ?_
    refine AW_block ?_
    refine AW_go (ι := (List TFile) × Int) (fun i => ⟨23, [(0, .one (.l (.sl (a0.map TFile.c)))), (3, .one (.own 448 i.1.length)), (4, .one (.l (.int .i64 i.2)))], [], [(448, some ⟨true, i.1.map TFile.c⟩)]⟩) (fun n i => w_toFileS_u1 a0 n i.1 i.2 = some e8) k ((List.replicate ((a0.length : Int).toNat) (TFile.mk (⟨#[]⟩ : ByteArray) 0)), 0) hM (Lift.into (by constructor <;> simp [go_sem, s5, s6, s7])) (fun _ h => by simp [w_toFileS_u1] at h) ?_
    intro KL13 n ⟨x3, x4⟩ hL13 hM
    have hM : w_toFileS_u1 a0 (n + 1) x3 x4 = some e8 := hM; rw [w_toFileS_u1] at hM
    refine AW_seq fun K14 hK14 => ?_
    refine AW_seq fun K15 hK15 => ?_
    refine AW_region ?_
    simp (maxSteps := 10000000) [go_sem]
    refine hK15 _ ?_
    refine AW_cond (b := (decide (x4 < (a0.length : Int)))) (by simp (maxSteps := 10000000) [go_sem]) (fun h16 => ?_) (fun h16 => ?_)
    · rw [if_pos h16] at hM
      have h16' := h16; try simp at h16'
      have h16'' : ¬ ((a0.length : Int) ≤ x4) := by first | (have := h16; simp only [decide_eq_true_eq, decide_eq_false_iff_not, Bool.not_eq_true', Bool.not_eq_false', Bool.not_eq_true, Bool.not_eq_false] at this; omega) | (have := h16; simp at this; omega)
      refine AW_skip ?_
      refine hK14 _ ?_
      refine AW_seq fun K17 hK17 => ?_
      refine AW_block ?_
      obtain ⟨x5, e18, hM⟩ := bind_some hM
      obtain ⟨p19, q20, l21, g22⟩ := at_spec e18
      obtain ⟨x6, e23, hM⟩ := bind_some hM
      obtain ⟨x7, e24, hM⟩ := bind_some hM
      obtain ⟨p25, q26, l27, g28⟩ := at_spec e24
      refine AW_region ?_
      simp (maxSteps := 10000000) [go_sem, h16, h16', h16'', p19, q20, g22, p25, q26, g28, l27]
      refine by_ctr false (w_toFile_ctr x5 x6 e23) (by simp (maxSteps := 10000000) [go_sem, h16, h16', h16'', p19, q20, g22, p25, q26, g28, l27]) (by simp) ?_
      simp (maxSteps := 10000000) [go_sem, h16, h16', h16'', p19, q20, g22, p25, q26, g28, l27]
      refine hK17 _ ?_
      refine AW_region ?_
      simp (maxSteps := 10000000) [go_sem, h16, h16', h16'', p19, q20, g22, p25, q26, g28, l27]
      exact hL13 ((x3.set x4.toNat x6), (IntKind.i64.wrap (x4 + 1))) _ hM (Lift.into (by constructor <;> simp [go_sem, h16, h16', h16'', p19, q20, g22, p25, q26, g28, l27]))
    · rw [if_neg (ne_true h16)] at hM
      have h16' := h16; try simp at h16'
      have h16'' : ¬ (x4 < (a0.length : Int)) := by first | (have := h16; simp only [decide_eq_true_eq, decide_eq_false_iff_not, Bool.not_eq_true', Bool.not_eq_false', Bool.not_eq_true, Bool.not_eq_false] at this; omega) | (have := h16; simp at this; omega)
      refine AW_exit ?_
      obtain rfl := Option.some.inj hM
      exact hK11 x3 _ rfl (Lift.into (by constructor <;> simp [go_sem, h16, h16', h16'']))
  · rintro x2 rfl
    have hM := hR9
    try dsimp only at hM
    refine AW_seq fun K29 hK29 => ?_
    refine AW_region ?_
    simp (maxSteps := 10000000) [go_sem, s5, s6, s7]
    refine hK29 _ ?_
    obtain rfl := Option.some.inj hM
    refine AW_ret ?_
    simp (maxSteps := 10000000) [go_sem, s5, s6, s7]
set_option maxHeartbeats 4000000 in
set_option maxRecDepth 100000 in
theorem w_toWorld_ctr (k : Nat) (a0 : TWorld) (r : TWorld) (hM : w_toWorld k a0 = some r) : Ctr Try.prog 49 [.agg (TWorld.c a0)] true [.agg (TWorld.c r)] := by
  unfold w_toWorld at hM
  refine Ctr.of_walk (by kernel_rfl) Try.func49 rfl Try.ntmps49 Try.results49 (by simp) ?_; intro N w0 hbad
  refine AW_seq fun K1 hK1 => ?_
  refine AW_region ?_
  simp (maxSteps := 10000000) [go_sem]
  refine hK1 _ ?_
  refine AW_seq fun K2 hK2 => ?_
  refine AW_region ?_
  simp (maxSteps := 10000000) [go_sem]
  refine hK2 _ ?_
  refine AW_seq fun K3 hK3 => ?_
  refine AW_region ?_
  simp (maxSteps := 10000000) [go_sem]
  refine hK3 _ ?_
  refine AW_seq fun K4 hK4 => ?_
  refine AW_region ?_
  simp (maxSteps := 10000000) [go_sem]
  refine hK4 _ ?_
  refine AW_seq fun K5 hK5 => ?_
  obtain ⟨x1, e6, hM⟩ := bind_some hM
  refine AW_region ?_
  simp (maxSteps := 10000000) [go_sem]
  refine by_ctr false (w_toFileS_ctr k a0.files x1 e6) (by simp (maxSteps := 10000000) [go_sem]) (by simp) ?_
  simp (maxSteps := 10000000) [go_sem]
  refine hK5 _ ?_
  refine AW_seq fun K7 hK7 => ?_
  refine AW_region ?_
  simp (maxSteps := 10000000) [go_sem]
  refine hK7 _ ?_
  obtain rfl := Option.some.inj hM
  refine AW_ret ?_
  simp (maxSteps := 10000000) [go_sem]
end Go.Proofs.Ytmiboaogfjgkjaa
