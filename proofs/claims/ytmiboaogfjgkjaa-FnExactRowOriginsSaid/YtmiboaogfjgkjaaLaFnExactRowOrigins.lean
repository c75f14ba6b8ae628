/- The law FnExactRowOrigins: its mirrored function, and its contract. Written by a program of mine. -/
import Derived.Test.YtmiboaogfjgkjaaMkC
import Derived.Test.YtmiboaogfjgkjaaWn
import Derived.Test.YtmiboaogfjgkjaaCt2
import Derived.Test.YtmiboaogfjgkjaaCtA0
import Derived.Test.YtmiboaogfjgkjaaCtA2
import Derived.Test.YtmiboaogfjgkjaaCtA3
import Derived.Test.YtmiboaogfjgkjaaCtA4
set_option linter.unusedSimpArgs false
set_option linter.unusedVariables false
namespace Go.Proofs.Ytmiboaogfjgkjaa
open Go.RowKit Am

def w_FnExactRowOrigins (k : Nat) (a0 : TNotebook) (a1 : TRun) (a2 : Int) (a3 : Int) : Option Bool :=
  (w_szNotebook k a0 1048576).bind fun x1 =>
  if (decide (x1 < 0)) then
    some true
  else
    (w_szRun k a1 x1).bind fun x2 =>
    if (decide (x2 < 0)) then
      some true
    else
      (w_toNotebook k a0).bind fun x3 =>
      (w_toRun k a1).bind fun x4 =>
      (s_RowOrigins k x3 x4 a2 a3).bind fun x5 =>
      (w_toNotebook k a0).bind fun x6 =>
      (w_toRun k a1).bind fun x7 =>
      (i_RowOrigins k x6 x7 a2 a3).bind fun x8 =>
      (w_eqOriginS k x8 x5).bind fun x9 =>
      if (!x9) then
        some false
      else
        (w_toNotebook k a0).bind fun x10 =>
        (w_eqNotebook k x6 x10).bind fun x11 =>
        if (!x11) then
          some false
        else
          (w_toRun k a1).bind fun x12 =>
          (w_eqRun k x7 x12).bind fun x13 =>
          if (!x13) then
            some false
          else
            (wr? TNotebook.markV TNotebook.cnV 1 x6).bind fun x14 =>
            (wr? TRun.markV TRun.cnV x14.2 x7).bind fun x15 =>
            (if (decide (x15.2 < 0)) then
              some true
            else
              (w_eqOriginS k x8 x5).bind fun x17 =>
              some (!x17)).bind fun x16 =>
            if x16 then
              some false
            else
              (wr? TOrigin.markL TOrigin.cnL 1 x8).bind fun x18 =>
              (hd? 1 (TOrigin.cnL x8)).bind fun x19 =>
              if (decide (x19 < 0)) then
                some false
              else
                if (!decide (x19 = x18.2)) then
                  some false
                else
                  (w_toNotebook k a0).bind fun x20 =>
                  (w_toRun k a1).bind fun x21 =>
                  (i_RowOrigins k x20 x21 a2 a3).bind fun x22 =>
                  (w_eqOriginS k x22 x5).bind fun x23 =>
                  if (!x23) then
                    some false
                  else
                    (hd? 1 (TOrigin.cnL x8)).bind fun x24 =>
                    if (decide (x24 < 0)) then
                      some false
                    else
                      if (!decide (x24 = x18.2)) then
                        some false
                      else
                        some true
set_option maxHeartbeats 4000000 in
set_option maxRecDepth 100000 in
theorem w_FnExactRowOrigins_ctr (k : Nat) (a0 : TNotebook) (a1 : TRun) (a2 : Int) (a3 : Int) (r : Bool) (hM : w_FnExactRowOrigins k a0 a1 a2 a3 = some r) : Ctr Try.prog 5 [.agg (TNotebook.c a0), .agg (TRun.c a1), .one (.int .i64 a2), .one (.int .i64 a3)] true [.one (.bool r)] := by
  unfold w_FnExactRowOrigins at hM
  refine Ctr.of_walk (by kernel_rfl) Try.func5 rfl Try.ntmps5 Try.results5 (by simp) ?_; intro N w0 hbad
  refine AW_seq fun K1 hK1 => ?_
  refine AW_region ?_
  simp (maxSteps := 10000000) [go_sem]
  refine hK1 _ ?_
  refine AW_seq fun K2 hK2 => ?_
  refine AW_region ?_
  simp (maxSteps := 10000000) [go_sem]
  refine hK2 _ ?_
  refine AW_seq fun K3 hK3 => ?_
  obtain ⟨x1, e4, hM⟩ := bind_some hM
  refine AW_region ?_
  simp (maxSteps := 10000000) [go_sem]
  refine by_ctr true (w_szNotebook_ctr k a0 1048576 x1 e4) (by simp (maxSteps := 10000000) [go_sem]) (by simp) ?_
  simp (maxSteps := 10000000) [go_sem]
  refine hK3 _ ?_
  refine AW_seq fun K5 hK5 => ?_
  refine AW_seq fun K6 hK6 => ?_
  refine AW_region ?_
  simp (maxSteps := 10000000) [go_sem]
  refine hK6 _ ?_
  refine AW_cond (b := (decide (x1 < 0))) (by simp (maxSteps := 10000000) [go_sem]) (fun h7 => ?_) (fun h7 => ?_)
  · rw [if_pos h7] at hM
    have h7' := h7; try simp at h7'
    have h7'' : ¬ (0 ≤ x1) := by first | (have := h7; simp only [decide_eq_true_eq, decide_eq_false_iff_not, Bool.not_eq_true', Bool.not_eq_false', Bool.not_eq_true, Bool.not_eq_false] at this; omega) | (have := h7; simp at this; omega)
    refine AW_seq fun K8 hK8 => ?_
    refine AW_region ?_
    simp (maxSteps := 10000000) [go_sem, h7, h7', h7'']
    refine hK8 _ ?_
    obtain rfl := Option.some.inj hM
    refine AW_ret ?_
    simp (maxSteps := 10000000) [go_sem, h7, h7', h7'']
  · rw [if_neg (ne_true h7)] at hM
    have h7' := h7; try simp at h7'
    have h7'' : ¬ (x1 < 0) := by first | (have := h7; simp only [decide_eq_true_eq, decide_eq_false_iff_not, Bool.not_eq_true', Bool.not_eq_false', Bool.not_eq_true, Bool.not_eq_false] at this; omega) | (have := h7; simp at this; omega)
    refine AW_skip ?_
    refine hK5 _ ?_
    refine AW_seq fun K9 hK9 => ?_
    obtain ⟨x2, e10, hM⟩ := bind_some hM
    refine AW_region ?_
    simp (maxSteps := 10000000) [go_sem, h7, h7', h7'']
    refine by_ctr true (w_szRun_ctr k a1 x1 x2 e10) (by simp (maxSteps := 10000000) [go_sem, h7, h7', h7'']) (by simp) ?_
    simp (maxSteps := 10000000) [go_sem, h7, h7', h7'']
    refine hK9 _ ?_
    refine AW_seq fun K11 hK11 => ?_
    refine AW_seq fun K12 hK12 => ?_
    refine AW_region ?_
    simp (maxSteps := 10000000) [go_sem, h7, h7', h7'']
    refine hK12 _ ?_
    refine AW_cond (b := (decide (x2 < 0))) (by simp (maxSteps := 10000000) [go_sem, h7, h7', h7'']) (fun h13 => ?_) (fun h13 => ?_)
    · rw [if_pos h13] at hM
      have h13' := h13; try simp at h13'
      have h13'' : ¬ (0 ≤ x2) := by first | (have := h13; simp only [decide_eq_true_eq, decide_eq_false_iff_not, Bool.not_eq_true', Bool.not_eq_false', Bool.not_eq_true, Bool.not_eq_false] at this; omega) | (have := h13; simp at this; omega)
      refine AW_seq fun K14 hK14 => ?_
      refine AW_region ?_
      simp (maxSteps := 10000000) [go_sem, h7, h7', h7'', h13, h13', h13'']
      refine hK14 _ ?_
      obtain rfl := Option.some.inj hM
      refine AW_ret ?_
      simp (maxSteps := 10000000) [go_sem, h7, h7', h7'', h13, h13', h13'']
    · rw [if_neg (ne_true h13)] at hM
      have h13' := h13; try simp at h13'
      have h13'' : ¬ (x2 < 0) := by first | (have := h13; simp only [decide_eq_true_eq, decide_eq_false_iff_not, Bool.not_eq_true', Bool.not_eq_false', Bool.not_eq_true, Bool.not_eq_false] at this; omega) | (have := h13; simp at this; omega)
      refine AW_skip ?_
      refine hK11 _ ?_
      refine AW_seq fun K15 hK15 => ?_
      refine AW_into (σ' := ⟨102, [(2, .one (.l (.int .i64 a2))), (3, .one (.l (.int .i64 a3))), (4, .one (.box 4 0)), (5, .one (.box 5 0))], [(4, [.l (.sl (a0.cells.map TCell.c))]), (5, [.l (.sl (a1.values.map TValue.c)), .l (.sl (a1.tapes.map TTape.c)), .l (.int .i64 a1.steps)])], []⟩) (Lift.into (by constructor <;> simp [go_sem, h7, h7', h7'', h13, h13', h13''])) ?_
      obtain ⟨x3, e16, hM⟩ := bind_some hM
      obtain ⟨x4, e17, hM⟩ := bind_some hM
      obtain ⟨x5, e18, hM⟩ := bind_some hM
      refine AW_open [[], [0], [], [0, 1, 2], [], [], [0, 1, 2, 3, 4, 5], [0, 1, 2, 3, 4, 5, 6]] mixed (by kernel_rfl) ?_
      simp (maxSteps := 10000000) [go_sem, h7, h7', h7'', h13, h13', h13'']
      refine by_ctr true (w_toNotebook_ctr k a0 x3 e16) (by simp (maxSteps := 10000000) [go_sem, h7, h7', h7'', h13, h13', h13'']) (by simp) ?_
      simp (maxSteps := 10000000) [go_sem, h7, h7', h7'', h13, h13', h13'']
      refine by_ctr true (w_toRun_ctr k a1 x4 e17) (by simp (maxSteps := 10000000) [go_sem, h7, h7', h7'', h13, h13', h13'']) (by simp) ?_
      simp (maxSteps := 10000000) [go_sem, h7, h7', h7'', h13, h13', h13'']
      refine by_ctr true (s_RowOrigins_ctr k x3 x4 a2 a3 x5 e18) (by simp (maxSteps := 10000000) [go_sem, h7, h7', h7'', h13, h13', h13'']) (by simp) ?_
      simp (maxSteps := 10000000) [go_sem, h7, h7', h7'', h13, h13', h13'']
      refine ⟨dOkK_sound (by kernel_rfl), ?_⟩
      refine hK15 _ ?_
      refine AW_seq fun K19 hK19 => ?_
      obtain ⟨x6, e20, hM⟩ := bind_some hM
      refine AW_region ?_
      simp (maxSteps := 10000000) [go_sem, h7, h7', h7'', h13, h13', h13'']
      refine by_ctr true (w_toNotebook_ctr k a0 x6 e20) (by simp (maxSteps := 10000000) [go_sem, h7, h7', h7'', h13, h13', h13'']) (by simp) ?_
      simp (maxSteps := 10000000) [go_sem, h7, h7', h7'', h13, h13', h13'']
      refine hK19 _ ?_
      refine AW_seq fun K21 hK21 => ?_
      obtain ⟨x7, e22, hM⟩ := bind_some hM
      refine AW_region ?_
      simp (maxSteps := 10000000) [go_sem, h7, h7', h7'', h13, h13', h13'']
      refine by_ctr true (w_toRun_ctr k a1 x7 e22) (by simp (maxSteps := 10000000) [go_sem, h7, h7', h7'', h13, h13', h13'']) (by simp) ?_
      simp (maxSteps := 10000000) [go_sem, h7, h7', h7'', h13, h13', h13'']
      refine hK21 _ ?_
      refine AW_seq fun K23 hK23 => ?_
      obtain ⟨x8, e24, hM⟩ := bind_some hM
      refine AW_region ?_
      simp (maxSteps := 10000000) [go_sem, h7, h7', h7'', h13, h13', h13'']
      refine by_ctr true (i_RowOrigins_ctr k x6 x7 a2 a3 x8 e24) (by simp (maxSteps := 10000000) [go_sem, h7, h7', h7'', h13, h13', h13'']) (by simp) ?_
      simp (maxSteps := 10000000) [go_sem, h7, h7', h7'', h13, h13', h13'']
      refine hK23 _ ?_
      refine AW_seq fun K25 hK25 => ?_
      refine AW_seq fun K26 hK26 => ?_
      obtain ⟨x9, e27, hM⟩ := bind_some hM
      refine AW_region ?_
      simp (maxSteps := 10000000) [go_sem, h7, h7', h7'', h13, h13', h13'']
      refine by_ctr true (w_eqOriginS_ctr k x8 x5 x9 e27) (by simp (maxSteps := 10000000) [go_sem, h7, h7', h7'', h13, h13', h13'']) (by simp) ?_
      simp (maxSteps := 10000000) [go_sem, h7, h7', h7'', h13, h13', h13'']
      refine hK26 _ ?_
      refine AW_cond (b := (!x9)) (by simp (maxSteps := 10000000) [go_sem, h7, h7', h7'', h13, h13', h13'']) (fun h28 => ?_) (fun h28 => ?_)
      · rw [if_pos h28] at hM
        have h28' := h28; try simp at h28'
        refine AW_seq fun K29 hK29 => ?_
        refine AW_region ?_
        simp (maxSteps := 10000000) [go_sem, h7, h7', h7'', h13, h13', h13'', h28, h28']
        refine hK29 _ ?_
        obtain rfl := Option.some.inj hM
        refine AW_ret ?_
        simp (maxSteps := 10000000) [go_sem, h7, h7', h7'', h13, h13', h13'', h28, h28']
      · rw [if_neg (ne_true h28)] at hM
        have h28' := h28; try simp at h28'
        refine AW_skip ?_
        refine hK25 _ ?_
        refine AW_seq fun K30 hK30 => ?_
        refine AW_seq fun K31 hK31 => ?_
        refine AW_into (σ' := ⟨102, [(2, .one (.l (.int .i64 a2))), (3, .one (.l (.int .i64 a3))), (4, .one (.box 4 0)), (5, .one (.box 5 0)), (10, .one (.own 1002176 x5.length)), (11, .one (.box 11 0)), (12, .one (.box 12 0)), (13, .one (.own 1002752 x8.length))], [(4, [.l (.sl (a0.cells.map TCell.c))]), (5, [.l (.sl (a1.values.map TValue.c)), .l (.sl (a1.tapes.map TTape.c)), .l (.int .i64 a1.steps)]), (11, [.own 1002304 x6.cells.length]), (12, [.own 1002432 x7.values.length, .own 1002433 x7.tapes.length, .l (.int .i64 x7.steps)])], [(1002176, some ⟨true, x5.map TOrigin.c⟩), (1002304, some ⟨true, x6.cells.map TCell.c⟩), (1002432, some ⟨true, x7.values.map TValue.c⟩), (1002433, some ⟨true, x7.tapes.map TTape.c⟩), (1002752, some ⟨true, x8.map TOrigin.c⟩)]⟩) (Lift.into (by constructor <;> simp [go_sem, h7, h7', h7'', h13, h13', h13'', h28, h28'])) ?_
        obtain ⟨x10, e32, hM⟩ := bind_some hM
        obtain ⟨x11, e33, hM⟩ := bind_some hM
        refine AW_open [[], [], [1], [0, 1, 2], [0, 1, 2, 3]] mixed (by kernel_rfl) ?_
        simp (maxSteps := 10000000) [go_sem, h7, h7', h7'', h13, h13', h13'', h28, h28']
        refine by_ctr true (w_toNotebook_ctr k a0 x10 e32) (by simp (maxSteps := 10000000) [go_sem, h7, h7', h7'', h13, h13', h13'', h28, h28']) (by simp) ?_
        simp (maxSteps := 10000000) [go_sem, h7, h7', h7'', h13, h13', h13'', h28, h28']
        refine by_ctr true (w_eqNotebook_ctr k x6 x10 x11 e33) (by simp (maxSteps := 10000000) [go_sem, h7, h7', h7'', h13, h13', h13'', h28, h28']) (by simp) ?_
        simp (maxSteps := 10000000) [go_sem, h7, h7', h7'', h13, h13', h13'', h28, h28']
        refine ⟨dOkK_sound (by kernel_rfl), ?_⟩
        refine hK31 _ ?_
        refine AW_cond (b := (!x11)) (by simp (maxSteps := 10000000) [go_sem, h7, h7', h7'', h13, h13', h13'', h28, h28']) (fun h34 => ?_) (fun h34 => ?_)
        · rw [if_pos h34] at hM
          have h34' := h34; try simp at h34'
          refine AW_seq fun K35 hK35 => ?_
          refine AW_region ?_
          simp (maxSteps := 10000000) [go_sem, h7, h7', h7'', h13, h13', h13'', h28, h28', h34, h34']
          refine hK35 _ ?_
          obtain rfl := Option.some.inj hM
          refine AW_ret ?_
          simp (maxSteps := 10000000) [go_sem, h7, h7', h7'', h13, h13', h13'', h28, h28', h34, h34']
        · rw [if_neg (ne_true h34)] at hM
          have h34' := h34; try simp at h34'
          refine AW_skip ?_
          refine hK30 _ ?_
          refine AW_seq fun K36 hK36 => ?_
          refine AW_seq fun K37 hK37 => ?_
          refine AW_into (σ' := ⟨102, [(2, .one (.l (.int .i64 a2))), (3, .one (.l (.int .i64 a3))), (4, .one (.box 4 0)), (5, .one (.box 5 0)), (10, .one (.own 1002176 x5.length)), (11, .one (.box 11 0)), (12, .one (.box 12 0)), (13, .one (.own 1002752 x8.length))], [(4, [.l (.sl (a0.cells.map TCell.c))]), (5, [.l (.sl (a1.values.map TValue.c)), .l (.sl (a1.tapes.map TTape.c)), .l (.int .i64 a1.steps)]), (11, [.own 1002304 x6.cells.length]), (12, [.own 1002432 x7.values.length, .own 1002433 x7.tapes.length, .l (.int .i64 x7.steps)])], [(1002176, some ⟨true, x5.map TOrigin.c⟩), (1002304, some ⟨true, x6.cells.map TCell.c⟩), (1002432, some ⟨true, x7.values.map TValue.c⟩), (1002433, some ⟨true, x7.tapes.map TTape.c⟩), (1002752, some ⟨true, x8.map TOrigin.c⟩)]⟩) (Lift.into (by constructor <;> simp [go_sem, h7, h7', h7'', h13, h13', h13'', h28, h28', h34, h34'])) ?_
          obtain ⟨x12, e38, hM⟩ := bind_some hM
          obtain ⟨x13, e39, hM⟩ := bind_some hM
          refine AW_open [[], [], [1], [0, 1, 2], [0, 1, 2, 3]] mixed (by kernel_rfl) ?_
          simp (maxSteps := 10000000) [go_sem, h7, h7', h7'', h13, h13', h13'', h28, h28', h34, h34']
          refine by_ctr true (w_toRun_ctr k a1 x12 e38) (by simp (maxSteps := 10000000) [go_sem, h7, h7', h7'', h13, h13', h13'', h28, h28', h34, h34']) (by simp) ?_
          simp (maxSteps := 10000000) [go_sem, h7, h7', h7'', h13, h13', h13'', h28, h28', h34, h34']
          refine by_ctr true (w_eqRun_ctr k x7 x12 x13 e39) (by simp (maxSteps := 10000000) [go_sem, h7, h7', h7'', h13, h13', h13'', h28, h28', h34, h34']) (by simp) ?_
          simp (maxSteps := 10000000) [go_sem, h7, h7', h7'', h13, h13', h13'', h28, h28', h34, h34']
          refine ⟨dOkK_sound (by kernel_rfl), ?_⟩
          refine hK37 _ ?_
          refine AW_cond (b := (!x13)) (by simp (maxSteps := 10000000) [go_sem, h7, h7', h7'', h13, h13', h13'', h28, h28', h34, h34']) (fun h40 => ?_) (fun h40 => ?_)
          · rw [if_pos h40] at hM
            have h40' := h40; try simp at h40'
            refine AW_seq fun K41 hK41 => ?_
            refine AW_region ?_
            simp (maxSteps := 10000000) [go_sem, h7, h7', h7'', h13, h13', h13'', h28, h28', h34, h34', h40, h40']
            refine hK41 _ ?_
            obtain rfl := Option.some.inj hM
            refine AW_ret ?_
            simp (maxSteps := 10000000) [go_sem, h7, h7', h7'', h13, h13', h13'', h28, h28', h34, h34', h40, h40']
          · rw [if_neg (ne_true h40)] at hM
            have h40' := h40; try simp at h40'
            refine AW_skip ?_
            refine hK36 _ ?_
            refine AW_seq fun K42 hK42 => ?_
            refine AW_region ?_
            simp (maxSteps := 10000000) [go_sem, h7, h7', h7'', h13, h13', h13'', h28, h28', h34, h34', h40, h40']
            refine hK42 _ ?_
            refine AW_seq fun K43 hK43 => ?_
            obtain ⟨x14, e44, hM⟩ := bind_some hM
            obtain ⟨q45, q46, q47, q48⟩ := wr_spec e44
            have l49 := TNotebook.markV_len e44
            refine AW_write hbad 2 ?_
            simp (maxSteps := 10000000) [go_sem, h7, h7', h7'', h13, h13', h13'', h28, h28', h34, h34', h40, h40', q47, q48, l49]
            refine by_wr (mk_Notebook e44) (by simp (maxSteps := 10000000) [go_sem, h7, h7', h7'', h13, h13', h13'', h28, h28', h34, h34', h40, h40', q47, q48, l49]) (by simp (maxSteps := 10000000) [go_sem, h7, h7', h7'', h13, h13', h13'', h28, h28', h34, h34', h40, h40', q47, q48, l49]) ?_
            simp (maxSteps := 10000000) [go_sem, h7, h7', h7'', h13, h13', h13'', h28, h28', h34, h34', h40, h40', q47, q48, l49]
            refine hK43 _ ?_
            refine AW_seq fun K50 hK50 => ?_
            obtain ⟨x15, e51, hM⟩ := bind_some hM
            obtain ⟨q52, q53, q54, q55⟩ := wr_spec e51
            have l56 := TRun.markV_len e51
            refine AW_write hbad 2 ?_
            simp (maxSteps := 10000000) [go_sem, h7, h7', h7'', h13, h13', h13'', h28, h28', h34, h34', h40, h40', q47, q48, l49, q54, q55, l56]
            refine by_wr (mk_Run e51) (by simp (maxSteps := 10000000) [go_sem, h7, h7', h7'', h13, h13', h13'', h28, h28', h34, h34', h40, h40', q47, q48, l49, q54, q55, l56]) (by simp (maxSteps := 10000000) [go_sem, h7, h7', h7'', h13, h13', h13'', h28, h28', h34, h34', h40, h40', q47, q48, l49, q54, q55, l56]) ?_
            simp (maxSteps := 10000000) [go_sem, h7, h7', h7'', h13, h13', h13'', h28, h28', h34, h34', h40, h40', q47, q48, l49, q54, q55, l56]
            refine hK50 _ ?_
            refine AW_seq fun K57 hK57 => ?_
            obtain ⟨e58, hU60, hR59⟩ := bind_some hM; clear hM
            refine AW_mid (ι := Bool) (fun i => ⟨102, [(2, .one (.l (.int .i64 a2))), (3, .one (.l (.int .i64 a3))), (4, .one (.box 4 0)), (5, .one (.box 5 0)), (10, .one (.own 1002176 x5.length)), (13, .one (.own 1002752 x8.length)), (71, .one (.l (.bool i)))], [(4, [.l (.sl (a0.cells.map TCell.c))]), (5, [.l (.sl (a1.values.map TValue.c)), .l (.sl (a1.tapes.map TTape.c)), .l (.int .i64 a1.steps)])], [(1002176, some ⟨true, x5.map TOrigin.c⟩), (1002752, some ⟨true, x8.map TOrigin.c⟩)]⟩) (fun i => i = e58) ?_ ?_
            · intro K61 hK61
              have hM := hU60; clear hU60
              by_cases h62 : (decide (x15.2 < 0)) = true
              · rw [if_pos h62] at hM
                have h62' := h62; try simp at h62'
                have h62'' : ¬ (0 ≤ x15.2) := by first | (have := h62; simp only [decide_eq_true_eq, decide_eq_false_iff_not, Bool.not_eq_true', Bool.not_eq_false', Bool.not_eq_true, Bool.not_eq_false] at this; omega) | (have := h62; simp at this; omega)
                refine AW_region ?_
                simp (maxSteps := 10000000) [go_sem, h7, h7', h7'', h13, h13', h13'', h28, h28', h34, h34', h40, h40', q47, q48, l49, q54, q55, l56, h62, h62', h62'']
                obtain rfl := Option.some.inj hM
                exact hK61 true _ rfl (Lift.into (by constructor <;> simp [go_sem, h7, h7', h7'', h13, h13', h13'', h28, h28', h34, h34', h40, h40', q47, q48, l49, q54, q55, l56, h62, h62', h62'']))
              · rw [if_neg h62] at hM
                have h62 := Bool.eq_false_iff.2 h62
                have h62' := h62; try simp at h62'
                have h62'' : ¬ (x15.2 < 0) := by first | (have := h62; simp only [decide_eq_true_eq, decide_eq_false_iff_not, Bool.not_eq_true', Bool.not_eq_false', Bool.not_eq_true, Bool.not_eq_false] at this; omega) | (have := h62; simp at this; omega)
                obtain ⟨x17, e63, hM⟩ := bind_some hM
                refine AW_region ?_
                simp (maxSteps := 10000000) [go_sem, h7, h7', h7'', h13, h13', h13'', h28, h28', h34, h34', h40, h40', q47, q48, l49, q54, q55, l56, h62, h62', h62'']
                refine by_ctr true (w_eqOriginS_ctr k x8 x5 x17 e63) (by simp (maxSteps := 10000000) [go_sem, h7, h7', h7'', h13, h13', h13'', h28, h28', h34, h34', h40, h40', q47, q48, l49, q54, q55, l56, h62, h62', h62'']) (by simp) ?_
                simp (maxSteps := 10000000) [go_sem, h7, h7', h7'', h13, h13', h13'', h28, h28', h34, h34', h40, h40', q47, q48, l49, q54, q55, l56, h62, h62', h62'']
                obtain rfl := Option.some.inj hM
                exact hK61 (!x17) _ rfl (Lift.into (by constructor <;> simp [go_sem, h7, h7', h7'', h13, h13', h13'', h28, h28', h34, h34', h40, h40', q47, q48, l49, q54, q55, l56, h62, h62', h62'']))
            · rintro x16 rfl
              have hM := hR59
              try dsimp only at hM
              refine AW_cond (b := x16) (by simp (maxSteps := 10000000) [go_sem, h7, h7', h7'', h13, h13', h13'', h28, h28', h34, h34', h40, h40', q47, q48, l49, q54, q55, l56]) (fun h64 => ?_) (fun h64 => ?_)
              · rw [if_pos h64] at hM
                have h64' := h64; try simp at h64'
                refine AW_seq fun K65 hK65 => ?_
                refine AW_region ?_
                simp (maxSteps := 10000000) [go_sem, h7, h7', h7'', h13, h13', h13'', h28, h28', h34, h34', h40, h40', q47, q48, l49, q54, q55, l56, h64, h64']
                refine hK65 _ ?_
                obtain rfl := Option.some.inj hM
                refine AW_ret ?_
                simp (maxSteps := 10000000) [go_sem, h7, h7', h7'', h13, h13', h13'', h28, h28', h34, h34', h40, h40', q47, q48, l49, q54, q55, l56, h64, h64']
              · rw [if_neg (ne_true h64)] at hM
                have h64' := h64; try simp at h64'
                refine AW_skip ?_
                refine hK57 _ ?_
                refine AW_seq fun K66 hK66 => ?_
                refine AW_region ?_
                simp (maxSteps := 10000000) [go_sem, h7, h7', h7'', h13, h13', h13'', h28, h28', h34, h34', h40, h40', q47, q48, l49, q54, q55, l56, h64, h64']
                refine hK66 _ ?_
                refine AW_seq fun K67 hK67 => ?_
                obtain ⟨x18, e68, hM⟩ := bind_some hM
                obtain ⟨q69, q70, q71, q72⟩ := wr_spec e68
                have l73 := TOrigin.markL_len e68
                refine AW_write hbad 2 ?_
                simp (maxSteps := 10000000) [go_sem, h7, h7', h7'', h13, h13', h13'', h28, h28', h34, h34', h40, h40', q47, q48, l49, q54, q55, l56, h64, h64', q71, q72, l73]
                refine by_wr (mk_OriginS e68) (by simp (maxSteps := 10000000) [go_sem, h7, h7', h7'', h13, h13', h13'', h28, h28', h34, h34', h40, h40', q47, q48, l49, q54, q55, l56, h64, h64', q71, q72, l73]) (by simp (maxSteps := 10000000) [go_sem, h7, h7', h7'', h13, h13', h13'', h28, h28', h34, h34', h40, h40', q47, q48, l49, q54, q55, l56, h64, h64', q71, q72, l73]) ?_
                simp (maxSteps := 10000000) [go_sem, h7, h7', h7'', h13, h13', h13'', h28, h28', h34, h34', h40, h40', q47, q48, l49, q54, q55, l56, h64, h64', q71, q72, l73]
                refine hK67 _ ?_
                refine AW_seq fun K74 hK74 => ?_
                refine AW_region ?_
                simp (maxSteps := 10000000) [go_sem, h7, h7', h7'', h13, h13', h13'', h28, h28', h34, h34', h40, h40', q47, q48, l49, q54, q55, l56, h64, h64', q71, q72, l73]
                refine hK74 _ ?_
                refine AW_seq fun K75 hK75 => ?_
                obtain ⟨x19, e76, hM⟩ := bind_some hM
                refine AW_region ?_
                simp (maxSteps := 10000000) [go_sem, h7, h7', h7'', h13, h13', h13'', h28, h28', h34, h34', h40, h40', q47, q48, l49, q54, q55, l56, h64, h64', q71, q72, l73]
                refine by_ctr true (hd_OriginS (k := 1) (ys := x18.1) e76 (by first | exact q69 | (rw [q69]; first | done | rfl))) (by simp (maxSteps := 10000000) [go_sem, h7, h7', h7'', h13, h13', h13'', h28, h28', h34, h34', h40, h40', q47, q48, l49, q54, q55, l56, h64, h64', q71, q72, l73]) (by simp) ?_
                simp (maxSteps := 10000000) [go_sem, h7, h7', h7'', h13, h13', h13'', h28, h28', h34, h34', h40, h40', q47, q48, l49, q54, q55, l56, h64, h64', q71, q72, l73]
                refine hK75 _ ?_
                refine AW_seq fun K77 hK77 => ?_
                refine AW_seq fun K78 hK78 => ?_
                refine AW_region ?_
                simp (maxSteps := 10000000) [go_sem, h7, h7', h7'', h13, h13', h13'', h28, h28', h34, h34', h40, h40', q47, q48, l49, q54, q55, l56, h64, h64', q71, q72, l73]
                refine hK78 _ ?_
                refine AW_cond (b := (decide (x19 < 0))) (by simp (maxSteps := 10000000) [go_sem, h7, h7', h7'', h13, h13', h13'', h28, h28', h34, h34', h40, h40', q47, q48, l49, q54, q55, l56, h64, h64', q71, q72, l73]) (fun h79 => ?_) (fun h79 => ?_)
                · rw [if_pos h79] at hM
                  have h79' := h79; try simp at h79'
                  have h79'' : ¬ (0 ≤ x19) := by first | (have := h79; simp only [decide_eq_true_eq, decide_eq_false_iff_not, Bool.not_eq_true', Bool.not_eq_false', Bool.not_eq_true, Bool.not_eq_false] at this; omega) | (have := h79; simp at this; omega)
                  refine AW_seq fun K80 hK80 => ?_
                  refine AW_region ?_
                  simp (maxSteps := 10000000) [go_sem, h7, h7', h7'', h13, h13', h13'', h28, h28', h34, h34', h40, h40', q47, q48, l49, q54, q55, l56, h64, h64', q71, q72, l73, h79, h79', h79'']
                  refine hK80 _ ?_
                  obtain rfl := Option.some.inj hM
                  refine AW_ret ?_
                  simp (maxSteps := 10000000) [go_sem, h7, h7', h7'', h13, h13', h13'', h28, h28', h34, h34', h40, h40', q47, q48, l49, q54, q55, l56, h64, h64', q71, q72, l73, h79, h79', h79'']
                · rw [if_neg (ne_true h79)] at hM
                  have h79' := h79; try simp at h79'
                  have h79'' : ¬ (x19 < 0) := by first | (have := h79; simp only [decide_eq_true_eq, decide_eq_false_iff_not, Bool.not_eq_true', Bool.not_eq_false', Bool.not_eq_true, Bool.not_eq_false] at this; omega) | (have := h79; simp at this; omega)
                  refine AW_skip ?_
                  refine hK77 _ ?_
                  refine AW_seq fun K81 hK81 => ?_
                  refine AW_seq fun K82 hK82 => ?_
                  refine AW_region ?_
                  simp (maxSteps := 10000000) [go_sem, h7, h7', h7'', h13, h13', h13'', h28, h28', h34, h34', h40, h40', q47, q48, l49, q54, q55, l56, h64, h64', q71, q72, l73, h79, h79', h79'']
                  refine hK82 _ ?_
                  refine AW_cond (b := (!decide (x19 = x18.2))) (by simp (maxSteps := 10000000) [go_sem, h7, h7', h7'', h13, h13', h13'', h28, h28', h34, h34', h40, h40', q47, q48, l49, q54, q55, l56, h64, h64', q71, q72, l73, h79, h79', h79'']) (fun h83 => ?_) (fun h83 => ?_)
                  · rw [if_pos h83] at hM
                    have h83' := h83; try simp at h83'
                    refine AW_seq fun K84 hK84 => ?_
                    refine AW_region ?_
                    simp (maxSteps := 10000000) [go_sem, h7, h7', h7'', h13, h13', h13'', h28, h28', h34, h34', h40, h40', q47, q48, l49, q54, q55, l56, h64, h64', q71, q72, l73, h79, h79', h79'', h83, h83']
                    refine hK84 _ ?_
                    obtain rfl := Option.some.inj hM
                    refine AW_ret ?_
                    simp (maxSteps := 10000000) [go_sem, h7, h7', h7'', h13, h13', h13'', h28, h28', h34, h34', h40, h40', q47, q48, l49, q54, q55, l56, h64, h64', q71, q72, l73, h79, h79', h79'', h83, h83']
                  · rw [if_neg (ne_true h83)] at hM
                    have h83' := h83; try simp at h83'
                    refine AW_skip ?_
                    refine hK81 _ ?_
                    refine AW_seq fun K85 hK85 => ?_
                    refine AW_into (σ' := ⟨102, [(2, .one (.l (.int .i64 a2))), (3, .one (.l (.int .i64 a3))), (4, .one (.box 4 0)), (5, .one (.box 5 0)), (10, .one (.own 1002176 x5.length)), (13, .one (.l (.sl (x18.1.map TOrigin.c)))), (15, .one (.l (.int .i64 x18.2)))], [(4, [.l (.sl (a0.cells.map TCell.c))]), (5, [.l (.sl (a1.values.map TValue.c)), .l (.sl (a1.tapes.map TTape.c)), .l (.int .i64 a1.steps)])], [(1002176, some ⟨true, x5.map TOrigin.c⟩)]⟩) (Lift.into (by constructor <;> simp [go_sem, h7, h7', h7'', h13, h13', h13'', h28, h28', h34, h34', h40, h40', q47, q48, l49, q54, q55, l56, h64, h64', q71, q72, l73, h79, h79', h79'', h83, h83'])) ?_
                    obtain ⟨x20, e86, hM⟩ := bind_some hM
                    obtain ⟨x21, e87, hM⟩ := bind_some hM
                    obtain ⟨x22, e88, hM⟩ := bind_some hM
                    refine AW_open [[], [0], [], [0, 1, 2], [], [], [0, 1, 2, 3, 4, 5], [0, 1, 2, 3, 4, 5, 6]] mixed (by kernel_rfl) ?_
                    simp (maxSteps := 10000000) [go_sem, h7, h7', h7'', h13, h13', h13'', h28, h28', h34, h34', h40, h40', q47, q48, l49, q54, q55, l56, h64, h64', q71, q72, l73, h79, h79', h79'', h83, h83']
                    refine by_ctr true (w_toNotebook_ctr k a0 x20 e86) (by simp (maxSteps := 10000000) [go_sem, h7, h7', h7'', h13, h13', h13'', h28, h28', h34, h34', h40, h40', q47, q48, l49, q54, q55, l56, h64, h64', q71, q72, l73, h79, h79', h79'', h83, h83']) (by simp) ?_
                    simp (maxSteps := 10000000) [go_sem, h7, h7', h7'', h13, h13', h13'', h28, h28', h34, h34', h40, h40', q47, q48, l49, q54, q55, l56, h64, h64', q71, q72, l73, h79, h79', h79'', h83, h83']
                    refine by_ctr true (w_toRun_ctr k a1 x21 e87) (by simp (maxSteps := 10000000) [go_sem, h7, h7', h7'', h13, h13', h13'', h28, h28', h34, h34', h40, h40', q47, q48, l49, q54, q55, l56, h64, h64', q71, q72, l73, h79, h79', h79'', h83, h83']) (by simp) ?_
                    simp (maxSteps := 10000000) [go_sem, h7, h7', h7'', h13, h13', h13'', h28, h28', h34, h34', h40, h40', q47, q48, l49, q54, q55, l56, h64, h64', q71, q72, l73, h79, h79', h79'', h83, h83']
                    refine by_ctr true (i_RowOrigins_ctr k x20 x21 a2 a3 x22 e88) (by simp (maxSteps := 10000000) [go_sem, h7, h7', h7'', h13, h13', h13'', h28, h28', h34, h34', h40, h40', q47, q48, l49, q54, q55, l56, h64, h64', q71, q72, l73, h79, h79', h79'', h83, h83']) (by simp) ?_
                    simp (maxSteps := 10000000) [go_sem, h7, h7', h7'', h13, h13', h13'', h28, h28', h34, h34', h40, h40', q47, q48, l49, q54, q55, l56, h64, h64', q71, q72, l73, h79, h79', h79'', h83, h83']
                    refine ⟨dOkK_sound (by kernel_rfl), ?_⟩
                    refine hK85 _ ?_
                    refine AW_seq fun K89 hK89 => ?_
                    refine AW_seq fun K90 hK90 => ?_
                    obtain ⟨x23, e91, hM⟩ := bind_some hM
                    refine AW_region ?_
                    simp (maxSteps := 10000000) [go_sem, h7, h7', h7'', h13, h13', h13'', h28, h28', h34, h34', h40, h40', q47, q48, l49, q54, q55, l56, h64, h64', q71, q72, l73, h79, h79', h79'', h83, h83']
                    refine by_ctr true (w_eqOriginS_ctr k x22 x5 x23 e91) (by simp (maxSteps := 10000000) [go_sem, h7, h7', h7'', h13, h13', h13'', h28, h28', h34, h34', h40, h40', q47, q48, l49, q54, q55, l56, h64, h64', q71, q72, l73, h79, h79', h79'', h83, h83']) (by simp) ?_
                    simp (maxSteps := 10000000) [go_sem, h7, h7', h7'', h13, h13', h13'', h28, h28', h34, h34', h40, h40', q47, q48, l49, q54, q55, l56, h64, h64', q71, q72, l73, h79, h79', h79'', h83, h83']
                    refine hK90 _ ?_
                    refine AW_cond (b := (!x23)) (by simp (maxSteps := 10000000) [go_sem, h7, h7', h7'', h13, h13', h13'', h28, h28', h34, h34', h40, h40', q47, q48, l49, q54, q55, l56, h64, h64', q71, q72, l73, h79, h79', h79'', h83, h83']) (fun h92 => ?_) (fun h92 => ?_)
                    · rw [if_pos h92] at hM
                      have h92' := h92; try simp at h92'
                      refine AW_seq fun K93 hK93 => ?_
                      refine AW_region ?_
                      simp (maxSteps := 10000000) [go_sem, h7, h7', h7'', h13, h13', h13'', h28, h28', h34, h34', h40, h40', q47, q48, l49, q54, q55, l56, h64, h64', q71, q72, l73, h79, h79', h79'', h83, h83', h92, h92']
                      refine hK93 _ ?_
                      obtain rfl := Option.some.inj hM
                      refine AW_ret ?_
                      simp (maxSteps := 10000000) [go_sem, h7, h7', h7'', h13, h13', h13'', h28, h28', h34, h34', h40, h40', q47, q48, l49, q54, q55, l56, h64, h64', q71, q72, l73, h79, h79', h79'', h83, h83', h92, h92']
                    · rw [if_neg (ne_true h92)] at hM
                      have h92' := h92; try simp at h92'
                      refine AW_skip ?_
                      refine hK89 _ ?_
                      refine AW_seq fun K94 hK94 => ?_
                      refine AW_region ?_
                      simp (maxSteps := 10000000) [go_sem, h7, h7', h7'', h13, h13', h13'', h28, h28', h34, h34', h40, h40', q47, q48, l49, q54, q55, l56, h64, h64', q71, q72, l73, h79, h79', h79'', h83, h83', h92, h92']
                      refine hK94 _ ?_
                      refine AW_seq fun K95 hK95 => ?_
                      obtain ⟨x24, e96, hM⟩ := bind_some hM
                      refine AW_region ?_
                      simp (maxSteps := 10000000) [go_sem, h7, h7', h7'', h13, h13', h13'', h28, h28', h34, h34', h40, h40', q47, q48, l49, q54, q55, l56, h64, h64', q71, q72, l73, h79, h79', h79'', h83, h83', h92, h92']
                      refine by_ctr true (hd_OriginS (k := 1) (ys := x18.1) e96 (by first | exact q69 | (rw [q69]; first | done | rfl))) (by simp (maxSteps := 10000000) [go_sem, h7, h7', h7'', h13, h13', h13'', h28, h28', h34, h34', h40, h40', q47, q48, l49, q54, q55, l56, h64, h64', q71, q72, l73, h79, h79', h79'', h83, h83', h92, h92']) (by simp) ?_
                      simp (maxSteps := 10000000) [go_sem, h7, h7', h7'', h13, h13', h13'', h28, h28', h34, h34', h40, h40', q47, q48, l49, q54, q55, l56, h64, h64', q71, q72, l73, h79, h79', h79'', h83, h83', h92, h92']
                      refine hK95 _ ?_
                      refine AW_seq fun K97 hK97 => ?_
                      refine AW_seq fun K98 hK98 => ?_
                      refine AW_region ?_
                      simp (maxSteps := 10000000) [go_sem, h7, h7', h7'', h13, h13', h13'', h28, h28', h34, h34', h40, h40', q47, q48, l49, q54, q55, l56, h64, h64', q71, q72, l73, h79, h79', h79'', h83, h83', h92, h92']
                      refine hK98 _ ?_
                      refine AW_cond (b := (decide (x24 < 0))) (by simp (maxSteps := 10000000) [go_sem, h7, h7', h7'', h13, h13', h13'', h28, h28', h34, h34', h40, h40', q47, q48, l49, q54, q55, l56, h64, h64', q71, q72, l73, h79, h79', h79'', h83, h83', h92, h92']) (fun h99 => ?_) (fun h99 => ?_)
                      · rw [if_pos h99] at hM
                        have h99' := h99; try simp at h99'
                        have h99'' : ¬ (0 ≤ x24) := by first | (have := h99; simp only [decide_eq_true_eq, decide_eq_false_iff_not, Bool.not_eq_true', Bool.not_eq_false', Bool.not_eq_true, Bool.not_eq_false] at this; omega) | (have := h99; simp at this; omega)
                        refine AW_seq fun K100 hK100 => ?_
                        refine AW_region ?_
                        simp (maxSteps := 10000000) [go_sem, h7, h7', h7'', h13, h13', h13'', h28, h28', h34, h34', h40, h40', q47, q48, l49, q54, q55, l56, h64, h64', q71, q72, l73, h79, h79', h79'', h83, h83', h92, h92', h99, h99', h99'']
                        refine hK100 _ ?_
                        obtain rfl := Option.some.inj hM
                        refine AW_ret ?_
                        simp (maxSteps := 10000000) [go_sem, h7, h7', h7'', h13, h13', h13'', h28, h28', h34, h34', h40, h40', q47, q48, l49, q54, q55, l56, h64, h64', q71, q72, l73, h79, h79', h79'', h83, h83', h92, h92', h99, h99', h99'']
                      · rw [if_neg (ne_true h99)] at hM
                        have h99' := h99; try simp at h99'
                        have h99'' : ¬ (x24 < 0) := by first | (have := h99; simp only [decide_eq_true_eq, decide_eq_false_iff_not, Bool.not_eq_true', Bool.not_eq_false', Bool.not_eq_true, Bool.not_eq_false] at this; omega) | (have := h99; simp at this; omega)
                        refine AW_skip ?_
                        refine hK97 _ ?_
                        refine AW_seq fun K101 hK101 => ?_
                        refine AW_seq fun K102 hK102 => ?_
                        refine AW_region ?_
                        simp (maxSteps := 10000000) [go_sem, h7, h7', h7'', h13, h13', h13'', h28, h28', h34, h34', h40, h40', q47, q48, l49, q54, q55, l56, h64, h64', q71, q72, l73, h79, h79', h79'', h83, h83', h92, h92', h99, h99', h99'']
                        refine hK102 _ ?_
                        refine AW_cond (b := (!decide (x24 = x18.2))) (by simp (maxSteps := 10000000) [go_sem, h7, h7', h7'', h13, h13', h13'', h28, h28', h34, h34', h40, h40', q47, q48, l49, q54, q55, l56, h64, h64', q71, q72, l73, h79, h79', h79'', h83, h83', h92, h92', h99, h99', h99'']) (fun h103 => ?_) (fun h103 => ?_)
                        · rw [if_pos h103] at hM
                          have h103' := h103; try simp at h103'
                          refine AW_seq fun K104 hK104 => ?_
                          refine AW_region ?_
                          simp (maxSteps := 10000000) [go_sem, h7, h7', h7'', h13, h13', h13'', h28, h28', h34, h34', h40, h40', q47, q48, l49, q54, q55, l56, h64, h64', q71, q72, l73, h79, h79', h79'', h83, h83', h92, h92', h99, h99', h99'', h103, h103']
                          refine hK104 _ ?_
                          obtain rfl := Option.some.inj hM
                          refine AW_ret ?_
                          simp (maxSteps := 10000000) [go_sem, h7, h7', h7'', h13, h13', h13'', h28, h28', h34, h34', h40, h40', q47, q48, l49, q54, q55, l56, h64, h64', q71, q72, l73, h79, h79', h79'', h83, h83', h92, h92', h99, h99', h99'', h103, h103']
                        · rw [if_neg (ne_true h103)] at hM
                          have h103' := h103; try simp at h103'
                          refine AW_skip ?_
                          refine hK101 _ ?_
                          refine AW_seq fun K105 hK105 => ?_
                          refine AW_region ?_
                          simp (maxSteps := 10000000) [go_sem, h7, h7', h7'', h13, h13', h13'', h28, h28', h34, h34', h40, h40', q47, q48, l49, q54, q55, l56, h64, h64', q71, q72, l73, h79, h79', h79'', h83, h83', h92, h92', h99, h99', h99'', h103, h103']
                          refine hK105 _ ?_
                          obtain rfl := Option.some.inj hM
                          refine AW_ret ?_
                          simp (maxSteps := 10000000) [go_sem, h7, h7', h7'', h13, h13', h13'', h28, h28', h34, h34', h40, h40', q47, q48, l49, q54, q55, l56, h64, h64', q71, q72, l73, h79, h79', h79'', h83, h83', h92, h92', h99, h99', h99'', h103, h103']
end Go.Proofs.Ytmiboaogfjgkjaa
