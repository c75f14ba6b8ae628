/- The law FnExactAdvanceWorld: its mirrored function, and its contract. Written by a program of mine. -/
import Derived.Test.YtmiboaogfjgkjaaGreatMkC
import Derived.Test.YtmiboaogfjgkjaaGreatWn
import Derived.Test.YtmiboaogfjgkjaaGreatCt1
import Derived.Test.YtmiboaogfjgkjaaGreatCt2
import Derived.Test.YtmiboaogfjgkjaaGreatCtA0
import Derived.Test.YtmiboaogfjgkjaaGreatCtA1
import Derived.Test.YtmiboaogfjgkjaaGreatCtA2
import Derived.Test.YtmiboaogfjgkjaaGreatCtA3
import Derived.Test.YtmiboaogfjgkjaaGreatCtA4
set_option linter.unusedSimpArgs false
set_option linter.unusedVariables false
namespace Go.Proofs.YtmiboaogfjgkjaaGreat
open Go.RowKit Am

def w_FnExactAdvanceWorld (k : Nat) (a0 : TEngine) (a1 : TWorld) : Option Bool :=
  (w_szEngine k a0 1048576).bind fun x1 =>
  if (decide (x1 < 0)) then
    some true
  else
    (w_szWorld k a1 x1).bind fun x2 =>
    if (decide (x2 < 0)) then
      some true
    else
      (w_toEngine k a0).bind fun x3 =>
      (w_toWorld k a1).bind fun x4 =>
      (s_AdvanceWorld k x3 x4).bind fun x5 =>
      (w_toEngine k a0).bind fun x6 =>
      (w_toWorld k a1).bind fun x7 =>
      (i_AdvanceWorld k x6 x7).bind fun x8 =>
      ((w_eqEngine k x8.1 x5.1).bind fun x10 =>
      if (!x10) then
        some true
      else
        some (!(x8.2 == x5.2))).bind fun x9 =>
      if x9 then
        some false
      else
        (w_toEngine k a0).bind fun x11 =>
        (w_eqEngine k x6 x11).bind fun x12 =>
        if (!x12) then
          some false
        else
          (w_toWorld k a1).bind fun x13 =>
          (w_eqWorld k x7 x13).bind fun x14 =>
          if (!x14) then
            some false
          else
            (wr? TEngine.markV TEngine.cnV 1 x6).bind fun x15 =>
            (wr? TWorld.markV TWorld.cnV x15.2 x7).bind fun x16 =>
            (if (decide (x16.2 < 0)) then
              some true
            else
              (w_eqEngine k x8.1 x5.1).bind fun x18 =>
              if (!x18) then
                some true
              else
                some (!(x8.2 == x5.2))).bind fun x17 =>
            if x17 then
              some false
            else
              (wr? TEngine.markV TEngine.cnV 1 x8.1).bind fun x19 =>
              (hd? 1 (TEngine.cnV x8.1)).bind fun x20 =>
              if (decide (x20 < 0)) then
                some false
              else
                if (!decide (x20 = x19.2)) then
                  some false
                else
                  (w_toEngine k a0).bind fun x21 =>
                  (w_toWorld k a1).bind fun x22 =>
                  (i_AdvanceWorld k x21 x22).bind fun x23 =>
                  ((w_eqEngine k x23.1 x5.1).bind fun x25 =>
                  if (!x25) then
                    some true
                  else
                    some (!(x23.2 == x5.2))).bind fun x24 =>
                  if x24 then
                    some false
                  else
                    (hd? 1 (TEngine.cnV x8.1)).bind fun x26 =>
                    if (decide (x26 < 0)) then
                      some false
                    else
                      if (!decide (x26 = x19.2)) then
                        some false
                      else
                        some true
set_option maxHeartbeats 4000000 in
set_option maxRecDepth 100000 in
theorem w_FnExactAdvanceWorld_ctr (k : Nat) (a0 : TEngine) (a1 : TWorld) (r : Bool) (hM : w_FnExactAdvanceWorld k a0 a1 = some r) : Ctr Tryz.prog 3 [.agg (TEngine.c a0), .agg (TWorld.c a1)] true [.one (.bool r)] := by
  unfold w_FnExactAdvanceWorld at hM
  refine Ctr.of_walk (by kernel_rfl) Tryz.func3 rfl Tryz.ntmps3 Tryz.results3 (by simp) ?_; intro N w0 hbad
  refine AW_seq fun K1 hK1 => ?_
  refine AW_region ?_
  simp (maxSteps := 10000000) [go_sem]
  refine hK1 _ ?_
  refine AW_seq fun K2 hK2 => ?_
  refine AW_region ?_
  simp (maxSteps := 10000000) [go_sem]
  refine hK2 _ ?_
  refine AW_seq fun K3 hK3 => ?_
  obtain ⟨x1, e4, hM⟩ := bind_some hM
  refine AW_region ?_
  simp (maxSteps := 10000000) [go_sem]
  refine by_ctr true (w_szEngine_ctr k a0 1048576 x1 e4) (by simp (maxSteps := 10000000) [go_sem]) (by simp) ?_
  simp (maxSteps := 10000000) [go_sem]
  refine hK3 _ ?_
  refine AW_seq fun K5 hK5 => ?_
  refine AW_seq fun K6 hK6 => ?_
  refine AW_region ?_
  simp (maxSteps := 10000000) [go_sem]
  refine hK6 _ ?_
  refine AW_cond (b := (decide (x1 < 0))) (by simp (maxSteps := 10000000) [go_sem]) (fun h7 => ?_) (fun h7 => ?_)
  · rw [if_pos h7] at hM
    have h7' := h7; try simp at h7'
    have h7'' : ¬ (0 ≤ x1) := by first | (have := h7; simp only [decide_eq_true_eq, decide_eq_false_iff_not, Bool.not_eq_true', Bool.not_eq_false', Bool.not_eq_true, Bool.not_eq_false] at this; omega) | (have := h7; simp at this; omega)
    refine AW_seq fun K8 hK8 => ?_
    refine AW_region ?_
    simp (maxSteps := 10000000) [go_sem, h7, h7', h7'']
    refine hK8 _ ?_
    obtain rfl := Option.some.inj hM
    refine AW_ret ?_
    simp (maxSteps := 10000000) [go_sem, h7, h7', h7'']
  · rw [if_neg (ne_true h7)] at hM
    have h7' := h7; try simp at h7'
    have h7'' : ¬ (x1 < 0) := by first | (have := h7; simp only [decide_eq_true_eq, decide_eq_false_iff_not, Bool.not_eq_true', Bool.not_eq_false', Bool.not_eq_true, Bool.not_eq_false] at this; omega) | (have := h7; simp at this; omega)
    refine AW_skip ?_
    refine hK5 _ ?_
    refine AW_seq fun K9 hK9 => ?_
    obtain ⟨x2, e10, hM⟩ := bind_some hM
    refine AW_region ?_
    simp (maxSteps := 10000000) [go_sem, h7, h7', h7'']
    refine by_ctr true (w_szWorld_ctr k a1 x1 x2 e10) (by simp (maxSteps := 10000000) [go_sem, h7, h7', h7'']) (by simp) ?_
    simp (maxSteps := 10000000) [go_sem, h7, h7', h7'']
    refine hK9 _ ?_
    refine AW_seq fun K11 hK11 => ?_
    refine AW_seq fun K12 hK12 => ?_
    refine AW_region ?_
    simp (maxSteps := 10000000) [go_sem, h7, h7', h7'']
    refine hK12 _ ?_
    refine AW_cond (b := (decide (x2 < 0))) (by simp (maxSteps := 10000000) [go_sem, h7, h7', h7'']) (fun h13 => ?_) (fun h13 => ?_)
    · rw [if_pos h13] at hM
      have h13' := h13; try simp at h13'
      have h13'' : ¬ (0 ≤ x2) := by first | (have := h13; simp only [decide_eq_true_eq, decide_eq_false_iff_not, Bool.not_eq_true', Bool.not_eq_false', Bool.not_eq_true, Bool.not_eq_false] at this; omega) | (have := h13; simp at this; omega)
      refine AW_seq fun K14 hK14 => ?_
      refine AW_region ?_
      simp (maxSteps := 10000000) [go_sem, h7, h7', h7'', h13, h13', h13'']
      refine hK14 _ ?_
      obtain rfl := Option.some.inj hM
      refine AW_ret ?_
      simp (maxSteps := 10000000) [go_sem, h7, h7', h7'', h13, h13', h13'']
    · rw [if_neg (ne_true h13)] at hM
      have h13' := h13; try simp at h13'
      have h13'' : ¬ (x2 < 0) := by first | (have := h13; simp only [decide_eq_true_eq, decide_eq_false_iff_not, Bool.not_eq_true', Bool.not_eq_false', Bool.not_eq_true, Bool.not_eq_false] at this; omega) | (have := h13; simp at this; omega)
      refine AW_skip ?_
      refine hK11 _ ?_
      refine AW_seq fun K15 hK15 => ?_
      refine AW_into (σ' := ⟨119, [(2, .one (.box 2 0)), (3, .one (.box 3 0))], [(2, [.l (.sl (a0.notebook.cells.map TCell.c)), .l (.int .i64 a0.world.clock), .l (.int .i64 a0.world.seed), .l (.sl (a0.world.files.map TFile.c)), .l (.sl (a0.tapes.map TTape.c)), .l (.sl (a0.entries.map TEntry.c)), .l (.int .i64 a0.next), .l (.int .i64 a0.limit), .l (.int .i64 a0.work)]), (3, [.l (.int .i64 a1.clock), .l (.int .i64 a1.seed), .l (.sl (a1.files.map TFile.c))])], []⟩) (Lift.into (by constructor <;> simp [go_sem, h7, h7', h7'', h13, h13', h13''])) ?_
      obtain ⟨x3, e16, hM⟩ := bind_some hM
      obtain ⟨x4, e17, hM⟩ := bind_some hM
      obtain ⟨x5, e18, hM⟩ := bind_some hM
      refine AW_open [[], [0], [], [0, 1, 2], [0, 1, 2, 3], [0, 1, 2, 3, 4], [0, 1, 2, 3, 4, 5], [0, 1, 2, 3, 4, 5], [], [0, 1, 2, 3, 4, 5, 6, 8], [0, 1, 2, 3, 4, 5, 6, 7, 8, 9]] mixed (by kernel_rfl) ?_
      simp (maxSteps := 10000000) [go_sem, h7, h7', h7'', h13, h13', h13'']
      refine by_ctr true (w_toEngine_ctr k a0 x3 e16) (by simp (maxSteps := 10000000) [go_sem, h7, h7', h7'', h13, h13', h13'']) (by simp) ?_
      simp (maxSteps := 10000000) [go_sem, h7, h7', h7'', h13, h13', h13'']
      refine by_ctr true (w_toWorld_ctr k a1 x4 e17) (by simp (maxSteps := 10000000) [go_sem, h7, h7', h7'', h13, h13', h13'']) (by simp) ?_
      simp (maxSteps := 10000000) [go_sem, h7, h7', h7'', h13, h13', h13'']
      refine by_ctr true (s_AdvanceWorld_ctr k x3 x4 x5 e18) (by simp (maxSteps := 10000000) [go_sem, h7, h7', h7'', h13, h13', h13'']) (by simp) ?_
      simp (maxSteps := 10000000) [go_sem, h7, h7', h7'', h13, h13', h13'']
      refine ⟨dOkK_sound (by kernel_rfl), ?_⟩
      refine hK15 _ ?_
      refine AW_seq fun K19 hK19 => ?_
      obtain ⟨x6, e20, hM⟩ := bind_some hM
      refine AW_region ?_
      simp (maxSteps := 10000000) [go_sem, h7, h7', h7'', h13, h13', h13'']
      refine by_ctr true (w_toEngine_ctr k a0 x6 e20) (by simp (maxSteps := 10000000) [go_sem, h7, h7', h7'', h13, h13', h13'']) (by simp) ?_
      simp (maxSteps := 10000000) [go_sem, h7, h7', h7'', h13, h13', h13'']
      refine hK19 _ ?_
      refine AW_seq fun K21 hK21 => ?_
      obtain ⟨x7, e22, hM⟩ := bind_some hM
      refine AW_region ?_
      simp (maxSteps := 10000000) [go_sem, h7, h7', h7'', h13, h13', h13'']
      refine by_ctr true (w_toWorld_ctr k a1 x7 e22) (by simp (maxSteps := 10000000) [go_sem, h7, h7', h7'', h13, h13', h13'']) (by simp) ?_
      simp (maxSteps := 10000000) [go_sem, h7, h7', h7'', h13, h13', h13'']
      refine hK21 _ ?_
      refine AW_seq fun K23 hK23 => ?_
      obtain ⟨x8, e24, hM⟩ := bind_some hM
      refine AW_region ?_
      simp (maxSteps := 10000000) [go_sem, h7, h7', h7'', h13, h13', h13'']
      refine by_ctr true (i_AdvanceWorld_ctr k x6 x7 x8 e24) (by simp (maxSteps := 10000000) [go_sem, h7, h7', h7'', h13, h13', h13'']) (by simp) ?_
      simp (maxSteps := 10000000) [go_sem, h7, h7', h7'', h13, h13', h13'']
      refine hK23 _ ?_
      refine AW_seq fun K25 hK25 => ?_
      obtain ⟨e26, hU28, hR27⟩ := bind_some hM; clear hM
      refine AW_mid (ι := Bool) (fun i => ⟨119, [(2, .one (.box 2 0)), (3, .one (.box 3 0)), (6, .one (.box 6 0)), (7, .one (.l (.bool x5.2))), (8, .one (.box 8 0)), (9, .one (.box 9 0)), (10, .one (.box 10 0)), (11, .one (.l (.bool x8.2))), (53, .one (.l (.bool i)))], [(2, [.l (.sl (a0.notebook.cells.map TCell.c)), .l (.int .i64 a0.world.clock), .l (.int .i64 a0.world.seed), .l (.sl (a0.world.files.map TFile.c)), .l (.sl (a0.tapes.map TTape.c)), .l (.sl (a0.entries.map TEntry.c)), .l (.int .i64 a0.next), .l (.int .i64 a0.limit), .l (.int .i64 a0.work)]), (3, [.l (.int .i64 a1.clock), .l (.int .i64 a1.seed), .l (.sl (a1.files.map TFile.c))]), (6, [.own 1002048 x5.1.notebook.cells.length, .l (.int .i64 x5.1.world.clock), .l (.int .i64 x5.1.world.seed), .own 1002049 x5.1.world.files.length, .own 1002050 x5.1.tapes.length, .own 1002051 x5.1.entries.length, .l (.int .i64 x5.1.next), .l (.int .i64 x5.1.limit), .l (.int .i64 x5.1.work)]), (8, [.own 1002304 x6.notebook.cells.length, .l (.int .i64 x6.world.clock), .l (.int .i64 x6.world.seed), .own 1002305 x6.world.files.length, .own 1002306 x6.tapes.length, .own 1002307 x6.entries.length, .l (.int .i64 x6.next), .l (.int .i64 x6.limit), .l (.int .i64 x6.work)]), (9, [.l (.int .i64 x7.clock), .l (.int .i64 x7.seed), .own 1002432 x7.files.length]), (10, [.own 1002688 x8.1.notebook.cells.length, .l (.int .i64 x8.1.world.clock), .l (.int .i64 x8.1.world.seed), .own 1002689 x8.1.world.files.length, .own 1002690 x8.1.tapes.length, .own 1002691 x8.1.entries.length, .l (.int .i64 x8.1.next), .l (.int .i64 x8.1.limit), .l (.int .i64 x8.1.work)])], [(1002048, some ⟨true, x5.1.notebook.cells.map TCell.c⟩), (1002049, some ⟨true, x5.1.world.files.map TFile.c⟩), (1002050, some ⟨true, x5.1.tapes.map TTape.c⟩), (1002051, some ⟨true, x5.1.entries.map TEntry.c⟩), (1002304, some ⟨true, x6.notebook.cells.map TCell.c⟩), (1002305, some ⟨true, x6.world.files.map TFile.c⟩), (1002306, some ⟨true, x6.tapes.map TTape.c⟩), (1002307, some ⟨true, x6.entries.map TEntry.c⟩), (1002432, some ⟨true, x7.files.map TFile.c⟩), (1002688, some ⟨true, x8.1.notebook.cells.map TCell.c⟩), (1002689, some ⟨true, x8.1.world.files.map TFile.c⟩), (1002690, some ⟨true, x8.1.tapes.map TTape.c⟩), (1002691, some ⟨true, x8.1.entries.map TEntry.c⟩)]⟩) (fun i => i = e26) ?_ ?_
      · intro K29 hK29
        have hM := hU28; clear hU28
        obtain ⟨x10, e30, hM⟩ := bind_some hM
        by_cases h31 : (!x10) = true
        · rw [if_pos h31] at hM
          have h31' := h31; try simp at h31'
          refine AW_region ?_
          simp (maxSteps := 10000000) [go_sem, h7, h7', h7'', h13, h13', h13'', h31, h31']
          refine by_ctr true (w_eqEngine_ctr k x8.1 x5.1 x10 e30) (by simp (maxSteps := 10000000) [go_sem, h7, h7', h7'', h13, h13', h13'', h31, h31']) (by simp) ?_
          simp (maxSteps := 10000000) [go_sem, h7, h7', h7'', h13, h13', h13'', h31, h31']
          obtain rfl := Option.some.inj hM
          exact hK29 true _ rfl (Lift.into (by constructor <;> simp [go_sem, h7, h7', h7'', h13, h13', h13'', h31, h31']))
        · rw [if_neg h31] at hM
          have h31 := Bool.eq_false_iff.2 h31
          have h31' := h31; try simp at h31'
          refine AW_region ?_
          simp (maxSteps := 10000000) [go_sem, h7, h7', h7'', h13, h13', h13'', h31, h31']
          refine by_ctr true (w_eqEngine_ctr k x8.1 x5.1 x10 e30) (by simp (maxSteps := 10000000) [go_sem, h7, h7', h7'', h13, h13', h13'', h31, h31']) (by simp) ?_
          simp (maxSteps := 10000000) [go_sem, h7, h7', h7'', h13, h13', h13'', h31, h31']
          obtain rfl := Option.some.inj hM
          exact hK29 (!(x8.2 == x5.2)) _ rfl (Lift.into (by constructor <;> simp [go_sem, h7, h7', h7'', h13, h13', h13'', h31, h31']))
      · rintro x9 rfl
        have hM := hR27
        try dsimp only at hM
        refine AW_cond (b := x9) (by simp (maxSteps := 10000000) [go_sem, h7, h7', h7'', h13, h13', h13'']) (fun h32 => ?_) (fun h32 => ?_)
        · rw [if_pos h32] at hM
          have h32' := h32; try simp at h32'
          refine AW_seq fun K33 hK33 => ?_
          refine AW_region ?_
          simp (maxSteps := 10000000) [go_sem, h7, h7', h7'', h13, h13', h13'', h32, h32']
          refine hK33 _ ?_
          obtain rfl := Option.some.inj hM
          refine AW_ret ?_
          simp (maxSteps := 10000000) [go_sem, h7, h7', h7'', h13, h13', h13'', h32, h32']
        · rw [if_neg (ne_true h32)] at hM
          have h32' := h32; try simp at h32'
          refine AW_skip ?_
          refine hK25 _ ?_
          refine AW_seq fun K34 hK34 => ?_
          refine AW_seq fun K35 hK35 => ?_
          refine AW_into (σ' := ⟨119, [(2, .one (.box 2 0)), (3, .one (.box 3 0)), (6, .one (.box 6 0)), (7, .one (.l (.bool x5.2))), (8, .one (.box 8 0)), (9, .one (.box 9 0)), (10, .one (.box 10 0)), (11, .one (.l (.bool x8.2)))], [(2, [.l (.sl (a0.notebook.cells.map TCell.c)), .l (.int .i64 a0.world.clock), .l (.int .i64 a0.world.seed), .l (.sl (a0.world.files.map TFile.c)), .l (.sl (a0.tapes.map TTape.c)), .l (.sl (a0.entries.map TEntry.c)), .l (.int .i64 a0.next), .l (.int .i64 a0.limit), .l (.int .i64 a0.work)]), (3, [.l (.int .i64 a1.clock), .l (.int .i64 a1.seed), .l (.sl (a1.files.map TFile.c))]), (6, [.own 1002048 x5.1.notebook.cells.length, .l (.int .i64 x5.1.world.clock), .l (.int .i64 x5.1.world.seed), .own 1002049 x5.1.world.files.length, .own 1002050 x5.1.tapes.length, .own 1002051 x5.1.entries.length, .l (.int .i64 x5.1.next), .l (.int .i64 x5.1.limit), .l (.int .i64 x5.1.work)]), (8, [.own 1002304 x6.notebook.cells.length, .l (.int .i64 x6.world.clock), .l (.int .i64 x6.world.seed), .own 1002305 x6.world.files.length, .own 1002306 x6.tapes.length, .own 1002307 x6.entries.length, .l (.int .i64 x6.next), .l (.int .i64 x6.limit), .l (.int .i64 x6.work)]), (9, [.l (.int .i64 x7.clock), .l (.int .i64 x7.seed), .own 1002432 x7.files.length]), (10, [.own 1002688 x8.1.notebook.cells.length, .l (.int .i64 x8.1.world.clock), .l (.int .i64 x8.1.world.seed), .own 1002689 x8.1.world.files.length, .own 1002690 x8.1.tapes.length, .own 1002691 x8.1.entries.length, .l (.int .i64 x8.1.next), .l (.int .i64 x8.1.limit), .l (.int .i64 x8.1.work)])], [(1002048, some ⟨true, x5.1.notebook.cells.map TCell.c⟩), (1002049, some ⟨true, x5.1.world.files.map TFile.c⟩), (1002050, some ⟨true, x5.1.tapes.map TTape.c⟩), (1002051, some ⟨true, x5.1.entries.map TEntry.c⟩), (1002304, some ⟨true, x6.notebook.cells.map TCell.c⟩), (1002305, some ⟨true, x6.world.files.map TFile.c⟩), (1002306, some ⟨true, x6.tapes.map TTape.c⟩), (1002307, some ⟨true, x6.entries.map TEntry.c⟩), (1002432, some ⟨true, x7.files.map TFile.c⟩), (1002688, some ⟨true, x8.1.notebook.cells.map TCell.c⟩), (1002689, some ⟨true, x8.1.world.files.map TFile.c⟩), (1002690, some ⟨true, x8.1.tapes.map TTape.c⟩), (1002691, some ⟨true, x8.1.entries.map TEntry.c⟩)]⟩) (Lift.into (by constructor <;> simp [go_sem, h7, h7', h7'', h13, h13', h13'', h32, h32'])) ?_
          obtain ⟨x11, e36, hM⟩ := bind_some hM
          obtain ⟨x12, e37, hM⟩ := bind_some hM
          refine AW_open [[], [], [1], [0, 1, 2], [0, 1, 2, 3]] mixed (by kernel_rfl) ?_
          simp (maxSteps := 10000000) [go_sem, h7, h7', h7'', h13, h13', h13'', h32, h32']
          refine by_ctr true (w_toEngine_ctr k a0 x11 e36) (by simp (maxSteps := 10000000) [go_sem, h7, h7', h7'', h13, h13', h13'', h32, h32']) (by simp) ?_
          simp (maxSteps := 10000000) [go_sem, h7, h7', h7'', h13, h13', h13'', h32, h32']
          refine by_ctr true (w_eqEngine_ctr k x6 x11 x12 e37) (by simp (maxSteps := 10000000) [go_sem, h7, h7', h7'', h13, h13', h13'', h32, h32']) (by simp) ?_
          simp (maxSteps := 10000000) [go_sem, h7, h7', h7'', h13, h13', h13'', h32, h32']
          refine ⟨dOkK_sound (by kernel_rfl), ?_⟩
          refine hK35 _ ?_
          refine AW_cond (b := (!x12)) (by simp (maxSteps := 10000000) [go_sem, h7, h7', h7'', h13, h13', h13'', h32, h32']) (fun h38 => ?_) (fun h38 => ?_)
          · rw [if_pos h38] at hM
            have h38' := h38; try simp at h38'
            refine AW_seq fun K39 hK39 => ?_
            refine AW_region ?_
            simp (maxSteps := 10000000) [go_sem, h7, h7', h7'', h13, h13', h13'', h32, h32', h38, h38']
            refine hK39 _ ?_
            obtain rfl := Option.some.inj hM
            refine AW_ret ?_
            simp (maxSteps := 10000000) [go_sem, h7, h7', h7'', h13, h13', h13'', h32, h32', h38, h38']
          · rw [if_neg (ne_true h38)] at hM
            have h38' := h38; try simp at h38'
            refine AW_skip ?_
            refine hK34 _ ?_
            refine AW_seq fun K40 hK40 => ?_
            refine AW_seq fun K41 hK41 => ?_
            refine AW_into (σ' := ⟨119, [(2, .one (.box 2 0)), (3, .one (.box 3 0)), (6, .one (.box 6 0)), (7, .one (.l (.bool x5.2))), (8, .one (.box 8 0)), (9, .one (.box 9 0)), (10, .one (.box 10 0)), (11, .one (.l (.bool x8.2)))], [(2, [.l (.sl (a0.notebook.cells.map TCell.c)), .l (.int .i64 a0.world.clock), .l (.int .i64 a0.world.seed), .l (.sl (a0.world.files.map TFile.c)), .l (.sl (a0.tapes.map TTape.c)), .l (.sl (a0.entries.map TEntry.c)), .l (.int .i64 a0.next), .l (.int .i64 a0.limit), .l (.int .i64 a0.work)]), (3, [.l (.int .i64 a1.clock), .l (.int .i64 a1.seed), .l (.sl (a1.files.map TFile.c))]), (6, [.own 1002048 x5.1.notebook.cells.length, .l (.int .i64 x5.1.world.clock), .l (.int .i64 x5.1.world.seed), .own 1002049 x5.1.world.files.length, .own 1002050 x5.1.tapes.length, .own 1002051 x5.1.entries.length, .l (.int .i64 x5.1.next), .l (.int .i64 x5.1.limit), .l (.int .i64 x5.1.work)]), (8, [.own 1002304 x6.notebook.cells.length, .l (.int .i64 x6.world.clock), .l (.int .i64 x6.world.seed), .own 1002305 x6.world.files.length, .own 1002306 x6.tapes.length, .own 1002307 x6.entries.length, .l (.int .i64 x6.next), .l (.int .i64 x6.limit), .l (.int .i64 x6.work)]), (9, [.l (.int .i64 x7.clock), .l (.int .i64 x7.seed), .own 1002432 x7.files.length]), (10, [.own 1002688 x8.1.notebook.cells.length, .l (.int .i64 x8.1.world.clock), .l (.int .i64 x8.1.world.seed), .own 1002689 x8.1.world.files.length, .own 1002690 x8.1.tapes.length, .own 1002691 x8.1.entries.length, .l (.int .i64 x8.1.next), .l (.int .i64 x8.1.limit), .l (.int .i64 x8.1.work)])], [(1002048, some ⟨true, x5.1.notebook.cells.map TCell.c⟩), (1002049, some ⟨true, x5.1.world.files.map TFile.c⟩), (1002050, some ⟨true, x5.1.tapes.map TTape.c⟩), (1002051, some ⟨true, x5.1.entries.map TEntry.c⟩), (1002304, some ⟨true, x6.notebook.cells.map TCell.c⟩), (1002305, some ⟨true, x6.world.files.map TFile.c⟩), (1002306, some ⟨true, x6.tapes.map TTape.c⟩), (1002307, some ⟨true, x6.entries.map TEntry.c⟩), (1002432, some ⟨true, x7.files.map TFile.c⟩), (1002688, some ⟨true, x8.1.notebook.cells.map TCell.c⟩), (1002689, some ⟨true, x8.1.world.files.map TFile.c⟩), (1002690, some ⟨true, x8.1.tapes.map TTape.c⟩), (1002691, some ⟨true, x8.1.entries.map TEntry.c⟩)]⟩) (Lift.into (by constructor <;> simp [go_sem, h7, h7', h7'', h13, h13', h13'', h32, h32', h38, h38'])) ?_
            obtain ⟨x13, e42, hM⟩ := bind_some hM
            obtain ⟨x14, e43, hM⟩ := bind_some hM
            refine AW_open [[], [], [1], [0, 1, 2], [0, 1, 2, 3]] mixed (by kernel_rfl) ?_
            simp (maxSteps := 10000000) [go_sem, h7, h7', h7'', h13, h13', h13'', h32, h32', h38, h38']
            refine by_ctr true (w_toWorld_ctr k a1 x13 e42) (by simp (maxSteps := 10000000) [go_sem, h7, h7', h7'', h13, h13', h13'', h32, h32', h38, h38']) (by simp) ?_
            simp (maxSteps := 10000000) [go_sem, h7, h7', h7'', h13, h13', h13'', h32, h32', h38, h38']
            refine by_ctr true (w_eqWorld_ctr k x7 x13 x14 e43) (by simp (maxSteps := 10000000) [go_sem, h7, h7', h7'', h13, h13', h13'', h32, h32', h38, h38']) (by simp) ?_
            simp (maxSteps := 10000000) [go_sem, h7, h7', h7'', h13, h13', h13'', h32, h32', h38, h38']
            refine ⟨dOkK_sound (by kernel_rfl), ?_⟩
            refine hK41 _ ?_
            refine AW_cond (b := (!x14)) (by simp (maxSteps := 10000000) [go_sem, h7, h7', h7'', h13, h13', h13'', h32, h32', h38, h38']) (fun h44 => ?_) (fun h44 => ?_)
            · rw [if_pos h44] at hM
              have h44' := h44; try simp at h44'
              refine AW_seq fun K45 hK45 => ?_
              refine AW_region ?_
              simp (maxSteps := 10000000) [go_sem, h7, h7', h7'', h13, h13', h13'', h32, h32', h38, h38', h44, h44']
              refine hK45 _ ?_
              obtain rfl := Option.some.inj hM
              refine AW_ret ?_
              simp (maxSteps := 10000000) [go_sem, h7, h7', h7'', h13, h13', h13'', h32, h32', h38, h38', h44, h44']
            · rw [if_neg (ne_true h44)] at hM
              have h44' := h44; try simp at h44'
              refine AW_skip ?_
              refine hK40 _ ?_
              refine AW_seq fun K46 hK46 => ?_
              refine AW_region ?_
              simp (maxSteps := 10000000) [go_sem, h7, h7', h7'', h13, h13', h13'', h32, h32', h38, h38', h44, h44']
              refine hK46 _ ?_
              refine AW_seq fun K47 hK47 => ?_
              obtain ⟨x15, e48, hM⟩ := bind_some hM
              obtain ⟨q49, q50, q51, q52⟩ := wr_spec e48
              have l53 := TEngine.markV_len e48
              refine AW_write hbad 2 ?_
              simp (maxSteps := 10000000) [go_sem, h7, h7', h7'', h13, h13', h13'', h32, h32', h38, h38', h44, h44', q51, q52, l53]
              refine by_wr (mk_Engine e48) (by simp (maxSteps := 10000000) [go_sem, h7, h7', h7'', h13, h13', h13'', h32, h32', h38, h38', h44, h44', q51, q52, l53]) (by simp (maxSteps := 10000000) [go_sem, h7, h7', h7'', h13, h13', h13'', h32, h32', h38, h38', h44, h44', q51, q52, l53]) ?_
              simp (maxSteps := 10000000) [go_sem, h7, h7', h7'', h13, h13', h13'', h32, h32', h38, h38', h44, h44', q51, q52, l53]
              refine hK47 _ ?_
              refine AW_seq fun K54 hK54 => ?_
              obtain ⟨x16, e55, hM⟩ := bind_some hM
              obtain ⟨q56, q57, q58, q59⟩ := wr_spec e55
              have l60 := TWorld.markV_len e55
              refine AW_write hbad 2 ?_
              simp (maxSteps := 10000000) [go_sem, h7, h7', h7'', h13, h13', h13'', h32, h32', h38, h38', h44, h44', q51, q52, l53, q58, q59, l60]
              refine by_wr (mk_World e55) (by simp (maxSteps := 10000000) [go_sem, h7, h7', h7'', h13, h13', h13'', h32, h32', h38, h38', h44, h44', q51, q52, l53, q58, q59, l60]) (by simp (maxSteps := 10000000) [go_sem, h7, h7', h7'', h13, h13', h13'', h32, h32', h38, h38', h44, h44', q51, q52, l53, q58, q59, l60]) ?_
              simp (maxSteps := 10000000) [go_sem, h7, h7', h7'', h13, h13', h13'', h32, h32', h38, h38', h44, h44', q51, q52, l53, q58, q59, l60]
              refine hK54 _ ?_
              refine AW_seq fun K61 hK61 => ?_
              obtain ⟨e62, hU64, hR63⟩ := bind_some hM; clear hM
              refine AW_mid (ι := Bool) (fun i => ⟨119, [(2, .one (.box 2 0)), (3, .one (.box 3 0)), (6, .one (.box 6 0)), (7, .one (.l (.bool x5.2))), (10, .one (.box 10 0)), (82, .one (.l (.bool i)))], [(2, [.l (.sl (a0.notebook.cells.map TCell.c)), .l (.int .i64 a0.world.clock), .l (.int .i64 a0.world.seed), .l (.sl (a0.world.files.map TFile.c)), .l (.sl (a0.tapes.map TTape.c)), .l (.sl (a0.entries.map TEntry.c)), .l (.int .i64 a0.next), .l (.int .i64 a0.limit), .l (.int .i64 a0.work)]), (3, [.l (.int .i64 a1.clock), .l (.int .i64 a1.seed), .l (.sl (a1.files.map TFile.c))]), (6, [.own 1002048 x5.1.notebook.cells.length, .l (.int .i64 x5.1.world.clock), .l (.int .i64 x5.1.world.seed), .own 1002049 x5.1.world.files.length, .own 1002050 x5.1.tapes.length, .own 1002051 x5.1.entries.length, .l (.int .i64 x5.1.next), .l (.int .i64 x5.1.limit), .l (.int .i64 x5.1.work)]), (10, [.own 1002688 x8.1.notebook.cells.length, .l (.int .i64 x8.1.world.clock), .l (.int .i64 x8.1.world.seed), .own 1002689 x8.1.world.files.length, .own 1002690 x8.1.tapes.length, .own 1002691 x8.1.entries.length, .l (.int .i64 x8.1.next), .l (.int .i64 x8.1.limit), .l (.int .i64 x8.1.work)])], [(1002048, some ⟨true, x5.1.notebook.cells.map TCell.c⟩), (1002049, some ⟨true, x5.1.world.files.map TFile.c⟩), (1002050, some ⟨true, x5.1.tapes.map TTape.c⟩), (1002051, some ⟨true, x5.1.entries.map TEntry.c⟩), (1002688, some ⟨true, x8.1.notebook.cells.map TCell.c⟩), (1002689, some ⟨true, x8.1.world.files.map TFile.c⟩), (1002690, some ⟨true, x8.1.tapes.map TTape.c⟩), (1002691, some ⟨true, x8.1.entries.map TEntry.c⟩)]⟩) (fun i => i = e62) ?_ ?_
              · intro K65 hK65
                have hM := hU64; clear hU64
                by_cases h66 : (decide (x16.2 < 0)) = true
                · rw [if_pos h66] at hM
                  have h66' := h66; try simp at h66'
                  have h66'' : ¬ (0 ≤ x16.2) := by first | (have := h66; simp only [decide_eq_true_eq, decide_eq_false_iff_not, Bool.not_eq_true', Bool.not_eq_false', Bool.not_eq_true, Bool.not_eq_false] at this; omega) | (have := h66; simp at this; omega)
                  refine AW_region ?_
                  simp (maxSteps := 10000000) [go_sem, h7, h7', h7'', h13, h13', h13'', h32, h32', h38, h38', h44, h44', q51, q52, l53, q58, q59, l60, h66, h66', h66'']
                  obtain rfl := Option.some.inj hM
                  exact hK65 true _ rfl (Lift.into (by constructor <;> simp [go_sem, h7, h7', h7'', h13, h13', h13'', h32, h32', h38, h38', h44, h44', q51, q52, l53, q58, q59, l60, h66, h66', h66'']))
                · rw [if_neg h66] at hM
                  have h66 := Bool.eq_false_iff.2 h66
                  have h66' := h66; try simp at h66'
                  have h66'' : ¬ (x16.2 < 0) := by first | (have := h66; simp only [decide_eq_true_eq, decide_eq_false_iff_not, Bool.not_eq_true', Bool.not_eq_false', Bool.not_eq_true, Bool.not_eq_false] at this; omega) | (have := h66; simp at this; omega)
                  obtain ⟨x18, e67, hM⟩ := bind_some hM
                  by_cases h68 : (!x18) = true
                  · rw [if_pos h68] at hM
                    have h68' := h68; try simp at h68'
                    refine AW_region ?_
                    simp (maxSteps := 10000000) [go_sem, h7, h7', h7'', h13, h13', h13'', h32, h32', h38, h38', h44, h44', q51, q52, l53, q58, q59, l60, h66, h66', h66'', h68, h68']
                    refine by_ctr true (w_eqEngine_ctr k x8.1 x5.1 x18 e67) (by simp (maxSteps := 10000000) [go_sem, h7, h7', h7'', h13, h13', h13'', h32, h32', h38, h38', h44, h44', q51, q52, l53, q58, q59, l60, h66, h66', h66'', h68, h68']) (by simp) ?_
                    simp (maxSteps := 10000000) [go_sem, h7, h7', h7'', h13, h13', h13'', h32, h32', h38, h38', h44, h44', q51, q52, l53, q58, q59, l60, h66, h66', h66'', h68, h68']
                    obtain rfl := Option.some.inj hM
                    exact hK65 true _ rfl (Lift.into (by constructor <;> simp [go_sem, h7, h7', h7'', h13, h13', h13'', h32, h32', h38, h38', h44, h44', q51, q52, l53, q58, q59, l60, h66, h66', h66'', h68, h68']))
                  · rw [if_neg h68] at hM
                    have h68 := Bool.eq_false_iff.2 h68
                    have h68' := h68; try simp at h68'
                    refine AW_region ?_
                    simp (maxSteps := 10000000) [go_sem, h7, h7', h7'', h13, h13', h13'', h32, h32', h38, h38', h44, h44', q51, q52, l53, q58, q59, l60, h66, h66', h66'', h68, h68']
                    refine by_ctr true (w_eqEngine_ctr k x8.1 x5.1 x18 e67) (by simp (maxSteps := 10000000) [go_sem, h7, h7', h7'', h13, h13', h13'', h32, h32', h38, h38', h44, h44', q51, q52, l53, q58, q59, l60, h66, h66', h66'', h68, h68']) (by simp) ?_
                    simp (maxSteps := 10000000) [go_sem, h7, h7', h7'', h13, h13', h13'', h32, h32', h38, h38', h44, h44', q51, q52, l53, q58, q59, l60, h66, h66', h66'', h68, h68']
                    obtain rfl := Option.some.inj hM
                    exact hK65 (!(x8.2 == x5.2)) _ rfl (Lift.into (by constructor <;> simp [go_sem, h7, h7', h7'', h13, h13', h13'', h32, h32', h38, h38', h44, h44', q51, q52, l53, q58, q59, l60, h66, h66', h66'', h68, h68']))
              · rintro x17 rfl
                have hM := hR63
                try dsimp only at hM
                refine AW_cond (b := x17) (by simp (maxSteps := 10000000) [go_sem, h7, h7', h7'', h13, h13', h13'', h32, h32', h38, h38', h44, h44', q51, q52, l53, q58, q59, l60]) (fun h69 => ?_) (fun h69 => ?_)
                · rw [if_pos h69] at hM
                  have h69' := h69; try simp at h69'
                  refine AW_seq fun K70 hK70 => ?_
                  refine AW_region ?_
                  simp (maxSteps := 10000000) [go_sem, h7, h7', h7'', h13, h13', h13'', h32, h32', h38, h38', h44, h44', q51, q52, l53, q58, q59, l60, h69, h69']
                  refine hK70 _ ?_
                  obtain rfl := Option.some.inj hM
                  refine AW_ret ?_
                  simp (maxSteps := 10000000) [go_sem, h7, h7', h7'', h13, h13', h13'', h32, h32', h38, h38', h44, h44', q51, q52, l53, q58, q59, l60, h69, h69']
                · rw [if_neg (ne_true h69)] at hM
                  have h69' := h69; try simp at h69'
                  refine AW_skip ?_
                  refine hK61 _ ?_
                  refine AW_seq fun K71 hK71 => ?_
                  refine AW_region ?_
                  simp (maxSteps := 10000000) [go_sem, h7, h7', h7'', h13, h13', h13'', h32, h32', h38, h38', h44, h44', q51, q52, l53, q58, q59, l60, h69, h69']
                  refine hK71 _ ?_
                  refine AW_seq fun K72 hK72 => ?_
                  obtain ⟨x19, e73, hM⟩ := bind_some hM
                  obtain ⟨q74, q75, q76, q77⟩ := wr_spec e73
                  have l78 := TEngine.markV_len e73
                  refine AW_write hbad 2 ?_
                  simp (maxSteps := 10000000) [go_sem, h7, h7', h7'', h13, h13', h13'', h32, h32', h38, h38', h44, h44', q51, q52, l53, q58, q59, l60, h69, h69', q76, q77, l78]
                  refine by_wr (mk_Engine e73) (by simp (maxSteps := 10000000) [go_sem, h7, h7', h7'', h13, h13', h13'', h32, h32', h38, h38', h44, h44', q51, q52, l53, q58, q59, l60, h69, h69', q76, q77, l78]) (by simp (maxSteps := 10000000) [go_sem, h7, h7', h7'', h13, h13', h13'', h32, h32', h38, h38', h44, h44', q51, q52, l53, q58, q59, l60, h69, h69', q76, q77, l78]) ?_
                  simp (maxSteps := 10000000) [go_sem, h7, h7', h7'', h13, h13', h13'', h32, h32', h38, h38', h44, h44', q51, q52, l53, q58, q59, l60, h69, h69', q76, q77, l78]
                  refine hK72 _ ?_
                  refine AW_seq fun K79 hK79 => ?_
                  refine AW_region ?_
                  simp (maxSteps := 10000000) [go_sem, h7, h7', h7'', h13, h13', h13'', h32, h32', h38, h38', h44, h44', q51, q52, l53, q58, q59, l60, h69, h69', q76, q77, l78]
                  refine hK79 _ ?_
                  refine AW_seq fun K80 hK80 => ?_
                  obtain ⟨x20, e81, hM⟩ := bind_some hM
                  refine AW_region ?_
                  simp (maxSteps := 10000000) [go_sem, h7, h7', h7'', h13, h13', h13'', h32, h32', h38, h38', h44, h44', q51, q52, l53, q58, q59, l60, h69, h69', q76, q77, l78]
                  refine by_ctr true (hd_Engine (k := 1) (y := (TEngine.mk x19.1.notebook (TWorld.mk x8.1.world.clock x8.1.world.seed x19.1.world.files) x19.1.tapes x19.1.entries x8.1.next x8.1.limit x8.1.work)) e81 (by first | exact q74 | (rw [q74]; first | done | rfl))) (by simp (maxSteps := 10000000) [go_sem, h7, h7', h7'', h13, h13', h13'', h32, h32', h38, h38', h44, h44', q51, q52, l53, q58, q59, l60, h69, h69', q76, q77, l78]) (by simp) ?_
                  simp (maxSteps := 10000000) [go_sem, h7, h7', h7'', h13, h13', h13'', h32, h32', h38, h38', h44, h44', q51, q52, l53, q58, q59, l60, h69, h69', q76, q77, l78]
                  refine hK80 _ ?_
                  refine AW_seq fun K82 hK82 => ?_
                  refine AW_seq fun K83 hK83 => ?_
                  refine AW_region ?_
                  simp (maxSteps := 10000000) [go_sem, h7, h7', h7'', h13, h13', h13'', h32, h32', h38, h38', h44, h44', q51, q52, l53, q58, q59, l60, h69, h69', q76, q77, l78]
                  refine hK83 _ ?_
                  refine AW_cond (b := (decide (x20 < 0))) (by simp (maxSteps := 10000000) [go_sem, h7, h7', h7'', h13, h13', h13'', h32, h32', h38, h38', h44, h44', q51, q52, l53, q58, q59, l60, h69, h69', q76, q77, l78]) (fun h84 => ?_) (fun h84 => ?_)
                  · rw [if_pos h84] at hM
                    have h84' := h84; try simp at h84'
                    have h84'' : ¬ (0 ≤ x20) := by first | (have := h84; simp only [decide_eq_true_eq, decide_eq_false_iff_not, Bool.not_eq_true', Bool.not_eq_false', Bool.not_eq_true, Bool.not_eq_false] at this; omega) | (have := h84; simp at this; omega)
                    refine AW_seq fun K85 hK85 => ?_
                    refine AW_region ?_
                    simp (maxSteps := 10000000) [go_sem, h7, h7', h7'', h13, h13', h13'', h32, h32', h38, h38', h44, h44', q51, q52, l53, q58, q59, l60, h69, h69', q76, q77, l78, h84, h84', h84'']
                    refine hK85 _ ?_
                    obtain rfl := Option.some.inj hM
                    refine AW_ret ?_
                    simp (maxSteps := 10000000) [go_sem, h7, h7', h7'', h13, h13', h13'', h32, h32', h38, h38', h44, h44', q51, q52, l53, q58, q59, l60, h69, h69', q76, q77, l78, h84, h84', h84'']
                  · rw [if_neg (ne_true h84)] at hM
                    have h84' := h84; try simp at h84'
                    have h84'' : ¬ (x20 < 0) := by first | (have := h84; simp only [decide_eq_true_eq, decide_eq_false_iff_not, Bool.not_eq_true', Bool.not_eq_false', Bool.not_eq_true, Bool.not_eq_false] at this; omega) | (have := h84; simp at this; omega)
                    refine AW_skip ?_
                    refine hK82 _ ?_
                    refine AW_seq fun K86 hK86 => ?_
                    refine AW_seq fun K87 hK87 => ?_
                    refine AW_region ?_
                    simp (maxSteps := 10000000) [go_sem, h7, h7', h7'', h13, h13', h13'', h32, h32', h38, h38', h44, h44', q51, q52, l53, q58, q59, l60, h69, h69', q76, q77, l78, h84, h84', h84'']
                    refine hK87 _ ?_
                    refine AW_cond (b := (!decide (x20 = x19.2))) (by simp (maxSteps := 10000000) [go_sem, h7, h7', h7'', h13, h13', h13'', h32, h32', h38, h38', h44, h44', q51, q52, l53, q58, q59, l60, h69, h69', q76, q77, l78, h84, h84', h84'']) (fun h88 => ?_) (fun h88 => ?_)
                    · rw [if_pos h88] at hM
                      have h88' := h88; try simp at h88'
                      refine AW_seq fun K89 hK89 => ?_
                      refine AW_region ?_
                      simp (maxSteps := 10000000) [go_sem, h7, h7', h7'', h13, h13', h13'', h32, h32', h38, h38', h44, h44', q51, q52, l53, q58, q59, l60, h69, h69', q76, q77, l78, h84, h84', h84'', h88, h88']
                      refine hK89 _ ?_
                      obtain rfl := Option.some.inj hM
                      refine AW_ret ?_
                      simp (maxSteps := 10000000) [go_sem, h7, h7', h7'', h13, h13', h13'', h32, h32', h38, h38', h44, h44', q51, q52, l53, q58, q59, l60, h69, h69', q76, q77, l78, h84, h84', h84'', h88, h88']
                    · rw [if_neg (ne_true h88)] at hM
                      have h88' := h88; try simp at h88'
                      refine AW_skip ?_
                      refine hK86 _ ?_
                      refine AW_seq fun K90 hK90 => ?_
                      refine AW_into (σ' := ⟨119, [(2, .one (.box 2 0)), (3, .one (.box 3 0)), (6, .one (.box 6 0)), (7, .one (.l (.bool x5.2))), (10, .one (.box 10 0)), (13, .one (.l (.int .i64 x19.2)))], [(2, [.l (.sl (a0.notebook.cells.map TCell.c)), .l (.int .i64 a0.world.clock), .l (.int .i64 a0.world.seed), .l (.sl (a0.world.files.map TFile.c)), .l (.sl (a0.tapes.map TTape.c)), .l (.sl (a0.entries.map TEntry.c)), .l (.int .i64 a0.next), .l (.int .i64 a0.limit), .l (.int .i64 a0.work)]), (3, [.l (.int .i64 a1.clock), .l (.int .i64 a1.seed), .l (.sl (a1.files.map TFile.c))]), (6, [.own 1002048 x5.1.notebook.cells.length, .l (.int .i64 x5.1.world.clock), .l (.int .i64 x5.1.world.seed), .own 1002049 x5.1.world.files.length, .own 1002050 x5.1.tapes.length, .own 1002051 x5.1.entries.length, .l (.int .i64 x5.1.next), .l (.int .i64 x5.1.limit), .l (.int .i64 x5.1.work)]), (10, [.l (.sl (x19.1.notebook.cells.map TCell.c)), .l (.int .i64 x8.1.world.clock), .l (.int .i64 x8.1.world.seed), .l (.sl (x19.1.world.files.map TFile.c)), .l (.sl (x19.1.tapes.map TTape.c)), .l (.sl (x19.1.entries.map TEntry.c)), .l (.int .i64 x8.1.next), .l (.int .i64 x8.1.limit), .l (.int .i64 x8.1.work)])], [(1002048, some ⟨true, x5.1.notebook.cells.map TCell.c⟩), (1002049, some ⟨true, x5.1.world.files.map TFile.c⟩), (1002050, some ⟨true, x5.1.tapes.map TTape.c⟩), (1002051, some ⟨true, x5.1.entries.map TEntry.c⟩)]⟩) (Lift.into (by constructor <;> simp [go_sem, h7, h7', h7'', h13, h13', h13'', h32, h32', h38, h38', h44, h44', q51, q52, l53, q58, q59, l60, h69, h69', q76, q77, l78, h84, h84', h84'', h88, h88'])) ?_
                      obtain ⟨x21, e91, hM⟩ := bind_some hM
                      obtain ⟨x22, e92, hM⟩ := bind_some hM
                      obtain ⟨x23, e93, hM⟩ := bind_some hM
                      refine AW_open [[], [0], [], [0, 1, 2], [0, 1, 2, 3], [0, 1, 2, 3, 4], [0, 1, 2, 3, 4, 5], [0, 1, 2, 3, 4, 5], [], [0, 1, 2, 3, 4, 5, 6, 8], [0, 1, 2, 3, 4, 5, 6, 7, 8, 9]] mixed (by kernel_rfl) ?_
                      simp (maxSteps := 10000000) [go_sem, h7, h7', h7'', h13, h13', h13'', h32, h32', h38, h38', h44, h44', q51, q52, l53, q58, q59, l60, h69, h69', q76, q77, l78, h84, h84', h84'', h88, h88']
                      refine by_ctr true (w_toEngine_ctr k a0 x21 e91) (by simp (maxSteps := 10000000) [go_sem, h7, h7', h7'', h13, h13', h13'', h32, h32', h38, h38', h44, h44', q51, q52, l53, q58, q59, l60, h69, h69', q76, q77, l78, h84, h84', h84'', h88, h88']) (by simp) ?_
                      simp (maxSteps := 10000000) [go_sem, h7, h7', h7'', h13, h13', h13'', h32, h32', h38, h38', h44, h44', q51, q52, l53, q58, q59, l60, h69, h69', q76, q77, l78, h84, h84', h84'', h88, h88']
                      refine by_ctr true (w_toWorld_ctr k a1 x22 e92) (by simp (maxSteps := 10000000) [go_sem, h7, h7', h7'', h13, h13', h13'', h32, h32', h38, h38', h44, h44', q51, q52, l53, q58, q59, l60, h69, h69', q76, q77, l78, h84, h84', h84'', h88, h88']) (by simp) ?_
                      simp (maxSteps := 10000000) [go_sem, h7, h7', h7'', h13, h13', h13'', h32, h32', h38, h38', h44, h44', q51, q52, l53, q58, q59, l60, h69, h69', q76, q77, l78, h84, h84', h84'', h88, h88']
                      refine by_ctr true (i_AdvanceWorld_ctr k x21 x22 x23 e93) (by simp (maxSteps := 10000000) [go_sem, h7, h7', h7'', h13, h13', h13'', h32, h32', h38, h38', h44, h44', q51, q52, l53, q58, q59, l60, h69, h69', q76, q77, l78, h84, h84', h84'', h88, h88']) (by simp) ?_
                      simp (maxSteps := 10000000) [go_sem, h7, h7', h7'', h13, h13', h13'', h32, h32', h38, h38', h44, h44', q51, q52, l53, q58, q59, l60, h69, h69', q76, q77, l78, h84, h84', h84'', h88, h88']
                      refine ⟨dOkK_sound (by kernel_rfl), ?_⟩
                      refine hK90 _ ?_
                      refine AW_seq fun K94 hK94 => ?_
                      obtain ⟨e95, hU97, hR96⟩ := bind_some hM; clear hM
                      refine AW_mid (ι := Bool) (fun i => ⟨119, [(10, .one (.box 10 0)), (13, .one (.l (.int .i64 x19.2))), (110, .one (.l (.bool i)))], [(10, [.l (.sl (x19.1.notebook.cells.map TCell.c)), .l (.int .i64 x8.1.world.clock), .l (.int .i64 x8.1.world.seed), .l (.sl (x19.1.world.files.map TFile.c)), .l (.sl (x19.1.tapes.map TTape.c)), .l (.sl (x19.1.entries.map TEntry.c)), .l (.int .i64 x8.1.next), .l (.int .i64 x8.1.limit), .l (.int .i64 x8.1.work)])], []⟩) (fun i => i = e95) ?_ ?_
                      · intro K98 hK98
                        have hM := hU97; clear hU97
                        obtain ⟨x25, e99, hM⟩ := bind_some hM
                        by_cases h100 : (!x25) = true
                        · rw [if_pos h100] at hM
                          have h100' := h100; try simp at h100'
                          refine AW_region ?_
                          simp (maxSteps := 10000000) [go_sem, h7, h7', h7'', h13, h13', h13'', h32, h32', h38, h38', h44, h44', q51, q52, l53, q58, q59, l60, h69, h69', q76, q77, l78, h84, h84', h84'', h88, h88', h100, h100']
                          refine by_ctr true (w_eqEngine_ctr k x23.1 x5.1 x25 e99) (by simp (maxSteps := 10000000) [go_sem, h7, h7', h7'', h13, h13', h13'', h32, h32', h38, h38', h44, h44', q51, q52, l53, q58, q59, l60, h69, h69', q76, q77, l78, h84, h84', h84'', h88, h88', h100, h100']) (by simp) ?_
                          simp (maxSteps := 10000000) [go_sem, h7, h7', h7'', h13, h13', h13'', h32, h32', h38, h38', h44, h44', q51, q52, l53, q58, q59, l60, h69, h69', q76, q77, l78, h84, h84', h84'', h88, h88', h100, h100']
                          obtain rfl := Option.some.inj hM
                          exact hK98 true _ rfl (Lift.into (by constructor <;> simp [go_sem, h7, h7', h7'', h13, h13', h13'', h32, h32', h38, h38', h44, h44', q51, q52, l53, q58, q59, l60, h69, h69', q76, q77, l78, h84, h84', h84'', h88, h88', h100, h100']))
                        · rw [if_neg h100] at hM
                          have h100 := Bool.eq_false_iff.2 h100
                          have h100' := h100; try simp at h100'
                          refine AW_region ?_
                          simp (maxSteps := 10000000) [go_sem, h7, h7', h7'', h13, h13', h13'', h32, h32', h38, h38', h44, h44', q51, q52, l53, q58, q59, l60, h69, h69', q76, q77, l78, h84, h84', h84'', h88, h88', h100, h100']
                          refine by_ctr true (w_eqEngine_ctr k x23.1 x5.1 x25 e99) (by simp (maxSteps := 10000000) [go_sem, h7, h7', h7'', h13, h13', h13'', h32, h32', h38, h38', h44, h44', q51, q52, l53, q58, q59, l60, h69, h69', q76, q77, l78, h84, h84', h84'', h88, h88', h100, h100']) (by simp) ?_
                          simp (maxSteps := 10000000) [go_sem, h7, h7', h7'', h13, h13', h13'', h32, h32', h38, h38', h44, h44', q51, q52, l53, q58, q59, l60, h69, h69', q76, q77, l78, h84, h84', h84'', h88, h88', h100, h100']
                          obtain rfl := Option.some.inj hM
                          exact hK98 (!(x23.2 == x5.2)) _ rfl (Lift.into (by constructor <;> simp [go_sem, h7, h7', h7'', h13, h13', h13'', h32, h32', h38, h38', h44, h44', q51, q52, l53, q58, q59, l60, h69, h69', q76, q77, l78, h84, h84', h84'', h88, h88', h100, h100']))
                      · rintro x24 rfl
                        have hM := hR96
                        try dsimp only at hM
                        refine AW_cond (b := x24) (by simp (maxSteps := 10000000) [go_sem, h7, h7', h7'', h13, h13', h13'', h32, h32', h38, h38', h44, h44', q51, q52, l53, q58, q59, l60, h69, h69', q76, q77, l78, h84, h84', h84'', h88, h88']) (fun h101 => ?_) (fun h101 => ?_)
                        · rw [if_pos h101] at hM
                          have h101' := h101; try simp at h101'
                          refine AW_seq fun K102 hK102 => ?_
                          refine AW_region ?_
                          simp (maxSteps := 10000000) [go_sem, h7, h7', h7'', h13, h13', h13'', h32, h32', h38, h38', h44, h44', q51, q52, l53, q58, q59, l60, h69, h69', q76, q77, l78, h84, h84', h84'', h88, h88', h101, h101']
                          refine hK102 _ ?_
                          obtain rfl := Option.some.inj hM
                          refine AW_ret ?_
                          simp (maxSteps := 10000000) [go_sem, h7, h7', h7'', h13, h13', h13'', h32, h32', h38, h38', h44, h44', q51, q52, l53, q58, q59, l60, h69, h69', q76, q77, l78, h84, h84', h84'', h88, h88', h101, h101']
                        · rw [if_neg (ne_true h101)] at hM
                          have h101' := h101; try simp at h101'
                          refine AW_skip ?_
                          refine hK94 _ ?_
                          refine AW_seq fun K103 hK103 => ?_
                          refine AW_region ?_
                          simp (maxSteps := 10000000) [go_sem, h7, h7', h7'', h13, h13', h13'', h32, h32', h38, h38', h44, h44', q51, q52, l53, q58, q59, l60, h69, h69', q76, q77, l78, h84, h84', h84'', h88, h88', h101, h101']
                          refine hK103 _ ?_
                          refine AW_seq fun K104 hK104 => ?_
                          obtain ⟨x26, e105, hM⟩ := bind_some hM
                          refine AW_region ?_
                          simp (maxSteps := 10000000) [go_sem, h7, h7', h7'', h13, h13', h13'', h32, h32', h38, h38', h44, h44', q51, q52, l53, q58, q59, l60, h69, h69', q76, q77, l78, h84, h84', h84'', h88, h88', h101, h101']
                          refine by_ctr true (hd_Engine (k := 1) (y := (TEngine.mk x19.1.notebook (TWorld.mk x8.1.world.clock x8.1.world.seed x19.1.world.files) x19.1.tapes x19.1.entries x8.1.next x8.1.limit x8.1.work)) e105 (by first | exact q74 | (rw [q74]; first | done | rfl))) (by simp (maxSteps := 10000000) [go_sem, h7, h7', h7'', h13, h13', h13'', h32, h32', h38, h38', h44, h44', q51, q52, l53, q58, q59, l60, h69, h69', q76, q77, l78, h84, h84', h84'', h88, h88', h101, h101']) (by simp) ?_
                          simp (maxSteps := 10000000) [go_sem, h7, h7', h7'', h13, h13', h13'', h32, h32', h38, h38', h44, h44', q51, q52, l53, q58, q59, l60, h69, h69', q76, q77, l78, h84, h84', h84'', h88, h88', h101, h101']
                          refine hK104 _ ?_
                          refine AW_seq fun K106 hK106 => ?_
                          refine AW_seq fun K107 hK107 => ?_
                          refine AW_region ?_
                          simp (maxSteps := 10000000) [go_sem, h7, h7', h7'', h13, h13', h13'', h32, h32', h38, h38', h44, h44', q51, q52, l53, q58, q59, l60, h69, h69', q76, q77, l78, h84, h84', h84'', h88, h88', h101, h101']
                          refine hK107 _ ?_
                          refine AW_cond (b := (decide (x26 < 0))) (by simp (maxSteps := 10000000) [go_sem, h7, h7', h7'', h13, h13', h13'', h32, h32', h38, h38', h44, h44', q51, q52, l53, q58, q59, l60, h69, h69', q76, q77, l78, h84, h84', h84'', h88, h88', h101, h101']) (fun h108 => ?_) (fun h108 => ?_)
                          · rw [if_pos h108] at hM
                            have h108' := h108; try simp at h108'
                            have h108'' : ¬ (0 ≤ x26) := by first | (have := h108; simp only [decide_eq_true_eq, decide_eq_false_iff_not, Bool.not_eq_true', Bool.not_eq_false', Bool.not_eq_true, Bool.not_eq_false] at this; omega) | (have := h108; simp at this; omega)
                            refine AW_seq fun K109 hK109 => ?_
                            refine AW_region ?_
                            simp (maxSteps := 10000000) [go_sem, h7, h7', h7'', h13, h13', h13'', h32, h32', h38, h38', h44, h44', q51, q52, l53, q58, q59, l60, h69, h69', q76, q77, l78, h84, h84', h84'', h88, h88', h101, h101', h108, h108', h108'']
                            refine hK109 _ ?_
                            obtain rfl := Option.some.inj hM
                            refine AW_ret ?_
                            simp (maxSteps := 10000000) [go_sem, h7, h7', h7'', h13, h13', h13'', h32, h32', h38, h38', h44, h44', q51, q52, l53, q58, q59, l60, h69, h69', q76, q77, l78, h84, h84', h84'', h88, h88', h101, h101', h108, h108', h108'']
                          · rw [if_neg (ne_true h108)] at hM
                            have h108' := h108; try simp at h108'
                            have h108'' : ¬ (x26 < 0) := by first | (have := h108; simp only [decide_eq_true_eq, decide_eq_false_iff_not, Bool.not_eq_true', Bool.not_eq_false', Bool.not_eq_true, Bool.not_eq_false] at this; omega) | (have := h108; simp at this; omega)
                            refine AW_skip ?_
                            refine hK106 _ ?_
                            refine AW_seq fun K110 hK110 => ?_
                            refine AW_seq fun K111 hK111 => ?_
                            refine AW_region ?_
                            simp (maxSteps := 10000000) [go_sem, h7, h7', h7'', h13, h13', h13'', h32, h32', h38, h38', h44, h44', q51, q52, l53, q58, q59, l60, h69, h69', q76, q77, l78, h84, h84', h84'', h88, h88', h101, h101', h108, h108', h108'']
                            refine hK111 _ ?_
                            refine AW_cond (b := (!decide (x26 = x19.2))) (by simp (maxSteps := 10000000) [go_sem, h7, h7', h7'', h13, h13', h13'', h32, h32', h38, h38', h44, h44', q51, q52, l53, q58, q59, l60, h69, h69', q76, q77, l78, h84, h84', h84'', h88, h88', h101, h101', h108, h108', h108'']) (fun h112 => ?_) (fun h112 => ?_)
                            · rw [if_pos h112] at hM
                              have h112' := h112; try simp at h112'
                              refine AW_seq fun K113 hK113 => ?_
                              refine AW_region ?_
                              simp (maxSteps := 10000000) [go_sem, h7, h7', h7'', h13, h13', h13'', h32, h32', h38, h38', h44, h44', q51, q52, l53, q58, q59, l60, h69, h69', q76, q77, l78, h84, h84', h84'', h88, h88', h101, h101', h108, h108', h108'', h112, h112']
                              refine hK113 _ ?_
                              obtain rfl := Option.some.inj hM
                              refine AW_ret ?_
                              simp (maxSteps := 10000000) [go_sem, h7, h7', h7'', h13, h13', h13'', h32, h32', h38, h38', h44, h44', q51, q52, l53, q58, q59, l60, h69, h69', q76, q77, l78, h84, h84', h84'', h88, h88', h101, h101', h108, h108', h108'', h112, h112']
                            · rw [if_neg (ne_true h112)] at hM
                              have h112' := h112; try simp at h112'
                              refine AW_skip ?_
                              refine hK110 _ ?_
                              refine AW_seq fun K114 hK114 => ?_
                              refine AW_region ?_
                              simp (maxSteps := 10000000) [go_sem, h7, h7', h7'', h13, h13', h13'', h32, h32', h38, h38', h44, h44', q51, q52, l53, q58, q59, l60, h69, h69', q76, q77, l78, h84, h84', h84'', h88, h88', h101, h101', h108, h108', h108'', h112, h112']
                              refine hK114 _ ?_
                              obtain rfl := Option.some.inj hM
                              refine AW_ret ?_
                              simp (maxSteps := 10000000) [go_sem, h7, h7', h7'', h13, h13', h13'', h32, h32', h38, h38', h44, h44', q51, q52, l53, q58, q59, l60, h69, h69', q76, q77, l78, h84, h84', h84'', h88, h88', h101, h101', h108, h108', h108'', h112, h112']
end Go.Proofs.YtmiboaogfjgkjaaGreat
