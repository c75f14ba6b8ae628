/- The law FnExactHeldSize: its mirrored function, and its contract. Written by a program of mine. -/
import Derived.Test.YtmiboaogfjgkjaaWn
import Derived.Test.YtmiboaogfjgkjaaCt4
import Derived.Test.YtmiboaogfjgkjaaCtA4
import Derived.Test.YtmiboaogfjgkjaaCtA5
set_option linter.unusedSimpArgs false
set_option linter.unusedVariables false
namespace Go.Proofs.Ytmiboaogfjgkjaa
open Go.RowKit Am

def w_FnExactHeldSize (k : Nat) (a0 : TEngine) : Option Bool :=
  (w_szEngine k a0 1048576).bind fun x1 =>
  if (decide (x1 < 0)) then
    some true
  else
    (w_toEngine k a0).bind fun x2 =>
    (s_HeldSize k x2).bind fun x3 =>
    (w_toEngine k a0).bind fun x4 =>
    (i_HeldSize k x4).bind fun x5 =>
    if (!decide (x5 = x3)) then
      some false
    else
      (w_toEngine k a0).bind fun x6 =>
      (w_eqEngine k x4 x6).bind fun x7 =>
      if (!x7) then
        some false
      else
        some true
set_option maxHeartbeats 4000000 in
set_option maxRecDepth 100000 in
theorem w_FnExactHeldSize_ctr (k : Nat) (a0 : TEngine) (r : Bool) (hM : w_FnExactHeldSize k a0 = some r) : Ctr Try.prog 4 [.agg (TEngine.c a0)] true [.one (.bool r)] := by
  unfold w_FnExactHeldSize at hM
  refine Ctr.of_walk (by kernel_rfl) Try.func4 rfl Try.ntmps4 Try.results4 (by simp) ?_; intro N w0 hbad
  refine AW_seq fun K1 hK1 => ?_
  refine AW_region ?_
  simp (maxSteps := 10000000) [go_sem]
  refine hK1 _ ?_
  refine AW_seq fun K2 hK2 => ?_
  refine AW_region ?_
  simp (maxSteps := 10000000) [go_sem]
  refine hK2 _ ?_
  refine AW_seq fun K3 hK3 => ?_
  obtain ⟨x1, e4, hM⟩ := bind_some hM
  refine AW_region ?_
  simp (maxSteps := 10000000) [go_sem]
  refine by_ctr false (w_szEngine_ctr k a0 1048576 x1 e4) (by simp (maxSteps := 10000000) [go_sem]) (by simp) ?_
  simp (maxSteps := 10000000) [go_sem]
  refine hK3 _ ?_
  refine AW_seq fun K5 hK5 => ?_
  refine AW_seq fun K6 hK6 => ?_
  refine AW_region ?_
  simp (maxSteps := 10000000) [go_sem]
  refine hK6 _ ?_
  refine AW_cond (b := (decide (x1 < 0))) (by simp (maxSteps := 10000000) [go_sem]) (fun h7 => ?_) (fun h7 => ?_)
  · rw [if_pos h7] at hM
    have h7' := h7; try simp at h7'
    have h7'' : ¬ (0 ≤ x1) := by first | (have := h7; simp only [decide_eq_true_eq, decide_eq_false_iff_not, Bool.not_eq_true', Bool.not_eq_false', Bool.not_eq_true, Bool.not_eq_false] at this; omega) | (have := h7; simp at this; omega)
    refine AW_seq fun K8 hK8 => ?_
    refine AW_region ?_
    simp (maxSteps := 10000000) [go_sem, h7, h7', h7'']
    refine hK8 _ ?_
    obtain rfl := Option.some.inj hM
    refine AW_ret ?_
    simp (maxSteps := 10000000) [go_sem, h7, h7', h7'']
  · rw [if_neg (ne_true h7)] at hM
    have h7' := h7; try simp at h7'
    have h7'' : ¬ (x1 < 0) := by first | (have := h7; simp only [decide_eq_true_eq, decide_eq_false_iff_not, Bool.not_eq_true', Bool.not_eq_false', Bool.not_eq_true, Bool.not_eq_false] at this; omega) | (have := h7; simp at this; omega)
    refine AW_skip ?_
    refine hK5 _ ?_
    refine AW_seq fun K9 hK9 => ?_
    obtain ⟨x2, e10, hM⟩ := bind_some hM
    obtain ⟨x3, e11, hM⟩ := bind_some hM
    refine AW_region ?_
    simp (maxSteps := 10000000) [go_sem, h7, h7', h7'']
    refine by_ctr false (w_toEngine_ctr k a0 x2 e10) (by simp (maxSteps := 10000000) [go_sem, h7, h7', h7'']) (by simp) ?_
    simp (maxSteps := 10000000) [go_sem, h7, h7', h7'']
    refine by_ctr false (s_HeldSize_ctr k x2 x3 e11) (by simp (maxSteps := 10000000) [go_sem, h7, h7', h7'']) (by simp) ?_
    simp (maxSteps := 10000000) [go_sem, h7, h7', h7'']
    refine hK9 _ ?_
    refine AW_seq fun K12 hK12 => ?_
    obtain ⟨x4, e13, hM⟩ := bind_some hM
    refine AW_region ?_
    simp (maxSteps := 10000000) [go_sem, h7, h7', h7'']
    refine by_ctr false (w_toEngine_ctr k a0 x4 e13) (by simp (maxSteps := 10000000) [go_sem, h7, h7', h7'']) (by simp) ?_
    simp (maxSteps := 10000000) [go_sem, h7, h7', h7'']
    refine hK12 _ ?_
    refine AW_seq fun K14 hK14 => ?_
    obtain ⟨x5, e15, hM⟩ := bind_some hM
    refine AW_region ?_
    simp (maxSteps := 10000000) [go_sem, h7, h7', h7'']
    refine by_ctr false (i_HeldSize_ctr k x4 x5 e15) (by simp (maxSteps := 10000000) [go_sem, h7, h7', h7'']) (by simp) ?_
    simp (maxSteps := 10000000) [go_sem, h7, h7', h7'']
    refine hK14 _ ?_
    refine AW_seq fun K16 hK16 => ?_
    refine AW_seq fun K17 hK17 => ?_
    refine AW_region ?_
    simp (maxSteps := 10000000) [go_sem, h7, h7', h7'']
    refine hK17 _ ?_
    refine AW_cond (b := (!decide (x5 = x3))) (by simp (maxSteps := 10000000) [go_sem, h7, h7', h7'']) (fun h18 => ?_) (fun h18 => ?_)
    · rw [if_pos h18] at hM
      have h18' := h18; try simp at h18'
      refine AW_seq fun K19 hK19 => ?_
      refine AW_region ?_
      simp (maxSteps := 10000000) [go_sem, h7, h7', h7'', h18, h18']
      refine hK19 _ ?_
      obtain rfl := Option.some.inj hM
      refine AW_ret ?_
      simp (maxSteps := 10000000) [go_sem, h7, h7', h7'', h18, h18']
    · rw [if_neg (ne_true h18)] at hM
      have h18' := h18; try simp at h18'
      refine AW_skip ?_
      refine hK16 _ ?_
      refine AW_seq fun K20 hK20 => ?_
      refine AW_seq fun K21 hK21 => ?_
      refine AW_into (σ' := ⟨27, [(1, .one (.box 1 0)), (5, .one (.box 5 0))], [(1, [.l (.sl (a0.notebook.cells.map TCell.c)), .l (.int .i64 a0.world.clock), .l (.int .i64 a0.world.seed), .l (.sl (a0.world.files.map TFile.c)), .l (.sl (a0.tapes.map TTape.c)), .l (.sl (a0.entries.map TEntry.c)), .l (.int .i64 a0.next), .l (.int .i64 a0.limit), .l (.int .i64 a0.work)]), (5, [.own 1024 x4.notebook.cells.length, .l (.int .i64 x4.world.clock), .l (.int .i64 x4.world.seed), .own 1025 x4.world.files.length, .own 1026 x4.tapes.length, .own 1027 x4.entries.length, .l (.int .i64 x4.next), .l (.int .i64 x4.limit), .l (.int .i64 x4.work)])], [(1024, some ⟨true, x4.notebook.cells.map TCell.c⟩), (1025, some ⟨true, x4.world.files.map TFile.c⟩), (1026, some ⟨true, x4.tapes.map TTape.c⟩), (1027, some ⟨true, x4.entries.map TEntry.c⟩)]⟩) (Lift.into (by constructor <;> simp [go_sem, h7, h7', h7'', h18, h18'])) ?_
      obtain ⟨x6, e22, hM⟩ := bind_some hM
      obtain ⟨x7, e23, hM⟩ := bind_some hM
      refine AW_open [[], [], [1], [0, 1, 2], [0, 1, 2, 3]] mixed (by kernel_rfl) ?_
      simp (maxSteps := 10000000) [go_sem, h7, h7', h7'', h18, h18']
      refine by_ctr false (w_toEngine_ctr k a0 x6 e22) (by simp (maxSteps := 10000000) [go_sem, h7, h7', h7'', h18, h18']) (by simp) ?_
      simp (maxSteps := 10000000) [go_sem, h7, h7', h7'', h18, h18']
      refine by_ctr false (w_eqEngine_ctr k x4 x6 x7 e23) (by simp (maxSteps := 10000000) [go_sem, h7, h7', h7'', h18, h18']) (by simp) ?_
      simp (maxSteps := 10000000) [go_sem, h7, h7', h7'', h18, h18']
      refine ⟨dOkK_sound (by kernel_rfl), ?_⟩
      refine hK21 _ ?_
      refine AW_cond (b := (!x7)) (by simp (maxSteps := 10000000) [go_sem, h7, h7', h7'', h18, h18']) (fun h24 => ?_) (fun h24 => ?_)
      · rw [if_pos h24] at hM
        have h24' := h24; try simp at h24'
        refine AW_seq fun K25 hK25 => ?_
        refine AW_region ?_
        simp (maxSteps := 10000000) [go_sem, h7, h7', h7'', h18, h18', h24, h24']
        refine hK25 _ ?_
        obtain rfl := Option.some.inj hM
        refine AW_ret ?_
        simp (maxSteps := 10000000) [go_sem, h7, h7', h7'', h18, h18', h24, h24']
      · rw [if_neg (ne_true h24)] at hM
        have h24' := h24; try simp at h24'
        refine AW_skip ?_
        refine hK20 _ ?_
        refine AW_seq fun K26 hK26 => ?_
        refine AW_region ?_
        simp (maxSteps := 10000000) [go_sem, h7, h7', h7'', h18, h18', h24, h24']
        refine hK26 _ ?_
        obtain rfl := Option.some.inj hM
        refine AW_ret ?_
        simp (maxSteps := 10000000) [go_sem, h7, h7', h7'', h18, h18', h24, h24']
end Go.Proofs.Ytmiboaogfjgkjaa
