/- FnExactFreshView: the mirrored law answers true. Written by a program of mine. -/
import Derived.Test.YtmiboaogfjgkjaaGreatDoorLs
import Derived.Test.YtmiboaogfjgkjaaGreatDoorFreshViewL
import Derived.Test.YtmiboaogfjgkjaaGreatDoorLaFnExactFreshView
import Derived.Test.YtmiboaogfjgkjaaGreatDoorMkS
set_option linter.unusedSimpArgs false
set_option linter.unusedVariables false
namespace Go.Proofs.YtmiboaogfjgkjaaGreatDoor
open Go.RowKit Am
set_option maxHeartbeats 2000000 in
theorem FnExactFreshView_law (x0 : TNotebook) (h0 : DOkL x0.c) (x1 : TRun) (h1 : DOkL x1.c) : ∃ k, w_FnExactFreshView k x0 x1 = some true := by
  rcases szR_cut (b := TNotebook.bk x0) (left := 1048576) (by omega) with ⟨c0, e0, g0, q0, p0, r0⟩ | ⟨e0, q0⟩
  rotate_left
  · refine Ev.get ?_
    refine (w_szNotebook_law x0 h0).mono ?_
    rintro k z0
    unfold w_FnExactFreshView
    rw [z0 1048576 (by omega) (by omega), Option.bind_some, e0, if_pos (by decide)]
  rcases szR_cut (b := TRun.bk x1) (left := c0) r0 with ⟨c1, e1, g1, q1, p1, r1⟩ | ⟨e1, q1⟩
  rotate_left
  · refine Ev.get ?_
    refine ((w_szNotebook_law x0 h0).and (w_szRun_law x1 h1)).mono ?_
    rintro k ⟨z0, z1⟩
    unfold w_FnExactFreshView
    rw [z0 1048576 (by omega) (by omega), Option.bind_some, e0, if_neg g0, z1 c0 p0 r0, Option.bind_some, e1, if_pos (by decide)]
  have b0 : TNotebook.bk x0 ≤ 1048576 := by omega
  have b1 : TRun.bk x1 ≤ 1048576 := by omega
  obtain ⟨v, vb0, ag⟩ := FreshView_agree x0 h0 b0 x1 h1 b1
  refine Ev.get ?_
  have u0 := TNotebook.cnV_bk x0
  have wk0 : wr? TNotebook.markV TNotebook.cnV (1) x0 = some (TNotebook.markV x0 (1), 1 + ((TNotebook.cnV x0 : Nat) : Int)) := wr_ok (by omega) (by omega)
  have u1 := TRun.cnV_bk x1
  have wk1 : wr? TRun.markV TRun.cnV (1 + ((TNotebook.cnV x0 : Nat) : Int)) x1 = some (TRun.markV x1 (1 + ((TNotebook.cnV x0 : Nat) : Int)), 1 + ((TNotebook.cnV x0 : Nat) : Int) + ((TRun.cnV x1 : Nat) : Int)) := wr_ok (by omega) (by omega)
  have kn : ¬ (1 + ((TNotebook.cnV x0 : Nat) : Int) + ((TRun.cnV x1 : Nat) : Int) < 0) := by omega
  have ur0 := TLine.cnL_bk v
  have wr0 : wr? TLine.markL TLine.cnL (1) v = some (TLine.markL v (1), 1 + ((TLine.cnL v : Nat) : Int)) := wr_ok (by omega) (by omega)
  have hd0 : hd? (1) (TLine.cnL v) = some (1 + ((TLine.cnL v : Nat) : Int)) := hd_ok (by omega) (by omega)
  have hn0 : ¬ (1 + ((TLine.cnL v : Nat) : Int) < 0) := by omega
  refine ((w_szNotebook_law x0 h0).and ((w_szRun_law x1 h1).and ((ag).and ((w_toNotebook_law x0 b0).and ((w_eqNotebook_law x0 (by omega)).and ((w_toRun_law x1 b1).and ((w_eqRun_law x1 (by omega)).and (w_eqLineS_law v vb0)))))))).mono ?_
  rintro k ⟨z0, z1, ⟨aS, aI⟩, to0, eq0, to1, eq1, eqr0⟩
  unfold w_FnExactFreshView
  rw [z0 1048576 (by omega) (by omega), Option.bind_some, e0, if_neg g0, z1 c0 p0 r0, Option.bind_some, e1, if_neg g1]
  simp [aS, aI, to0, eq0, to1, eq1, eqr0, wk0, wk1, kn, wr0, hd0, hn0]
end Go.Proofs.YtmiboaogfjgkjaaGreatDoor
