/- FnExactBarsOf: the mirrored law answers true. Written by a program of mine. -/
import Derived.Test.YtmiboaogfjgkjaaLs
import Derived.Test.YtmiboaogfjgkjaaBarsOfL
import Derived.Test.YtmiboaogfjgkjaaLaFnExactBarsOf
import Derived.Test.YtmiboaogfjgkjaaMkS
set_option linter.unusedSimpArgs false
set_option linter.unusedVariables false
namespace Go.Proofs.Ytmiboaogfjgkjaa
open Go.RowKit Am
set_option maxHeartbeats 2000000 in
theorem FnExactBarsOf_law (x0 : TValue) (h0 : DOkL x0.c) (x1 : Int) (h1 : DOk (.int .i64 x1)) (x2 : Int) (h2 : DOk (.int .i64 x2)) : ∃ k, w_FnExactBarsOf k x0 x1 x2 = some true := by
  rcases szR_cut (b := TValue.bk x0) (left := 1048576) (by omega) with ⟨c0, e0, g0, q0, p0, r0⟩ | ⟨e0, q0⟩
  rotate_left
  · refine Ev.get ?_
    refine (w_szValue_law x0 h0).mono ?_
    rintro k z0
    unfold w_FnExactBarsOf
    rw [z0 1048576 (by omega) (by omega), Option.bind_some, e0, if_pos (by decide)]
  have b0 : TValue.bk x0 ≤ 1048576 := by omega
  obtain ⟨v, vb0, ag⟩ := BarsOf_agree x0 h0 b0 x1 h1 x2 h2
  refine Ev.get ?_
  have u0 := TValue.cnV_bk x0
  have wk0 : wr? TValue.markV TValue.cnV (1) x0 = some (TValue.markV x0 (1), 1 + ((TValue.cnV x0 : Nat) : Int)) := wr_ok (by omega) (by omega)
  have kn : ¬ (1 + ((TValue.cnV x0 : Nat) : Int) < 0) := by omega
  have ur0 := TScene.cnV_bk v.1
  have wr0 : wr? TScene.markV TScene.cnV (1) v.1 = some (TScene.markV v.1 (1), 1 + ((TScene.cnV v.1 : Nat) : Int)) := wr_ok (by omega) (by omega)
  have hd0 : hd? (1) (TScene.cnV v.1) = some (1 + ((TScene.cnV v.1 : Nat) : Int)) := hd_ok (by omega) (by omega)
  have hn0 : ¬ (1 + ((TScene.cnV v.1 : Nat) : Int) < 0) := by omega
  refine ((w_szValue_law x0 h0).and ((ag).and ((w_toValue_law x0 b0).and ((w_eqValue_law x0 (by omega)).and (w_eqScene_law v.1 vb0))))).mono ?_
  rintro k ⟨z0, ⟨aS, aI⟩, to0, eq0, eqr0⟩
  unfold w_FnExactBarsOf
  rw [z0 1048576 (by omega) (by omega), Option.bind_some, e0, if_neg g0]
  simp [aS, aI, to0, eq0, eqr0, wk0, kn, wr0, hd0, hn0]
end Go.Proofs.Ytmiboaogfjgkjaa
