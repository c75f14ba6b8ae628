/- FnExactPointsOf: the mirrored law answers true. Written by a program of mine. -/
import Derived.Test.YtmiboaogfjgkjaaLs
import Derived.Test.YtmiboaogfjgkjaaPointsOfL
import Derived.Test.YtmiboaogfjgkjaaLaFnExactPointsOf
import Derived.Test.YtmiboaogfjgkjaaMkS
set_option linter.unusedSimpArgs false
set_option linter.unusedVariables false
namespace Go.Proofs.Ytmiboaogfjgkjaa
open Go.RowKit Am
set_option maxHeartbeats 2000000 in
theorem FnExactPointsOf_law (x0 : TValue) (h0 : DOkL x0.c) (x1 : ByteArray) (h1 : DOk (.str x1)) (x2 : ByteArray) (h2 : DOk (.str x2)) (x3 : Int) (h3 : DOk (.int .i64 x3)) (x4 : Int) (h4 : DOk (.int .i64 x4)) : ∃ k, w_FnExactPointsOf k x0 x1 x2 x3 x4 = some true := by
  by_cases g1 : (decide (1048576 < (x1.size : Int))) = true
  · refine Ev.get ?_
    refine ((Ev.of fun _ => trivial : Ev fun _ => True)).mono ?_
    rintro k _
    unfold w_FnExactPointsOf
    rw [if_pos g1]
  have q1 : (x1.size : Int) ≤ 1048576 := by simpa using g1
  by_cases g2 : (decide (1048576 < (x2.size : Int))) = true
  · refine Ev.get ?_
    refine ((Ev.of fun _ => trivial : Ev fun _ => True)).mono ?_
    rintro k _
    unfold w_FnExactPointsOf
    rw [if_neg g1, if_pos g2]
  have q2 : (x2.size : Int) ≤ 1048576 := by simpa using g2
  rcases szR_cut (b := TValue.bk x0) (left := 1048576) (by omega) with ⟨c0, e0, g0, q0, p0, r0⟩ | ⟨e0, q0⟩
  rotate_left
  · refine Ev.get ?_
    refine (w_szValue_law x0 h0).mono ?_
    rintro k z0
    unfold w_FnExactPointsOf
    rw [if_neg g1, if_neg g2, z0 1048576 (by omega) (by omega), Option.bind_some, e0, if_pos (by decide)]
  have b1 : x1.size ≤ 1048576 := by omega
  have b2 : x2.size ≤ 1048576 := by omega
  have b0 : TValue.bk x0 ≤ 1048576 := by omega
  obtain ⟨v, vb0, ag⟩ := PointsOf_agree x0 h0 b0 x1 h1 b1 x2 h2 b2 x3 h3 x4 h4
  refine Ev.get ?_
  have u0 := TValue.cnV_bk x0
  have wk0 : wr? TValue.markV TValue.cnV (1) x0 = some (TValue.markV x0 (1), 1 + ((TValue.cnV x0 : Nat) : Int)) := wr_ok (by omega) (by omega)
  have kn : ¬ (1 + ((TValue.cnV x0 : Nat) : Int) < 0) := by omega
  have ur0 := TScene.cnV_bk v.1
  have wr0 : wr? TScene.markV TScene.cnV (1) v.1 = some (TScene.markV v.1 (1), 1 + ((TScene.cnV v.1 : Nat) : Int)) := wr_ok (by omega) (by omega)
  have hd0 : hd? (1) (TScene.cnV v.1) = some (1 + ((TScene.cnV v.1 : Nat) : Int)) := hd_ok (by omega) (by omega)
  have hn0 : ¬ (1 + ((TScene.cnV v.1 : Nat) : Int) < 0) := by omega
  refine ((w_szValue_law x0 h0).and ((ag).and ((w_toValue_law x0 b0).and ((w_eqValue_law x0 (by omega)).and (w_eqScene_law v.1 vb0))))).mono ?_
  rintro k ⟨z0, ⟨aS, aI⟩, to0, eq0, eqr0⟩
  unfold w_FnExactPointsOf
  rw [if_neg g1, if_neg g2, z0 1048576 (by omega) (by omega), Option.bind_some, e0, if_neg g0]
  simp [aS, aI, to0, eq0, eqr0, wk0, kn, wr0, hd0, hn0]
end Go.Proofs.Ytmiboaogfjgkjaa
