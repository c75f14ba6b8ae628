/- FnExactCellLine: the mirrored law answers true. Written by a program of mine. -/
import Derived.Test.YtmiboaogfjgkjaaDoorLs
import Derived.Test.YtmiboaogfjgkjaaDoorCellLineL
import Derived.Test.YtmiboaogfjgkjaaDoorLaFnExactCellLine
set_option linter.unusedSimpArgs false
set_option linter.unusedVariables false
namespace Go.Proofs.YtmiboaogfjgkjaaDoor
open Go.RowKit Am
set_option maxHeartbeats 2000000 in
theorem FnExactCellLine_law (x0 : TCell) (h0 : DOkL x0.c) (x1 : TValue) (h1 : DOkL x1.c) (x2 : Bool) (h2 : DOk (.bool x2)) : ∃ k, w_FnExactCellLine k x0 x1 x2 = some true := by
  rcases szR_cut (b := TCell.bk x0) (left := 1048576) (by omega) with ⟨c0, e0, g0, q0, p0, r0⟩ | ⟨e0, q0⟩
  rotate_left
  · refine Ev.get ?_
    have z0 := w_szCell_law x0 h0
    refine ((Ev.of fun _ => trivial : Ev fun _ => True)).mono ?_
    rintro k _
    unfold w_FnExactCellLine
    rw [z0 1048576 (by omega) (by omega), Option.bind_some, e0, if_pos (by decide)]
  rcases szR_cut (b := TValue.bk x1) (left := c0) r0 with ⟨c1, e1, g1, q1, p1, r1⟩ | ⟨e1, q1⟩
  rotate_left
  · refine Ev.get ?_
    have z0 := w_szCell_law x0 h0
    refine (w_szValue_law x1 h1).mono ?_
    rintro k z1
    unfold w_FnExactCellLine
    rw [z0 1048576 (by omega) (by omega), Option.bind_some, e0, if_neg g0, z1 c0 p0 r0, Option.bind_some, e1, if_pos (by decide)]
  have b0 : TCell.bk x0 ≤ 1048576 := by omega
  have b1 : TValue.bk x1 ≤ 1048576 := by omega
  obtain ⟨v, vb0, ag⟩ := CellLine_agree x0 h0 b0 x1 h1 b1 x2 h2
  refine Ev.get ?_
  have z0 := w_szCell_law x0 h0
  have to0 := w_toCell_law x0 b0
  have eqr0 := w_eqLine_law v vb0
  refine ((w_szValue_law x1 h1).and ((ag).and ((w_toValue_law x1 b1).and (w_eqValue_law x1 (by omega))))).mono ?_
  rintro k ⟨z1, ⟨aS, aI⟩, to1, eq1⟩
  unfold w_FnExactCellLine
  rw [z0 1048576 (by omega) (by omega), Option.bind_some, e0, if_neg g0, z1 c0 p0 r0, Option.bind_some, e1, if_neg g1]
  simp [aS, aI, to0, to1, eq1, eqr0]
end Go.Proofs.YtmiboaogfjgkjaaDoor
