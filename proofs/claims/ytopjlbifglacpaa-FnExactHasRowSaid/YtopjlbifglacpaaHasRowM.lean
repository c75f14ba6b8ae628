/- FnExactHasRow: the mirrored law answers true. Written by a program of mine. -/
import Derived.Test.YtopjlbifglacpaaLs
import Derived.Test.YtopjlbifglacpaaHasRowL
set_option linter.unusedSimpArgs false
set_option linter.unusedVariables false
namespace Go.Proofs.Ytopjlbifglacpaa
open Go.RowKit Am

theorem FnExactHasRow_law (x0 : TValue) (h0 : DOkL x0.c) (x1 : TRow) (h1 : DOkL x1.c) : ∃ k, w_FnExactHasRow k x0 x1 = some true := by
  rcases szR_cut (b := TValue.bk x0) (left := 1048576) (by omega) with ⟨c0, e0, g0, q0, p0, r0⟩ | ⟨e0, q0⟩
  rotate_left
  · refine Ev.get ?_
    refine (w_szValue_law x0 h0).mono ?_
    rintro k z0
    unfold w_FnExactHasRow
    rw [z0 1048576 (by omega) (by omega), Option.bind_some, e0, if_pos (by decide)]
  rcases szR_cut (b := TRow.bk x1) (left := c0) r0 with ⟨c1, e1, g1, q1, p1, r1⟩ | ⟨e1, q1⟩
  rotate_left
  · refine Ev.get ?_
    have z1 := w_szRow_law x1 h1
    refine (w_szValue_law x0 h0).mono ?_
    rintro k z0
    unfold w_FnExactHasRow
    rw [z0 1048576 (by omega) (by omega), Option.bind_some, e0, if_neg g0, z1 c0 p0 r0, Option.bind_some, e1, if_pos (by decide)]
  have b0 : TValue.bk x0 ≤ 1048576 := by omega
  have b1 : TRow.bk x1 ≤ 1048576 := by omega
  obtain ⟨v, ag⟩ := HasRow_agree x0 h0 b0 x1 h1 b1
  refine Ev.get ?_
  have z1 := w_szRow_law x1 h1
  refine ((w_szValue_law x0 h0).and ((ag).and ((w_toValue_law x0 b0).and ((w_eqValue_law x0 b0).and ((w_toRow_law x1 b1).and (w_eqRow_law x1 b1)))))).mono ?_
  rintro k ⟨z0, ⟨aS, aI⟩, to0, eq0, to1, eq1⟩
  unfold w_FnExactHasRow
  rw [z0 1048576 (by omega) (by omega), Option.bind_some, e0, if_neg g0, z1 c0 p0 r0, Option.bind_some, e1, if_neg g1]
  simp [aS, aI, to0, eq0, to1, eq1]
end Go.Proofs.Ytopjlbifglacpaa
