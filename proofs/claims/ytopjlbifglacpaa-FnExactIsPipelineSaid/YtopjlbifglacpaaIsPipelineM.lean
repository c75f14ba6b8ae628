/- FnExactIsPipeline: the mirrored law answers true. Written by a program of mine. -/
import Derived.Test.YtopjlbifglacpaaLs
import Derived.Test.YtopjlbifglacpaaIsPipelineL
set_option linter.unusedSimpArgs false
set_option linter.unusedVariables false
namespace Go.Proofs.Ytopjlbifglacpaa
open Go.RowKit Am

theorem FnExactIsPipeline_law (x0 : TExpr) (h0 : DOkL x0.c) : ∃ k, w_FnExactIsPipeline k x0 = some true := by
  rcases szR_cut (b := TExpr.bk x0) (left := 1048576) (by omega) with ⟨c0, e0, g0, q0, p0, r0⟩ | ⟨e0, q0⟩
  rotate_left
  · refine Ev.get ?_
    refine (w_szExpr_law x0 h0).mono ?_
    rintro k z0
    unfold w_FnExactIsPipeline
    rw [z0 1048576 (by omega) (by omega), Option.bind_some, e0, if_pos (by decide)]
  have b0 : TExpr.bk x0 ≤ 1048576 := by omega
  obtain ⟨v, ag⟩ := IsPipeline_agree x0 h0 b0
  refine Ev.get ?_
  refine ((w_szExpr_law x0 h0).and ((ag).and ((w_toExpr_law x0 b0).and (w_eqExpr_law x0 b0)))).mono ?_
  rintro k ⟨z0, ⟨aS, aI⟩, to0, eq0⟩
  unfold w_FnExactIsPipeline
  rw [z0 1048576 (by omega) (by omega), Option.bind_some, e0, if_neg g0]
  simp [aS, aI, to0, eq0]
end Go.Proofs.Ytopjlbifglacpaa
