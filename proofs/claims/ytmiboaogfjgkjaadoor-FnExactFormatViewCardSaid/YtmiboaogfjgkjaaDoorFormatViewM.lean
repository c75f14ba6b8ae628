/- FnExactFormatView: the mirrored law answers true. Written by a program of mine. -/
import Derived.Test.YtmiboaogfjgkjaaDoorLs
import Derived.Test.YtmiboaogfjgkjaaDoorFormatViewL
import Derived.Test.YtmiboaogfjgkjaaDoorLaFnExactFormatView
set_option linter.unusedSimpArgs false
set_option linter.unusedVariables false
namespace Go.Proofs.YtmiboaogfjgkjaaDoor
open Go.RowKit Am
set_option maxHeartbeats 2000000 in
theorem FnExactFormatView_law (x0 : List TLine) (h0 : DOk (.sl (x0.map TLine.c))) : ∃ k, w_FnExactFormatView k x0 = some true := by
  rcases szR_cut (b := bkS TLine.bk x0) (left := 1048576) (by omega) with ⟨c0, e0, g0, q0, p0, r0⟩ | ⟨e0, q0⟩
  rotate_left
  · refine Ev.get ?_
    refine (w_szLineS_law x0 h0).mono ?_
    rintro k z0
    unfold w_FnExactFormatView
    rw [z0 1048576 (by omega) (by omega), Option.bind_some, e0, if_pos (by decide)]
  have b0 : bkS TLine.bk x0 ≤ 1048576 := by omega
  obtain ⟨v, ag⟩ := FormatView_agree x0 h0 b0
  refine Ev.get ?_
  refine ((w_szLineS_law x0 h0).and ((ag).and ((w_toLineS_law x0 b0).and (w_eqLineS_law x0 (by omega))))).mono ?_
  rintro k ⟨z0, ⟨aS, aI⟩, to0, eq0⟩
  unfold w_FnExactFormatView
  rw [z0 1048576 (by omega) (by omega), Option.bind_some, e0, if_neg g0]
  simp [aS, aI, to0, eq0]
end Go.Proofs.YtmiboaogfjgkjaaDoor
