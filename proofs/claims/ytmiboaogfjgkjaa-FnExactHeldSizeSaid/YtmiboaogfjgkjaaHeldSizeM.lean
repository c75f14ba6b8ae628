/- FnExactHeldSize: the mirrored law answers true. Written by a program of mine. -/
import Derived.Test.YtmiboaogfjgkjaaLs
import Derived.Test.YtmiboaogfjgkjaaHeldSizeL
import Derived.Test.YtmiboaogfjgkjaaLaFnExactHeldSize
set_option linter.unusedSimpArgs false
set_option linter.unusedVariables false
namespace Go.Proofs.Ytmiboaogfjgkjaa
open Go.RowKit Am

set_option maxHeartbeats 2000000 in
theorem FnExactHeldSize_law (x0 : TEngine) (h0 : DOkL x0.c) : ∃ k, w_FnExactHeldSize k x0 = some true := by
  rcases szR_cut (b := TEngine.bk x0) (left := 1048576) (by omega) with ⟨c0, e0, g0, q0, p0, r0⟩ | ⟨e0, q0⟩
  rotate_left
  · refine Ev.get ?_
    refine (w_szEngine_law x0 h0).mono ?_
    rintro k z0
    unfold w_FnExactHeldSize
    rw [z0 1048576 (by omega) (by omega), Option.bind_some, e0, if_pos (by decide)]
  have b0 : TEngine.bk x0 ≤ 1048576 := by omega
  obtain ⟨v, ag⟩ := HeldSize_agree x0 h0 b0
  refine Ev.get ?_
  refine ((w_szEngine_law x0 h0).and ((ag).and ((w_toEngine_law x0 b0).and (w_eqEngine_law x0 (by omega))))).mono ?_
  rintro k ⟨z0, ⟨aS, aI⟩, to0, eq0⟩
  unfold w_FnExactHeldSize
  rw [z0 1048576 (by omega) (by omega), Option.bind_some, e0, if_neg g0]
  simp [aS, aI, to0, eq0]
end Go.Proofs.Ytmiboaogfjgkjaa
