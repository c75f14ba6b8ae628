/- Closed facts apart: row FnExactIsSettled, a. Written by a program of mine. -/
import Derived.Test.YtpblakfidofgfaaGreatDoorCards
import Derived.ProofKit
import Derived.JoinedOf
set_option linter.unusedSimpArgs false
set_option linter.unusedVariables false
set_option maxRecDepth 100000
namespace Go.Proofs.YtpblakfidofgfaaGreatDoor.fnExactIsSettled
open Go Go.RowKit
theorem c_inPlace : (Rows.fnExactIsSettledRow.inPlace == Tryz.prog.inPlace 6) = true := by kernel_rfl
theorem c_unfollowed : (Rows.fnExactIsSettledRow.unfollowed == Tryz.prog.unfollowed 6) = true := by kernel_rfl
theorem c_named : (Rows.fnExactIsSettledRow.named == Tryz.prog.varsNamed 6) = true := by kernel_rfl
end Go.Proofs.YtpblakfidofgfaaGreatDoor.fnExactIsSettled
