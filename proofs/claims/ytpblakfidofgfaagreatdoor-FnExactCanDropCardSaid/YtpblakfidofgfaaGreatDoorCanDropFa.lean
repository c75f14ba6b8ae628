/- Closed facts apart: row FnExactCanDrop, a. Written by a program of mine. -/
import Derived.Test.YtpblakfidofgfaaGreatDoorCards
import Derived.ProofKit
import Derived.JoinedOf
set_option linter.unusedSimpArgs false
set_option linter.unusedVariables false
set_option maxRecDepth 100000
namespace Go.Proofs.YtpblakfidofgfaaGreatDoor.fnExactCanDrop
open Go Go.RowKit
theorem c_inPlace : (Rows.fnExactCanDropRow.inPlace == Tryz.prog.inPlace 4) = true := by kernel_rfl
theorem c_unfollowed : (Rows.fnExactCanDropRow.unfollowed == Tryz.prog.unfollowed 4) = true := by kernel_rfl
theorem c_named : (Rows.fnExactCanDropRow.named == Tryz.prog.varsNamed 4) = true := by kernel_rfl
end Go.Proofs.YtpblakfidofgfaaGreatDoor.fnExactCanDrop
