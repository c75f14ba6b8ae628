/- Closed facts apart: row FnExactNextCell, a. Written by a program of mine. -/
import Derived.Test.YtpblakfidofgfaaGreatDoorCards
import Derived.ProofKit
import Derived.JoinedOf
set_option linter.unusedSimpArgs false
set_option linter.unusedVariables false
set_option maxRecDepth 100000
namespace Go.Proofs.YtpblakfidofgfaaGreatDoor.fnExactNextCell
open Go Go.RowKit
theorem c_inPlace : (Rows.fnExactNextCellRow.inPlace == Tryz.prog.inPlace 5) = true := by kernel_rfl
theorem c_unfollowed : (Rows.fnExactNextCellRow.unfollowed == Tryz.prog.unfollowed 5) = true := by kernel_rfl
theorem c_named : (Rows.fnExactNextCellRow.named == Tryz.prog.varsNamed 5) = true := by kernel_rfl
end Go.Proofs.YtpblakfidofgfaaGreatDoor.fnExactNextCell
