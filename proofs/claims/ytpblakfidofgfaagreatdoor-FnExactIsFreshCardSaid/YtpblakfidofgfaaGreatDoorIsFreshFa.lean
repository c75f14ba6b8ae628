/- Closed facts apart: row FnExactIsFresh, a. Written by a program of mine. -/
import Derived.Test.YtpblakfidofgfaaGreatDoorCards
import Derived.ProofKit
import Derived.JoinedOf
set_option linter.unusedSimpArgs false
set_option linter.unusedVariables false
set_option maxRecDepth 100000
namespace Go.Proofs.YtpblakfidofgfaaGreatDoor.fnExactIsFresh
open Go Go.RowKit
theorem c_inPlace : (Rows.fnExactIsFreshRow.inPlace == Tryz.prog.inPlace 3) = true := by kernel_rfl
theorem c_unfollowed : (Rows.fnExactIsFreshRow.unfollowed == Tryz.prog.unfollowed 3) = true := by kernel_rfl
theorem c_named : (Rows.fnExactIsFreshRow.named == Tryz.prog.varsNamed 3) = true := by kernel_rfl
end Go.Proofs.YtpblakfidofgfaaGreatDoor.fnExactIsFresh
