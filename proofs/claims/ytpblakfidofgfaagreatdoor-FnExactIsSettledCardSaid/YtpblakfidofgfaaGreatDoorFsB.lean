/- Closed facts apart: facts of the program, b. Written by a program of mine. -/
import Derived.Test.YtpblakfidofgfaaGreatDoorCards
import Derived.ProofKit
import Derived.JoinedOf
set_option linter.unusedSimpArgs false
set_option linter.unusedVariables false
set_option maxRecDepth 100000
namespace Go.Proofs.YtpblakfidofgfaaGreatDoor
open Go Go.RowKit
theorem s_lift : (Rows.fnExactIsFreshRow.lifted == Tryz.prog.liftsFinal) = true := by kernel_rfl
theorem s_make : (Tryz.prog.make == some Rows.fnExactIsFreshRow.make) = true := by kernel_rfl
theorem s_goes : Tryz.prog.funcs.any Func.goes = false := by kernel_rfl
end Go.Proofs.YtpblakfidofgfaaGreatDoor
