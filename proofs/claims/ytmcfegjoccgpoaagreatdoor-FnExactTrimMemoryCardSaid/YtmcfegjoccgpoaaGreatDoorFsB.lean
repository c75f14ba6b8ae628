/- Closed facts apart: facts of the program, b. Written by a program of mine. -/
import Derived.Test.YtmcfegjoccgpoaaGreatDoorCards
import Derived.ProofKit
import Derived.JoinedOf
set_option linter.unusedSimpArgs false
set_option linter.unusedVariables false
set_option maxRecDepth 100000
namespace Go.Proofs.YtmcfegjoccgpoaaGreatDoor
open Go Go.RowKit
theorem s_lift : (Rows.fnExactInputStampsRow.lifted == Tryz.prog.liftsFinal) = true := by kernel_rfl
theorem s_make : (Tryz.prog.make == some Rows.fnExactInputStampsRow.make) = true := by kernel_rfl
theorem s_goes : Tryz.prog.funcs.any Func.goes = false := by kernel_rfl
end Go.Proofs.YtmcfegjoccgpoaaGreatDoor
