/- Closed facts apart: row FnExactNextCell, b. Written by a program of mine. -/
import Derived.Test.YtpblakfidofgfaaGreatDoorCards
import Derived.ProofKit
import Derived.JoinedOf
set_option linter.unusedSimpArgs false
set_option linter.unusedVariables false
set_option maxRecDepth 100000
namespace Go.Proofs.YtpblakfidofgfaaGreatDoor.fnExactNextCell
open Go Go.RowKit
theorem c_recurses : (Rows.fnExactNextCellRow.recurses == Tryz.prog.recurses 5) = true := by kernel_rfl
theorem c_goes1 : ((Tryz.prog.closure 5).any fun g => (Tryz.prog.funcs[g]?).any Func.goes) = false := by kernel_rfl
theorem c_fn : Tryz.prog.funcNamed "loop.example/g00510/laws.FnExactNextCell" = some 5 := by kernel_rfl
end Go.Proofs.YtpblakfidofgfaaGreatDoor.fnExactNextCell
