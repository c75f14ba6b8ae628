/- Closed facts apart: row FnExactDropLargest, b. Written by a program of mine. -/
import Derived.Test.YtmcfegjoccgpoaaGreatDoorCards
import Derived.ProofKit
import Derived.JoinedOf
set_option linter.unusedSimpArgs false
set_option linter.unusedVariables false
set_option maxRecDepth 100000
namespace Go.Proofs.YtmcfegjoccgpoaaGreatDoor.fnExactDropLargest
open Go Go.RowKit
theorem c_recurses : (Rows.fnExactDropLargestRow.recurses == Tryz.prog.recurses 6) = true := by kernel_rfl
theorem c_goes1 : ((Tryz.prog.closure 6).any fun g => (Tryz.prog.funcs[g]?).any Func.goes) = false := by kernel_rfl
theorem c_fn : Tryz.prog.funcNamed "loop.example/g00510/laws.FnExactDropLargest" = some 6 := by kernel_rfl
end Go.Proofs.YtmcfegjoccgpoaaGreatDoor.fnExactDropLargest
