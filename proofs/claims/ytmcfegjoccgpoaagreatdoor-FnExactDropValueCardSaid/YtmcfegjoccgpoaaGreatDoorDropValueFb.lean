/- Closed facts apart: row FnExactDropValue, b. Written by a program of mine. -/
import Derived.Test.YtmcfegjoccgpoaaGreatDoorCards
import Derived.ProofKit
import Derived.JoinedOf
set_option linter.unusedSimpArgs false
set_option linter.unusedVariables false
set_option maxRecDepth 100000
namespace Go.Proofs.YtmcfegjoccgpoaaGreatDoor.fnExactDropValue
open Go Go.RowKit
theorem c_recurses : (Rows.fnExactDropValueRow.recurses == Tryz.prog.recurses 5) = true := by kernel_rfl
theorem c_goes1 : ((Tryz.prog.closure 5).any fun g => (Tryz.prog.funcs[g]?).any Func.goes) = false := by kernel_rfl
theorem c_fn : Tryz.prog.funcNamed "loop.example/g00510/laws.FnExactDropValue" = some 5 := by kernel_rfl
end Go.Proofs.YtmcfegjoccgpoaaGreatDoor.fnExactDropValue
