/- Closed facts apart: row FnExactTrimMemory, b. Written by a program of mine. -/
import Derived.Test.YtmcfegjoccgpoaaGreatDoorCards
import Derived.ProofKit
import Derived.JoinedOf
set_option linter.unusedSimpArgs false
set_option linter.unusedVariables false
set_option maxRecDepth 100000
namespace Go.Proofs.YtmcfegjoccgpoaaGreatDoor.fnExactTrimMemory
open Go Go.RowKit
theorem c_recurses : (Rows.fnExactTrimMemoryRow.recurses == Tryz.prog.recurses 7) = true := by kernel_rfl
theorem c_goes1 : ((Tryz.prog.closure 7).any fun g => (Tryz.prog.funcs[g]?).any Func.goes) = false := by kernel_rfl
theorem c_fn : Tryz.prog.funcNamed "loop.example/g00510/laws.FnExactTrimMemory" = some 7 := by kernel_rfl
end Go.Proofs.YtmcfegjoccgpoaaGreatDoor.fnExactTrimMemory
