/- Closed facts apart: types that want no stand-in. Written by a program of mine. -/
import Derived.Test.YtmcfegjoccgpoaaGreatDoorCards
import Derived.ProofKit
import Derived.JoinedOf
set_option linter.unusedSimpArgs false
set_option linter.unusedVariables false
set_option maxRecDepth 100000
namespace Go.Proofs.YtmcfegjoccgpoaaGreatDoor
open Go Go.RowKit
theorem s_stand3 : Tryz.prog.wantsStandIn 3 = false := by kernel_rfl
theorem s_stand31 : Tryz.prog.wantsStandIn 31 = false := by kernel_rfl
end Go.Proofs.YtmcfegjoccgpoaaGreatDoor
