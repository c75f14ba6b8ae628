/- Closed facts apart: facts of the program, c. Written by a program of mine. -/
import Derived.Test.YtmcfegjoccgpoaaGreatDoorCards
import Derived.ProofKit
import Derived.JoinedOf
set_option linter.unusedSimpArgs false
set_option linter.unusedVariables false
set_option maxRecDepth 100000
namespace Go.Proofs.YtmcfegjoccgpoaaGreatDoor
open Go Go.RowKit
theorem s_enter : Tryz.prog.mayEnter = true := by kernel_rfl
end Go.Proofs.YtmcfegjoccgpoaaGreatDoor
