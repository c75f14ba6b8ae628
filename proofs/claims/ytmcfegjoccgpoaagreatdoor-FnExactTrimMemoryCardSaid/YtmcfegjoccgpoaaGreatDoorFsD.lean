/- Closed facts apart: facts of the program, d. Written by a program of mine. -/
import Derived.Test.YtmcfegjoccgpoaaGreatDoorCards
import Derived.ProofKit
import Derived.JoinedOf
set_option linter.unusedSimpArgs false
set_option linter.unusedVariables false
set_option maxRecDepth 100000
namespace Go.Proofs.YtmcfegjoccgpoaaGreatDoor
open Go Go.RowKit
theorem s_main : Tryz.prog.mainIs = some (true, "5302960cd6026adfa3c3044981f7848c01e197fa70397cb2611dd108d1ab17eb".toList) := by kernel_rfl
end Go.Proofs.YtmcfegjoccgpoaaGreatDoor
