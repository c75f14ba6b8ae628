/- Closed facts apart: facts of the program, d. Written by a program of mine. -/
import Derived.Test.YtpblakfidofgfaaGreatDoorCards
import Derived.ProofKit
import Derived.JoinedOf
set_option linter.unusedSimpArgs false
set_option linter.unusedVariables false
set_option maxRecDepth 100000
namespace Go.Proofs.YtpblakfidofgfaaGreatDoor
open Go Go.RowKit
theorem s_main : Tryz.prog.mainIs = some (true, "84d369c707cab10ae6eb2a2dfcf53b8e3531cb9c4afbe6b27bf140d4f57e77a7".toList) := by kernel_rfl
end Go.Proofs.YtpblakfidofgfaaGreatDoor
