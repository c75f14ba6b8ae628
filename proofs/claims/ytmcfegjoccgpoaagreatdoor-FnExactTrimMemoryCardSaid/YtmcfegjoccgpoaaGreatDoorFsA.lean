/- Closed facts apart: facts of the program, a. Written by a program of mine. -/
import Derived.Test.YtmcfegjoccgpoaaGreatDoorCards
import Derived.ProofKit
import Derived.JoinedOf
set_option linter.unusedSimpArgs false
set_option linter.unusedVariables false
set_option maxRecDepth 100000
namespace Go.Proofs.YtmcfegjoccgpoaaGreatDoor
open Go Go.RowKit
theorem s_laid : laidOutB Tryz.prog = true := by kernel_rfl
theorem s_maps : mapsRowed Tryz.prog = true := by kernel_rfl
theorem s_keys : (Rows.fnExactInputStampsRow.plainKeys == Tryz.prog.plainKeys) = true := by kernel_rfl
theorem s_heard : Tryz.prog.stopsHeard = true := by kernel_rfl
end Go.Proofs.YtmcfegjoccgpoaaGreatDoor
