/- Closed facts apart: row FnExactStaleCells, a. Written by a program of mine. -/
import Derived.Test.YtmcfegjoccgpoaaGreatDoorCards
import Derived.ProofKit
import Derived.JoinedOf
set_option linter.unusedSimpArgs false
set_option linter.unusedVariables false
set_option maxRecDepth 100000
namespace Go.Proofs.YtmcfegjoccgpoaaGreatDoor.fnExactStaleCells
open Go Go.RowKit
theorem c_inPlace : (Rows.fnExactStaleCellsRow.inPlace == Tryz.prog.inPlace 4) = true := by kernel_rfl
theorem c_unfollowed : (Rows.fnExactStaleCellsRow.unfollowed == Tryz.prog.unfollowed 4) = true := by kernel_rfl
theorem c_named : (Rows.fnExactStaleCellsRow.named == Tryz.prog.varsNamed 4) = true := by kernel_rfl
end Go.Proofs.YtmcfegjoccgpoaaGreatDoor.fnExactStaleCells
