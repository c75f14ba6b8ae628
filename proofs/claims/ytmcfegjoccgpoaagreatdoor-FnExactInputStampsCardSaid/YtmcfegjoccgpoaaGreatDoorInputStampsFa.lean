/- Closed facts apart: row FnExactInputStamps, a. Written by a program of mine. -/
import Derived.Test.YtmcfegjoccgpoaaGreatDoorCards
import Derived.ProofKit
import Derived.JoinedOf
set_option linter.unusedSimpArgs false
set_option linter.unusedVariables false
set_option maxRecDepth 100000
namespace Go.Proofs.YtmcfegjoccgpoaaGreatDoor.fnExactInputStamps
open Go Go.RowKit
theorem c_inPlace : (Rows.fnExactInputStampsRow.inPlace == Tryz.prog.inPlace 3) = true := by kernel_rfl
theorem c_unfollowed : (Rows.fnExactInputStampsRow.unfollowed == Tryz.prog.unfollowed 3) = true := by kernel_rfl
theorem c_named : (Rows.fnExactInputStampsRow.named == Tryz.prog.varsNamed 3) = true := by kernel_rfl
end Go.Proofs.YtmcfegjoccgpoaaGreatDoor.fnExactInputStamps
