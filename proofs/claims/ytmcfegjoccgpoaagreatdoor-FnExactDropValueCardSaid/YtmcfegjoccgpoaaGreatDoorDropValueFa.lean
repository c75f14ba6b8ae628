/- Closed facts apart: row FnExactDropValue, a. Written by a program of mine. -/
import Derived.Test.YtmcfegjoccgpoaaGreatDoorCards
import Derived.ProofKit
import Derived.JoinedOf
set_option linter.unusedSimpArgs false
set_option linter.unusedVariables false
set_option maxRecDepth 100000
namespace Go.Proofs.YtmcfegjoccgpoaaGreatDoor.fnExactDropValue
open Go Go.RowKit
theorem c_inPlace : (Rows.fnExactDropValueRow.inPlace == Tryz.prog.inPlace 5) = true := by kernel_rfl
theorem c_unfollowed : (Rows.fnExactDropValueRow.unfollowed == Tryz.prog.unfollowed 5) = true := by kernel_rfl
theorem c_named : (Rows.fnExactDropValueRow.named == Tryz.prog.varsNamed 5) = true := by kernel_rfl
end Go.Proofs.YtmcfegjoccgpoaaGreatDoor.fnExactDropValue
