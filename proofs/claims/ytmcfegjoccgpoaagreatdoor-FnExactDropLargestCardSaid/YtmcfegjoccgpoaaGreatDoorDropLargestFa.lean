/- Closed facts apart: row FnExactDropLargest, a. Written by a program of mine. -/
import Derived.Test.YtmcfegjoccgpoaaGreatDoorCards
import Derived.ProofKit
import Derived.JoinedOf
set_option linter.unusedSimpArgs false
set_option linter.unusedVariables false
set_option maxRecDepth 100000
namespace Go.Proofs.YtmcfegjoccgpoaaGreatDoor.fnExactDropLargest
open Go Go.RowKit
theorem c_inPlace : (Rows.fnExactDropLargestRow.inPlace == Tryz.prog.inPlace 6) = true := by kernel_rfl
theorem c_unfollowed : (Rows.fnExactDropLargestRow.unfollowed == Tryz.prog.unfollowed 6) = true := by kernel_rfl
theorem c_named : (Rows.fnExactDropLargestRow.named == Tryz.prog.varsNamed 6) = true := by kernel_rfl
end Go.Proofs.YtmcfegjoccgpoaaGreatDoor.fnExactDropLargest
