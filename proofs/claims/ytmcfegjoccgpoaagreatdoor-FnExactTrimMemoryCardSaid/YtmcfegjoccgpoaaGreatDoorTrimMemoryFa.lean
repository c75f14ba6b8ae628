/- Closed facts apart: row FnExactTrimMemory, a. Written by a program of mine. -/
import Derived.Test.YtmcfegjoccgpoaaGreatDoorCards
import Derived.ProofKit
import Derived.JoinedOf
set_option linter.unusedSimpArgs false
set_option linter.unusedVariables false
set_option maxRecDepth 100000
namespace Go.Proofs.YtmcfegjoccgpoaaGreatDoor.fnExactTrimMemory
open Go Go.RowKit
theorem c_inPlace : (Rows.fnExactTrimMemoryRow.inPlace == Tryz.prog.inPlace 7) = true := by kernel_rfl
theorem c_unfollowed : (Rows.fnExactTrimMemoryRow.unfollowed == Tryz.prog.unfollowed 7) = true := by kernel_rfl
theorem c_named : (Rows.fnExactTrimMemoryRow.named == Tryz.prog.varsNamed 7) = true := by kernel_rfl
end Go.Proofs.YtmcfegjoccgpoaaGreatDoor.fnExactTrimMemory
