import Derived.Test.YtbkllghhcphkaaaGreatDoorCards
import Derived.ProofKit
import Derived.JoinedOf
set_option linter.unusedSimpArgs false
set_option linter.unusedVariables false
set_option maxRecDepth 100000
namespace Go.Proofs.YtbkllghhcphkaaaGreatDoor
open Go Go.RowKit
theorem ZmD:(Rows.fnExactPipelineCellsRow.inPlace==Tryz.prog.inPlace 3)=true:=by kernel_rfl
theorem ZhG:(Rows.fnExactPipelineCellsRow.unfollowed==Tryz.prog.unfollowed 3)=true:=by kernel_rfl
theorem Zqy:(Rows.fnExactPipelineCellsRow.named==Tryz.prog.varsNamed 3)=true:=by kernel_rfl
end Go.Proofs.YtbkllghhcphkaaaGreatDoor
