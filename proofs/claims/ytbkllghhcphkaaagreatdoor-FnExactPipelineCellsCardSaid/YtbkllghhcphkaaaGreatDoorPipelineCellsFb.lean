import Derived.Test.YtbkllghhcphkaaaGreatDoorCards
import Derived.ProofKit
import Derived.JoinedOf
set_option linter.unusedSimpArgs false
set_option linter.unusedVariables false
set_option maxRecDepth 100000
namespace Go.Proofs.YtbkllghhcphkaaaGreatDoor
open Go Go.RowKit
theorem ZkU:(Rows.fnExactPipelineCellsRow.recurses==Tryz.prog.recurses 3)=true:=by kernel_rfl
theorem Zsy:(Rows.fnExactPipelineCellsRow.lifted==Tryz.prog.liftsFinal)=true:=by kernel_rfl
theorem Zsw:(Tryz.prog.make==some Rows.fnExactPipelineCellsRow.make)=true:=by kernel_rfl
end Go.Proofs.YtbkllghhcphkaaaGreatDoor
