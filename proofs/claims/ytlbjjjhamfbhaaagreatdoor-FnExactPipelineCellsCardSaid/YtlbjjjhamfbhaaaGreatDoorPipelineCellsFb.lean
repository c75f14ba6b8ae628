import Derived.Test.YtlbjjjhamfbhaaaGreatDoorCards
import Derived.ProofKit
import Derived.JoinedOf
set_option linter.unusedSimpArgs false
set_option linter.unusedVariables false
set_option maxRecDepth 100000
namespace Go.Proofs.YtlbjjjhamfbhaaaGreatDoor
open Go Go.RowKit
theorem ZkM:(Rows.fnExactPipelineCellsRow.recurses==Tryz.prog.recurses 3)=true:=by kernel_rfl
theorem Zrq:(Rows.fnExactPipelineCellsRow.lifted==Tryz.prog.liftsFinal)=true:=by kernel_rfl
theorem Zro:(Tryz.prog.make==some Rows.fnExactPipelineCellsRow.make)=true:=by kernel_rfl
end Go.Proofs.YtlbjjjhamfbhaaaGreatDoor
