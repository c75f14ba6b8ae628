import Derived.Test.YtbkllghhcphkaaaGreatDoorCards
import Derived.ProofKit
import Derived.JoinedOf
set_option linter.unusedSimpArgs false
set_option linter.unusedVariables false
set_option maxRecDepth 100000
namespace Go.Proofs.YtbkllghhcphkaaaGreatDoor
open Go Go.RowKit
theorem Znb:(Rows.fnExactWorkBoundRow.recurses==Tryz.prog.recurses 4)=true:=by kernel_rfl
theorem Zui:(Rows.fnExactWorkBoundRow.lifted==Tryz.prog.liftsFinal)=true:=by kernel_rfl
theorem Zug:(Tryz.prog.make==some Rows.fnExactWorkBoundRow.make)=true:=by kernel_rfl
end Go.Proofs.YtbkllghhcphkaaaGreatDoor
