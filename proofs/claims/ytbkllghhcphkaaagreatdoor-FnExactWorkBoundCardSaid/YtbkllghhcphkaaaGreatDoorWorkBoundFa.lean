import Derived.Test.YtbkllghhcphkaaaGreatDoorCards
import Derived.ProofKit
import Derived.JoinedOf
set_option linter.unusedSimpArgs false
set_option linter.unusedVariables false
set_option maxRecDepth 100000
namespace Go.Proofs.YtbkllghhcphkaaaGreatDoor
open Go Go.RowKit
theorem ZoQ:(Rows.fnExactWorkBoundRow.inPlace==Tryz.prog.inPlace 4)=true:=by kernel_rfl
theorem Zkc:(Rows.fnExactWorkBoundRow.unfollowed==Tryz.prog.unfollowed 4)=true:=by kernel_rfl
theorem Zso:(Rows.fnExactWorkBoundRow.named==Tryz.prog.varsNamed 4)=true:=by kernel_rfl
end Go.Proofs.YtbkllghhcphkaaaGreatDoor
