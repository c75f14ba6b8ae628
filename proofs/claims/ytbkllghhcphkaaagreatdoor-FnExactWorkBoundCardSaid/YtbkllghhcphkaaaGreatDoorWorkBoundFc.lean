import Derived.Test.YtbkllghhcphkaaaGreatDoorCards
import Derived.ProofKit
import Derived.JoinedOf
set_option linter.unusedSimpArgs false
set_option linter.unusedVariables false
set_option maxRecDepth 100000
namespace Go.Proofs.YtbkllghhcphkaaaGreatDoor
open Go Go.RowKit
theorem Zuj:laidOutB Tryz.prog=true:=by kernel_rfl
theorem Zuf:mapsRowed Tryz.prog=true:=by kernel_rfl
theorem Zuk:(Rows.fnExactWorkBoundRow.plainKeys==Tryz.prog.plainKeys)=true:=by kernel_rfl
theorem Zsq:Tryz.prog.stopsHeard=true:=by kernel_rfl
end Go.Proofs.YtbkllghhcphkaaaGreatDoor
