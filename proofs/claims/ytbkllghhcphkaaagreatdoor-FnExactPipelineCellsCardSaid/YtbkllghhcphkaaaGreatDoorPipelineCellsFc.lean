import Derived.Test.YtbkllghhcphkaaaGreatDoorCards
import Derived.ProofKit
import Derived.JoinedOf
set_option linter.unusedSimpArgs false
set_option linter.unusedVariables false
set_option maxRecDepth 100000
namespace Go.Proofs.YtbkllghhcphkaaaGreatDoor
open Go Go.RowKit
theorem Zsz:laidOutB Tryz.prog=true:=by kernel_rfl
theorem Zsv:mapsRowed Tryz.prog=true:=by kernel_rfl
theorem ZsA:(Rows.fnExactPipelineCellsRow.plainKeys==Tryz.prog.plainKeys)=true:=by kernel_rfl
theorem ZqA:Tryz.prog.stopsHeard=true:=by kernel_rfl
end Go.Proofs.YtbkllghhcphkaaaGreatDoor
