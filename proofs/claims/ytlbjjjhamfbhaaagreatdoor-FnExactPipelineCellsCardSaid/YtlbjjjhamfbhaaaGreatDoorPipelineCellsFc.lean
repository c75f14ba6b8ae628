import Derived.Test.YtlbjjjhamfbhaaaGreatDoorCards
import Derived.ProofKit
import Derived.JoinedOf
set_option linter.unusedSimpArgs false
set_option linter.unusedVariables false
set_option maxRecDepth 100000
namespace Go.Proofs.YtlbjjjhamfbhaaaGreatDoor
open Go Go.RowKit
theorem Zrr:laidOutB Tryz.prog=true:=by kernel_rfl
theorem Zrn:mapsRowed Tryz.prog=true:=by kernel_rfl
theorem Zrs:(Rows.fnExactPipelineCellsRow.plainKeys==Tryz.prog.plainKeys)=true:=by kernel_rfl
theorem ZpJ:Tryz.prog.stopsHeard=true:=by kernel_rfl
end Go.Proofs.YtlbjjjhamfbhaaaGreatDoor
