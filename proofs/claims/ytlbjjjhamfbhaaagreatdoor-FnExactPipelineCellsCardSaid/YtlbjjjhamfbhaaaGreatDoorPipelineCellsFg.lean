import Derived.Test.YtlbjjjhamfbhaaaGreatDoorCards
import Derived.ProofKit
import Derived.JoinedOf
set_option linter.unusedSimpArgs false
set_option linter.unusedVariables false
set_option maxRecDepth 100000
namespace Go.Proofs.YtlbjjjhamfbhaaaGreatDoor
open Go Go.RowKit
theorem ZpI:true=Tryz.prog.looks []:=by kernel_rfl
theorem ZpG:([24].all fun u=>!Tryz.prog.wantsStandIn u)=true:=by kernel_rfl
end Go.Proofs.YtlbjjjhamfbhaaaGreatDoor
