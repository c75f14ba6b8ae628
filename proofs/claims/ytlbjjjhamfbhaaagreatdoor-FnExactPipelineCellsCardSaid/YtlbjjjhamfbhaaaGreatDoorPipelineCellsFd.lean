import Derived.Test.YtlbjjjhamfbhaaaGreatDoorCards
import Derived.ProofKit
import Derived.JoinedOf
set_option linter.unusedSimpArgs false
set_option linter.unusedVariables false
set_option maxRecDepth 100000
namespace Go.Proofs.YtlbjjjhamfbhaaaGreatDoor
open Go Go.RowKit
theorem ZpL:((Tryz.prog.closure 3).any fun g=>(Tryz.prog.funcs[g]?).any Func.goes)=false:=by kernel_rfl
theorem ZpK:Tryz.prog.funcs.any Func.goes=false:=by kernel_rfl
theorem Zst:Tryz.prog.funcNamed "loop.example/g00510/laws.FnExactPipelineCells"=some 3:=by kernel_rfl
end Go.Proofs.YtlbjjjhamfbhaaaGreatDoor
