import Derived.Test.YtbkllghhcphkaaaGreatDoorCards
import Derived.ProofKit
import Derived.JoinedOf
set_option linter.unusedSimpArgs false
set_option linter.unusedVariables false
set_option maxRecDepth 100000
namespace Go.Proofs.YtbkllghhcphkaaaGreatDoor
open Go Go.RowKit
theorem ZqC:((Tryz.prog.closure 3).any fun g=>(Tryz.prog.funcs[g]?).any Func.goes)=false:=by kernel_rfl
theorem ZqB:Tryz.prog.funcs.any Func.goes=false:=by kernel_rfl
theorem ZuO:Tryz.prog.funcNamed "loop.example/g00510/laws.FnExactPipelineCells"=some 3:=by kernel_rfl
end Go.Proofs.YtbkllghhcphkaaaGreatDoor
