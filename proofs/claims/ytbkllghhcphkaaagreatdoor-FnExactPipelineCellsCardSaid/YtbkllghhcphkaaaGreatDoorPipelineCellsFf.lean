import Derived.Test.YtbkllghhcphkaaaGreatDoorCards
import Derived.ProofKit
import Derived.JoinedOf
set_option linter.unusedSimpArgs false
set_option linter.unusedVariables false
set_option maxRecDepth 100000
namespace Go.Proofs.YtbkllghhcphkaaaGreatDoor
open Go Go.RowKit
theorem Zsx:Tryz.prog.mainIs=some (true,"3b5b35188fb62e33bb25891fcf1f7dfb2ee7e326be01b17b8d4cd9f614d35da8".toList):=by kernel_rfl
end Go.Proofs.YtbkllghhcphkaaaGreatDoor
