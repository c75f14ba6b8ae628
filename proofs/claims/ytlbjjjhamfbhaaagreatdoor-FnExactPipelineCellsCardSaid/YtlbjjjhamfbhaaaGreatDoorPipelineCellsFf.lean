import Derived.Test.YtlbjjjhamfbhaaaGreatDoorCards
import Derived.ProofKit
import Derived.JoinedOf
set_option linter.unusedSimpArgs false
set_option linter.unusedVariables false
set_option maxRecDepth 100000
namespace Go.Proofs.YtlbjjjhamfbhaaaGreatDoor
open Go Go.RowKit
theorem Zrp:Tryz.prog.mainIs=some (true,"c9f26b0b530edaf2e26446ae6b487aa9318b332784eae9838a6597f2c3eb4245".toList):=by kernel_rfl
end Go.Proofs.YtlbjjjhamfbhaaaGreatDoor
