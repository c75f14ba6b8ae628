/- Mirrored functions that answer: rules by which an answer, and what holds of it, is found piece by piece. Nothing of the program is used here. -/
import Derived.Test.YtbknilpmpjjfpaaGreatPkC
set_option linter.unusedSimpArgs false
set_option linter.unusedVariables false
namespace Go.Proofs.YtbknilpmpjjfpaaGreat
open Go.RowKit Am
section
variable {α β γ ε σ : Type} {p : α → Prop} {q : β → Prop}
variable {Inv : σ → Prop} {Post : ε → Prop} {U : Nat → Nat → σ → Option ε}
end
end Go.Proofs.YtbknilpmpjjfpaaGreat
