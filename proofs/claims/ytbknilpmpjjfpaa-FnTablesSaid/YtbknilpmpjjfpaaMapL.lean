/- Loops that lay one new element after another. Nothing of the program is used here. -/
import Derived.Test.YtbknilpmpjjfpaaTo
set_option linter.unusedSimpArgs false
set_option linter.unusedVariables false
namespace Go.Proofs.Ytbknilpmpjjfpaa
open Go.RowKit Am
theorem app_big {α : Type} {b : Nat} {xs ys : List α} (h : xs.length + ys.length ≤ 4294967296) (hb : b ≤ 16384) : app? b xs ys = some (xs ++ ys) := by
  unfold app?
  rw [if_pos ⟨by omega, Nat.le_trans (Nat.mul_le_mul h hb) (by omega)⟩]
end Go.Proofs.Ytbknilpmpjjfpaa
