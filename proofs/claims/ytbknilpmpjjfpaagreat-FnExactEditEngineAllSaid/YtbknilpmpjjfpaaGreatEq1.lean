/- Functions of the program that read as the reference's own do. Written by a program of mine. -/
import Derived.Test.YtbknilpmpjjfpaaGreatMd0
import Derived.Test.YtbknilpmpjjfpaaGreatMd1
set_option linter.unusedSimpArgs false
set_option linter.unusedVariables false
namespace Go.Proofs.YtbknilpmpjjfpaaGreat
open Go.RowKit Am
theorem i_copyNotebook_eqv : @i_copyNotebook = @s_l17Copy := by
  funext b0
  simp only [i_copyNotebook, s_l17Copy]
  try rfl
theorem i_copyWorld_eqv : @i_copyWorld = @s_l14Copy := by
  funext b0
  simp only [i_copyWorld, s_l14Copy]
  try rfl
end Go.Proofs.YtbknilpmpjjfpaaGreat
