/- Functions of the program that read as the reference's own do. Written by a program of mine. -/
import Derived.Test.YtmiboaogfjgkjaaMd9
set_option linter.unusedSimpArgs false
set_option linter.unusedVariables false
namespace Go.Proofs.Ytmiboaogfjgkjaa
open Go.RowKit Am

theorem i_copyWorld_eqv : @i_copyWorld = @s_l14Copy := by
  funext b0
  simp only [i_copyWorld, s_l14Copy]
  try rfl
end Go.Proofs.Ytmiboaogfjgkjaa
