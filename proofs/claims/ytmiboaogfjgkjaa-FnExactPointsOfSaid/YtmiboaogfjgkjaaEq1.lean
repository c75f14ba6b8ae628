/- Functions of the program that read as the reference's own do. Written by a program of mine. -/
import Derived.Test.YtmiboaogfjgkjaaMd1
set_option linter.unusedSimpArgs false
set_option linter.unusedVariables false
namespace Go.Proofs.Ytmiboaogfjgkjaa
open Go.RowKit Am
theorem i_within_eqv : @i_within = @s_l1In := by
  funext b0 b1 b2
  simp only [i_within, s_l1In]
  try rfl
end Go.Proofs.Ytmiboaogfjgkjaa
