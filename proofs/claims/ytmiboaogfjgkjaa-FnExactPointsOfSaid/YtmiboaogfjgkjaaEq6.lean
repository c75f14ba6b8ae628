/- Functions of the program that read as the reference's own do. Written by a program of mine. -/
import Derived.Test.YtmiboaogfjgkjaaMd5
import Derived.Test.YtmiboaogfjgkjaaMd6
import Derived.Test.YtmiboaogfjgkjaaEq1
set_option linter.unusedSimpArgs false
set_option linter.unusedVariables false
namespace Go.Proofs.Ytmiboaogfjgkjaa
open Go.RowKit Am
theorem i_isNumber_eqv : @i_isNumber = @s_l3Number := by
  funext b0
  simp only [i_isNumber, s_l3Number, i_within_eqv]
  try rfl
end Go.Proofs.Ytmiboaogfjgkjaa
