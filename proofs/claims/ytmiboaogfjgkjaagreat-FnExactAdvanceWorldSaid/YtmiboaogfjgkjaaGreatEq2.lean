/- Functions of the program that read as the reference's own do. Written by a program of mine. -/
import Derived.Test.YtmiboaogfjgkjaaGreatMd1
import Derived.Test.YtmiboaogfjgkjaaGreatMd2
import Derived.Test.YtmiboaogfjgkjaaGreatEq1
set_option linter.unusedSimpArgs false
set_option linter.unusedVariables false
namespace Go.Proofs.YtmiboaogfjgkjaaGreat
open Go.RowKit Am

theorem i_isNumber_eqv : @i_isNumber = @s_l3Number := by
  funext b0
  simp only [i_isNumber, s_l3Number, i_within_eqv]
  try rfl
end Go.Proofs.YtmiboaogfjgkjaaGreat
