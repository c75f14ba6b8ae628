/- Functions of the program that read as the reference's own do. Written by a program of mine. -/
import Derived.Test.YtmiboaogfjgkjaaMd5
import Derived.Test.YtmiboaogfjgkjaaMd6
import Derived.Test.YtmiboaogfjgkjaaEq1
set_option linter.unusedSimpArgs false
set_option linter.unusedVariables false
namespace Go.Proofs.Ytmiboaogfjgkjaa
open Go.RowKit Am

theorem i_isNumber_eqv : @i_isNumber = @s_l3Number := by
  funext b0
  simp only [i_isNumber, s_l3Number, i_within_eqv]
  try rfl
theorem i_IsValidText_u1_eqv : @i_IsValidText_u1 = @s_IsValidText_u1 := by
  funext b0 n
  induction n with
  | zero => funext y0; rfl
  | succ n ih =>
    funext y0
    simp only [i_IsValidText_u1, s_IsValidText_u1, ih]
    try rfl
theorem i_IsValidText_eqv : @i_IsValidText = @s_IsValidText := by
  funext b0 b1
  simp only [i_IsValidText, s_IsValidText, i_IsValidText_u1_eqv]
  try rfl
end Go.Proofs.Ytmiboaogfjgkjaa
