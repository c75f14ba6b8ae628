/- Functions of the program that read as the reference's own do. Written by a program of mine. -/
import Derived.Test.YtmiboaogfjgkjaaMd2
set_option linter.unusedSimpArgs false
set_option linter.unusedVariables false
namespace Go.Proofs.Ytmiboaogfjgkjaa
open Go.RowKit Am

theorem i_EntryIndex_u1_eqv : @i_EntryIndex_u1 = @s_EntryIndex_u1 := by
  funext b0 b1 n
  induction n with
  | zero => funext y0; rfl
  | succ n ih =>
    funext y0
    simp only [i_EntryIndex_u1, s_EntryIndex_u1, ih]
    try rfl
theorem i_EntryIndex_eqv : @i_EntryIndex = @s_EntryIndex := by
  funext b0 b1 b2
  simp only [i_EntryIndex, s_EntryIndex, i_EntryIndex_u1_eqv]
  try rfl
end Go.Proofs.Ytmiboaogfjgkjaa
