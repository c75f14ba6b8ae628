/- Functions of the program that read as the reference's own do. Written by a program of mine. -/
import Derived.Test.YtbknilpmpjjfpaaGreatMd0
import Derived.Test.YtbknilpmpjjfpaaGreatMd1
import Derived.Test.YtbknilpmpjjfpaaGreatMd2
set_option linter.unusedSimpArgs false
set_option linter.unusedVariables false
namespace Go.Proofs.YtbknilpmpjjfpaaGreat
open Go.RowKit Am
theorem i_IsPrintable_u1_eqv : @i_IsPrintable_u1 = @s_IsPrintable_u1 := by
  funext b0 n
  induction n with
  | zero => funext y0; rfl
  | succ n ih =>
    funext y0
    simp only [i_IsPrintable_u1, s_IsPrintable_u1, ih]
    try rfl
theorem i_IsPrintable_eqv : @i_IsPrintable = @s_IsPrintable := by
  funext b0 b1
  simp only [i_IsPrintable, s_IsPrintable, i_IsPrintable_u1_eqv]
  try rfl
theorem i_CellIndex_u1_eqv : @i_CellIndex_u1 = @s_CellIndex_u1 := by
  funext b0 b1 n
  induction n with
  | zero => funext y0; rfl
  | succ n ih =>
    funext y0
    simp only [i_CellIndex_u1, s_CellIndex_u1, ih]
    try rfl
theorem i_CellIndex_eqv : @i_CellIndex = @s_CellIndex := by
  funext b0 b1 b2
  simp only [i_CellIndex, s_CellIndex, i_CellIndex_u1_eqv]
  try rfl
end Go.Proofs.YtbknilpmpjjfpaaGreat
