/- Functions of the program that read as the reference's own do. Written by a program of mine. -/
import Derived.Test.YtmiboaogfjgkjaaMd0
set_option linter.unusedSimpArgs false
set_option linter.unusedVariables false
namespace Go.Proofs.Ytmiboaogfjgkjaa
open Go.RowKit Am

theorem i_CellIndex_u1_eqv : @i_CellIndex_u1 = @s_CellIndex_u1 := by
  funext b0 b1 n
  induction n with
  | zero => funext y0; rfl
  | succ n ih =>
    funext y0
    simp only [i_CellIndex_u1, s_CellIndex_u1, ih]
    try rfl
theorem i_CellIndex_eqv : @i_CellIndex = @s_CellIndex := by
  funext b0 b1 b2
  simp only [i_CellIndex, s_CellIndex, i_CellIndex_u1_eqv]
  try rfl
theorem i_ChangedCells_u1_eqv : @i_ChangedCells_u1 = @s_ChangedCells_u1 := by
  funext b0 b1 b2 n
  induction n with
  | zero => funext y0 y1; rfl
  | succ n ih =>
    funext y0 y1
    simp only [i_ChangedCells_u1, s_ChangedCells_u1, i_CellIndex_eqv, ih]
    try rfl
theorem i_ChangedCells_eqv : @i_ChangedCells = @s_ChangedCells := by
  funext b0 b1 b2
  simp only [i_ChangedCells, s_ChangedCells, i_ChangedCells_u1_eqv, i_CellIndex_eqv]
  try rfl
end Go.Proofs.Ytmiboaogfjgkjaa
