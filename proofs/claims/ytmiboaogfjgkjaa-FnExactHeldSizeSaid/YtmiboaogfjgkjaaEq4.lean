/- Functions of the program that read as the reference's own do. Written by a program of mine. -/
import Derived.Test.YtmiboaogfjgkjaaMd4
set_option linter.unusedSimpArgs false
set_option linter.unusedVariables false
namespace Go.Proofs.Ytmiboaogfjgkjaa
open Go.RowKit Am

theorem i_SizeOf_u1_eqv : @i_SizeOf_u1 = @s_SizeOf_u1 := by
  funext b0 b1 n
  induction n with
  | zero => funext y0 y1; rfl
  | succ n ih =>
    funext y0 y1
    simp only [i_SizeOf_u1, s_SizeOf_u1, ih]
    try rfl
theorem i_SizeOf_u2_eqv : @i_SizeOf_u2 = @s_SizeOf_u2 := by
  funext b0 n
  induction n with
  | zero => funext y0 y1; rfl
  | succ n ih =>
    funext y0 y1
    simp only [i_SizeOf_u2, s_SizeOf_u2, i_SizeOf_u1_eqv, ih]
    try rfl
theorem i_SizeOf_eqv : @i_SizeOf = @s_SizeOf := by
  funext n
  induction n with
  | zero => funext y0; rfl
  | succ n ih =>
    funext y0
    simp only [i_SizeOf, s_SizeOf, i_SizeOf_u1_eqv, i_SizeOf_u2_eqv, ih]
    try rfl
theorem i_HeldSize_u1_eqv : @i_HeldSize_u1 = @s_HeldSize_u1 := by
  funext b0 b1 n
  induction n with
  | zero => funext y0 y1; rfl
  | succ n ih =>
    funext y0 y1
    simp only [i_HeldSize_u1, s_HeldSize_u1, i_SizeOf_eqv, ih]
    try rfl
theorem i_HeldSize_eqv : @i_HeldSize = @s_HeldSize := by
  funext b0 b1
  simp only [i_HeldSize, s_HeldSize, i_HeldSize_u1_eqv, i_SizeOf_eqv]
  try rfl
end Go.Proofs.Ytmiboaogfjgkjaa
