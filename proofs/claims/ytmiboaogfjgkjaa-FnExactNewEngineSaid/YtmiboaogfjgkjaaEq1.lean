/- Functions of the program that read as the reference's own do. Written by a program of mine. -/
import Derived.Test.YtmiboaogfjgkjaaMd1
set_option linter.unusedSimpArgs false
set_option linter.unusedVariables false
namespace Go.Proofs.Ytmiboaogfjgkjaa
open Go.RowKit Am

theorem i_within_eqv : @i_within = @s_l1In := by
  funext b0 b1 b2
  simp only [i_within, s_l1In]
  try rfl
theorem i_ApplyDiff_u1_eqv : @i_ApplyDiff_u1 = @s_ApplyDiff_u1 := by
  funext b0 n
  induction n with
  | zero => funext y0 y1; rfl
  | succ n ih =>
    funext y0 y1
    simp only [i_ApplyDiff_u1, s_ApplyDiff_u1, i_within_eqv, ih]
    try rfl
theorem i_ApplyDiff_eqv : @i_ApplyDiff = @s_ApplyDiff := by
  funext b0 b1 b2
  simp only [i_ApplyDiff, s_ApplyDiff, i_ApplyDiff_u1_eqv, i_within_eqv]
  try rfl
end Go.Proofs.Ytmiboaogfjgkjaa
