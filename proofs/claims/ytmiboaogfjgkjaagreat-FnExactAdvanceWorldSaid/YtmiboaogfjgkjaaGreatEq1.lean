/- Functions of the program that read as the reference's own do. Written by a program of mine. -/
import Derived.Test.YtmiboaogfjgkjaaGreatMd0
import Derived.Test.YtmiboaogfjgkjaaGreatMd1
set_option linter.unusedSimpArgs false
set_option linter.unusedVariables false
namespace Go.Proofs.YtmiboaogfjgkjaaGreat
open Go.RowKit Am

theorem i_copyNotebook_eqv : @i_copyNotebook = @s_l17Copy := by
  funext b0
  simp only [i_copyNotebook, s_l17Copy]
  try rfl
theorem i_copyWorld_eqv : @i_copyWorld = @s_l14Copy := by
  funext b0
  simp only [i_copyWorld, s_l14Copy]
  try rfl
theorem i_copyRow_eqv : @i_copyRow = @s_l3Row := by
  funext b0
  simp only [i_copyRow, s_l3Row]
  try rfl
theorem i_within_eqv : @i_within = @s_l1In := by
  funext b0 b1 b2
  simp only [i_within, s_l1In]
  try rfl
end Go.Proofs.YtmiboaogfjgkjaaGreat
