/- Copies of values. -/
import Derived.Test.YtbknilpmpjjfpaaMapL
import Derived.Test.YtbknilpmpjjfpaaLs
import Derived.Test.YtbknilpmpjjfpaaMd6
import Derived.Test.YtbknilpmpjjfpaaMd8
set_option linter.unusedSimpArgs false
set_option linter.unusedVariables false
namespace Go.Proofs.Ytbknilpmpjjfpaa
open Go.RowKit Am
theorem TRow.lensB (r : TRow) : r.cells.length ≤ r.bk ∧ r.from_.length ≤ r.bk := by
  have h2 := r.bk_eq
  have h3 := bkS_len (f := fun _ : Int => 0) (xs := r.cells)
  have h4 := bkS_len (f := fun _ : TOrigin => 0) (xs := r.from_)
  constructor <;> omega
theorem s_rowCopy (r : TRow) (h : r.bk ≤ 1073741824) : s_l3Row r = some r := by
  obtain ⟨h1, h2⟩ := r.lensB
  unfold s_l3Row
  rw [app_big (by simp; omega) (by omega), Option.bind_some, app_big (by simp; omega) (by omega)]; rfl
theorem i_rowCopy (r : TRow) (h : r.bk ≤ 1073741824) : i_copyRow r = some r := by
  obtain ⟨h1, h2⟩ := r.lensB
  unfold i_copyRow
  rw [app_big (by simp; omega) (by omega), Option.bind_some, app_big (by simp; omega) (by omega)]; rfl
end Go.Proofs.Ytbknilpmpjjfpaa
