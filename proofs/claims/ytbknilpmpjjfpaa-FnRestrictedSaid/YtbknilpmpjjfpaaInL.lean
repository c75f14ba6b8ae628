/- Ranges of numbers. -/
import Derived.Test.YtbknilpmpjjfpaaPkC
import Derived.Test.YtbknilpmpjjfpaaMd1
import Derived.Test.YtbknilpmpjjfpaaMd2
set_option linter.unusedSimpArgs false
set_option linter.unusedVariables false
namespace Go.Proofs.Ytbknilpmpjjfpaa
open Go.RowKit Am
theorem size_list (s : ByteArray) : s.data.toList.length = s.size := by simp
theorem l1In_eq (a lo hi : Int) : s_l1In a lo hi = some (decide (lo ≤ a) && decide (a ≤ hi)) := by
  unfold s_l1In
  cases decide (lo ≤ a) <;> simp
theorem within_eq (a lo hi : Int) : i_within a lo hi = some (decide (lo ≤ a) && decide (a ≤ hi)) := by
  unfold i_within
  cases decide (lo ≤ a) <;> simp
end Go.Proofs.Ytbknilpmpjjfpaa
