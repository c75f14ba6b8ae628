/- Numbers in their range. -/
import Derived.Test.YtbknilpmpjjfpaaInL
import Derived.Test.YtbknilpmpjjfpaaMd1
import Derived.Test.YtbknilpmpjjfpaaMd3
set_option linter.unusedSimpArgs false
set_option linter.unusedVariables false
namespace Go.Proofs.Ytbknilpmpjjfpaa
open Go.RowKit Am
theorem number_eq (n : Int) : s_l3Number n = some (decide (-1000000000 ≤ n) && decide (n ≤ 1000000000)) := by
  unfold s_l3Number
  simp only [l1In_eq, Option.bind_some]
theorem number_eq_i (n : Int) : i_isNumber n = some (decide (-1000000000 ≤ n) && decide (n ≤ 1000000000)) := by
  unfold i_isNumber
  simp only [within_eq, Option.bind_some]
end Go.Proofs.Ytbknilpmpjjfpaa
