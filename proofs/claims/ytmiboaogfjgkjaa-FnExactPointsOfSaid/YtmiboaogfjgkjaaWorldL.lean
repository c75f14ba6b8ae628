/- Worlds: valid ones, their copies; the program's and the reference's answers alike. -/
import Derived.Test.YtmiboaogfjgkjaaTo
import Derived.Test.YtmiboaogfjgkjaaNmL
import Derived.Test.YtmiboaogfjgkjaaLs
import Derived.Test.YtmiboaogfjgkjaaMd5
import Derived.Test.YtmiboaogfjgkjaaMd6
import Derived.Test.YtmiboaogfjgkjaaMd9
import Derived.Test.YtmiboaogfjgkjaaEq6
import Derived.Test.YtmiboaogfjgkjaaEq9
set_option linter.unusedSimpArgs false
set_option linter.unusedVariables false
namespace Go.Proofs.Ytmiboaogfjgkjaa
open Go.RowKit Am
theorem number_eq (n : Int) : s_l3Number n = some (decide (-1000000000 ≤ n) && decide (n ≤ 1000000000)) := by
  unfold s_l3Number
  simp only [l1In_eq, Option.bind_some]
theorem number_eq_i (n : Int) : i_isNumber n = some (decide (-1000000000 ≤ n) && decide (n ≤ 1000000000)) := by rw [i_isNumber_eqv]; exact number_eq n
end Go.Proofs.Ytmiboaogfjgkjaa
