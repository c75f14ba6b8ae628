/- Functions that mirror the program's own, one each. Written by a program of mine. -/
import Derived.Test.YtmiboaogfjgkjaaSx
import Derived.Test.YtmiboaogfjgkjaaMdA0
import Derived.Test.YtmiboaogfjgkjaaMdA1
import Derived.Test.YtmiboaogfjgkjaaMdA2
import Derived.Test.YtmiboaogfjgkjaaMdA3
set_option linter.unusedSimpArgs false
set_option linter.unusedVariables false
namespace Go.Proofs.Ytmiboaogfjgkjaa
open Go.RowKit Am
end Go.Proofs.Ytmiboaogfjgkjaa
