/- Functions that mirror the program's own, one each. Written by a program of mine. -/
import Derived.Test.YtmiboaogfjgkjaaSx
import Derived.Test.YtmiboaogfjgkjaaMd1
import Derived.Test.YtmiboaogfjgkjaaMd5
import Derived.Test.YtmiboaogfjgkjaaMd6
set_option linter.unusedSimpArgs false
set_option linter.unusedVariables false
namespace Go.Proofs.Ytmiboaogfjgkjaa
open Go.RowKit Am
end Go.Proofs.Ytmiboaogfjgkjaa
