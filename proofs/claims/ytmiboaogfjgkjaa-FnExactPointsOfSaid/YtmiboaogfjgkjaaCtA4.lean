/- Contracts of the program's functions: where the mirrored function answers, the program's function returns this answer. Written by a program of mine. -/
import Derived.Test.YtmiboaogfjgkjaaWn
import Derived.Test.YtmiboaogfjgkjaaMdA4
import Derived.Test.YtmiboaogfjgkjaaCtA0
import Derived.Test.YtmiboaogfjgkjaaCtA1
import Derived.Test.YtmiboaogfjgkjaaCtA2
import Derived.Test.YtmiboaogfjgkjaaCtA3
set_option linter.unusedSimpArgs false
set_option linter.unusedVariables false
namespace Go.Proofs.Ytmiboaogfjgkjaa
open Go.RowKit Am
set_option maxHeartbeats 4000000
set_option maxRecDepth 100000
end Go.Proofs.Ytmiboaogfjgkjaa
