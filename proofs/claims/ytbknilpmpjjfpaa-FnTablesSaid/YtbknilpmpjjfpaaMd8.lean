/- Functions that mirror the program's own, one each. Written by a program of mine. -/
import Derived.Test.YtbknilpmpjjfpaaSx
import Derived.Test.YtbknilpmpjjfpaaMd0
import Derived.Test.YtbknilpmpjjfpaaMd1
import Derived.Test.YtbknilpmpjjfpaaMd2
import Derived.Test.YtbknilpmpjjfpaaMd3
import Derived.Test.YtbknilpmpjjfpaaMd4
import Derived.Test.YtbknilpmpjjfpaaMd5
import Derived.Test.YtbknilpmpjjfpaaMd6
set_option linter.unusedSimpArgs false
set_option linter.unusedVariables false
namespace Go.Proofs.Ytbknilpmpjjfpaa
open Go.RowKit Am
end Go.Proofs.Ytbknilpmpjjfpaa
