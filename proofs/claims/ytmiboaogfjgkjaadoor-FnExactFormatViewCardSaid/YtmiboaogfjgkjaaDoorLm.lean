/- Functions that mirror the library's. -/
import Derived.Test.YtmiboaogfjgkjaaDoorPkC
import Derived.Lib.ItoaNum
import Derived.Lib.Join
set_option linter.unusedSimpArgs false
set_option linter.unusedVariables false
namespace Go.Proofs.YtmiboaogfjgkjaaDoor
open Go.RowKit Am
def x_strconv_Itoa (a0 : Int) : Option ByteArray := some ⟨(Lib.itoa a0).toArray⟩
end Go.Proofs.YtmiboaogfjgkjaaDoor
