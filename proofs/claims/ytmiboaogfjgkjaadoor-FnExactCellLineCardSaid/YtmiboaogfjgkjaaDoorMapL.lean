/- Loops that lay one new element after another. Nothing of the program is used here. -/
import Derived.Test.YtmiboaogfjgkjaaDoorTo
set_option linter.unusedSimpArgs false
set_option linter.unusedVariables false
namespace Go.Proofs.YtmiboaogfjgkjaaDoor
open Go.RowKit Am
end Go.Proofs.YtmiboaogfjgkjaaDoor
