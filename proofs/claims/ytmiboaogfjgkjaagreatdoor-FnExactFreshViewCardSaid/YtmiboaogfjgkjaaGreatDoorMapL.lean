/- Loops that lay one new element after another. Nothing of the program is used here. -/
import Derived.Test.YtmiboaogfjgkjaaGreatDoorTo
set_option linter.unusedSimpArgs false
set_option linter.unusedVariables false
namespace Go.Proofs.YtmiboaogfjgkjaaGreatDoor
open Go.RowKit Am
end Go.Proofs.YtmiboaogfjgkjaaGreatDoor
