/- Functions that mirror the program's own, one each. Written by a program of mine. -/
import Derived.Test.YtmiboaogfjgkjaaSx
set_option linter.unusedSimpArgs false
set_option linter.unusedVariables false
namespace Go.Proofs.Ytmiboaogfjgkjaa
open Go.RowKit Am
def s_l1In (a0 : Int) (a1 : Int) (a2 : Int) : Option Bool :=
  (if (decide (a1 ≤ a0)) then
    some (decide (a0 ≤ a2))
  else
    some false).bind fun x1 =>
  some x1
def i_within (a0 : Int) (a1 : Int) (a2 : Int) : Option Bool :=
  (if (decide (a1 ≤ a0)) then
    some (decide (a0 ≤ a2))
  else
    some false).bind fun x1 =>
  some x1
end Go.Proofs.Ytmiboaogfjgkjaa
