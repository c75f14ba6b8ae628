/- Functions that mirror the program's own, one each. Written by a program of mine. -/
import Derived.Test.YtmiboaogfjgkjaaDoorSx
import Derived.Test.YtmiboaogfjgkjaaDoorMd3
set_option linter.unusedSimpArgs false
set_option linter.unusedVariables false
namespace Go.Proofs.YtmiboaogfjgkjaaDoor
open Go.RowKit Am
def i_CellLine (k : Nat) (a0 : TCell) (a1 : TValue) (a2 : Bool) : Option TLine :=
  if (decide (a0.kind = 1)) then
    some (TLine.mk a0.id true a0.code)
  else
    if a2 then
      (cat? a0.name (⟨#[32, 61, 32]⟩ : ByteArray)).bind fun x1 =>
      (i_FormatValue k a1).bind fun x2 =>
      (cat? x1 x2).bind fun x3 =>
      some (TLine.mk a0.id true x3)
    else
      (cat? a0.name (⟨#[32, 61, 32, 46, 46, 46]⟩ : ByteArray)).bind fun x4 =>
      some (TLine.mk a0.id false x4)
end Go.Proofs.YtmiboaogfjgkjaaDoor
