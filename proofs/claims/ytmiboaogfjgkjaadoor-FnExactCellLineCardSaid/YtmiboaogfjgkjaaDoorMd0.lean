/- Functions that mirror the program's own, one each. Written by a program of mine. -/
import Derived.Test.YtmiboaogfjgkjaaDoorSx
import Derived.Test.YtmiboaogfjgkjaaDoorLm
set_option linter.unusedSimpArgs false
set_option linter.unusedVariables false
namespace Go.Proofs.YtmiboaogfjgkjaaDoor
open Go.RowKit Am
def s_FormatInt_u1 : Nat → Int → ByteArray → Option ByteArray
  | 0, _, _ => none
  | n_ + 1, x2, x3 =>
    if (!decide (x2 = 0)) then
      (if (decide ((IntKind.i64.wrap (x2.tmod 10)) < 0)) then
        some (IntKind.i64.wrap (0 - (IntKind.i64.wrap (x2.tmod 10))))
      else
        some (IntKind.i64.wrap (x2.tmod 10))).bind fun x4 =>
      (cat? (bStr [(IntKind.u8.wrap (IntKind.i64.wrap (48 + x4)))]) x3).bind fun x5 =>
      s_FormatInt_u1 n_ (IntKind.i64.wrap (x2.tdiv 10)) x5
    else
      some x3
def s_FormatInt (k : Nat) (a0 : Int) : Option ByteArray :=
  if (decide (a0 = 0)) then
    some (⟨#[48]⟩ : ByteArray)
  else
    (s_FormatInt_u1 k a0 (⟨#[]⟩ : ByteArray)).bind fun x1 =>
    if (decide (a0 < 0)) then
      (cat? (⟨#[45]⟩ : ByteArray) x1).bind fun x6 =>
      some x6
    else
      some x1
def i_FormatInt (a0 : Int) : Option ByteArray :=
  (x_strconv_Itoa a0).bind fun x1 =>
  some x1
end Go.Proofs.YtmiboaogfjgkjaaDoor
