/- Functions that mirror the program's own, one each. Written by a program of mine. -/
import Derived.Test.YtmiboaogfjgkjaaSx
import Derived.Test.YtmiboaogfjgkjaaMdA0
set_option linter.unusedSimpArgs false
set_option linter.unusedVariables false
namespace Go.Proofs.Ytmiboaogfjgkjaa
open Go.RowKit Am
def w_szStringS_u1 (a0 : List ByteArray) : Nat → Int → Int → Option (Int ⊕ Int)
  | 0, _, _ => none
  | n_ + 1, x2, x3 =>
    if (decide (x3 < (a0.length : Int))) then
      (at? a0 x3).bind fun x4 =>
      if (decide ((IntKind.i64.wrap (x2 - (x4.size : Int))) < 0)) then
        some (.inr (-1))
      else
        w_szStringS_u1 a0 n_ (IntKind.i64.wrap (x2 - (x4.size : Int))) (IntKind.i64.wrap (x3 + 1))
    else
      some (.inl x2)
def w_szStringS (k : Nat) (a0 : List ByteArray) (a1 : Int) : Option Int :=
  if (decide ((IntKind.i64.wrap (a1 - (a0.length : Int))) < 0)) then
    some (-1)
  else
    (w_szStringS_u1 a0 k (IntKind.i64.wrap (a1 - (a0.length : Int))) 0 : Option (Int ⊕ Int)).bind fun
      | .inl x1 => (
        some x1)
      | .inr z5 => (
        some z5)
def w_szIntS (a0 : List Int) (a1 : Int) : Option Int :=
  if (decide ((IntKind.i64.wrap (a1 - (a0.length : Int))) < 0)) then
    some (-1)
  else
    some (IntKind.i64.wrap (a1 - (a0.length : Int)))
def w_szOriginS (a0 : List TOrigin) (a1 : Int) : Option Int :=
  if (decide ((IntKind.i64.wrap (a1 - (a0.length : Int))) < 0)) then
    some (-1)
  else
    some (IntKind.i64.wrap (a1 - (a0.length : Int)))
end Go.Proofs.Ytmiboaogfjgkjaa
