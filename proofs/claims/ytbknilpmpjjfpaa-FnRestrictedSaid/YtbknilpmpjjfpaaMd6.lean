/- Functions that mirror the program's own, one each. Written by a program of mine. -/
import Derived.Test.YtbknilpmpjjfpaaSx
import Derived.Test.YtbknilpmpjjfpaaMd0
import Derived.Test.YtbknilpmpjjfpaaMd1
import Derived.Test.YtbknilpmpjjfpaaMd2
import Derived.Test.YtbknilpmpjjfpaaMd4
import Derived.Test.YtbknilpmpjjfpaaMd5
set_option linter.unusedSimpArgs false
set_option linter.unusedVariables false
namespace Go.Proofs.Ytbknilpmpjjfpaa
open Go.RowKit Am
def i_ErrorValue (a0 : Int) : Option TValue :=
  some (TValue.mk 6 a0 0 (⟨#[]⟩ : ByteArray) [] [] [])
def i_operandError_u1 (k : Nat) (a0 : List TValue) : Nat → Int → Option (Unit ⊕ (TValue × Bool))
  | 0, _ => none
  | n_ + 1, x1 =>
    if (decide (x1 < (a0.length : Int))) then
      (at? a0 x1).bind fun x2 =>
      (i_IsValidValue k x2).bind fun x3 =>
      if (!x3) then
        (i_ErrorValue 4).bind fun x4 =>
        some (.inr (x4, true))
      else
        if (decide (x2.kind = 6)) then
          some (.inr (x2, true))
        else
          i_operandError_u1 k a0 n_ (IntKind.i64.wrap (x1 + 1))
    else
      some (.inl ())
def i_copyRow (a0 : TRow) : Option TRow :=
  (app? 8 ([] : List Int) a0.cells).bind fun x1 =>
  (app? 16 ([] : List TOrigin) a0.from_).bind fun x2 =>
  some (TRow.mk x1 x2)
def s_l3Row (a0 : TRow) : Option TRow :=
  (app? 8 ([] : List Int) a0.cells).bind fun x1 =>
  (app? 16 ([] : List TOrigin) a0.from_).bind fun x2 =>
  some (TRow.mk x1 x2)
def s_l3Texts_u1 (a0 : List ByteArray) (a1 : List ByteArray) : Nat → Int → Option (Unit ⊕ Bool)
  | 0, _ => none
  | n_ + 1, x1 =>
    if (decide (x1 < (a0.length : Int))) then
      (at? a0 x1).bind fun x2 =>
      (at? a1 x1).bind fun x3 =>
      if (!decide (x2 = x3)) then
        some (.inr false)
      else
        s_l3Texts_u1 a0 a1 n_ (IntKind.i64.wrap (x1 + 1))
    else
      some (.inl ())
def s_l3Texts (k : Nat) (a0 : List ByteArray) (a1 : List ByteArray) : Option Bool :=
  if (!decide ((a0.length : Int) = (a1.length : Int))) then
    some false
  else
    (s_l3Texts_u1 a0 a1 k 0 : Option (Unit ⊕ Bool)).bind fun
      | .inl _ => (
        some true)
      | .inr z4 => (
        some z4)
def s_l1Ints_u1 (a0 : List Int) (a1 : List Int) : Nat → Int → Option (Unit ⊕ Bool)
  | 0, _ => none
  | n_ + 1, x1 =>
    if (decide (x1 < (a0.length : Int))) then
      (at? a0 x1).bind fun x2 =>
      (at? a1 x1).bind fun x3 =>
      if (!decide (x2 = x3)) then
        some (.inr false)
      else
        s_l1Ints_u1 a0 a1 n_ (IntKind.i64.wrap (x1 + 1))
    else
      some (.inl ())
def s_l1Ints (k : Nat) (a0 : List Int) (a1 : List Int) : Option Bool :=
  if (!decide ((a0.length : Int) = (a1.length : Int))) then
    some false
  else
    (s_l1Ints_u1 a0 a1 k 0 : Option (Unit ⊕ Bool)).bind fun
      | .inl _ => (
        some true)
      | .inr z4 => (
        some z4)
def s_l3Origins_u1 (a0 : List TOrigin) (a1 : List TOrigin) : Nat → Int → Option (Unit ⊕ Bool)
  | 0, _ => none
  | n_ + 1, x1 =>
    if (decide (x1 < (a0.length : Int))) then
      (at? a0 x1).bind fun x2 =>
      (at? a1 x1).bind fun x3 =>
      if (!(decide (x2.cell = x3.cell) && decide (x2.row = x3.row))) then
        some (.inr false)
      else
        s_l3Origins_u1 a0 a1 n_ (IntKind.i64.wrap (x1 + 1))
    else
      some (.inl ())
def s_l3Origins (k : Nat) (a0 : List TOrigin) (a1 : List TOrigin) : Option Bool :=
  if (!decide ((a0.length : Int) = (a1.length : Int))) then
    some false
  else
    (s_l3Origins_u1 a0 a1 k 0 : Option (Unit ⊕ Bool)).bind fun
      | .inl _ => (
        some true)
      | .inr z4 => (
        some z4)
end Go.Proofs.Ytbknilpmpjjfpaa
