/- Functions that mirror the program's own, one each. Written by a program of mine. -/
import Derived.Test.YtmiboaogfjgkjaaDoorSx
set_option linter.unusedSimpArgs false
set_option linter.unusedVariables false
namespace Go.Proofs.YtmiboaogfjgkjaaDoor
open Go.RowKit Am
def w_szLine (a0 : TLine) (a1 : Int) : Option Int :=
  if (decide ((IntKind.i64.wrap (a1 - (a0.text.size : Int))) < 0)) then
    some (-1)
  else
    some (IntKind.i64.wrap (a1 - (a0.text.size : Int)))
def w_szLineS_u1 (a0 : List TLine) : Nat → Int → Int → Option (Int ⊕ Int)
  | 0, _, _ => none
  | n_ + 1, x2, x3 =>
    if (decide (x3 < (a0.length : Int))) then
      (at? a0 x3).bind fun x4 =>
      (w_szLine x4 x2).bind fun x5 =>
      if (decide (x5 < 0)) then
        some (.inr (-1))
      else
        w_szLineS_u1 a0 n_ x5 (IntKind.i64.wrap (x3 + 1))
    else
      some (.inl x2)
def w_szLineS (k : Nat) (a0 : List TLine) (a1 : Int) : Option Int :=
  if (decide ((IntKind.i64.wrap (a1 - (a0.length : Int))) < 0)) then
    some (-1)
  else
    (w_szLineS_u1 a0 k (IntKind.i64.wrap (a1 - (a0.length : Int))) 0 : Option (Int ⊕ Int)).bind fun
      | .inl x1 => (
        some x1)
      | .inr z6 => (
        some z6)
def w_toLine (a0 : TLine) : Option TLine :=
  some a0
def w_toLineS_u1 (a0 : List TLine) : Nat → (List TLine) → Int → Option (List TLine)
  | 0, _, _ => none
  | n_ + 1, x3, x4 =>
    if (decide (x4 < (a0.length : Int))) then
      (at? a0 x4).bind fun x5 =>
      (w_toLine x5).bind fun x6 =>
      (at? x3 x4).bind fun x7 =>
      w_toLineS_u1 a0 n_ (x3.set x4.toNat x6) (IntKind.i64.wrap (x4 + 1))
    else
      some x3
def w_toLineS (k : Nat) (a0 : List TLine) : Option (List TLine) :=
  (mk? 32 (a0.length : Int)).bind fun x1 =>
  (w_toLineS_u1 a0 k (List.replicate x1 (TLine.mk 0 false (⟨#[]⟩ : ByteArray))) 0).bind fun x2 =>
  some x2
def w_eqLine (a0 : TLine) (a1 : TLine) : Option Bool :=
  if (!decide (a0.cell = a1.cell)) then
    some false
  else
    if (!(a0.fresh == a1.fresh)) then
      some false
    else
      if (!decide (a0.text = a1.text)) then
        some false
      else
        some true
def w_eqLineS_u1 (a0 : List TLine) (a1 : List TLine) : Nat → Int → Option (Unit ⊕ Bool)
  | 0, _ => none
  | n_ + 1, x1 =>
    if (decide (x1 < (a0.length : Int))) then
      (at? a0 x1).bind fun x2 =>
      (at? a1 x1).bind fun x3 =>
      (w_eqLine x2 x3).bind fun x4 =>
      if (!x4) then
        some (.inr false)
      else
        w_eqLineS_u1 a0 a1 n_ (IntKind.i64.wrap (x1 + 1))
    else
      some (.inl ())
def w_eqLineS (k : Nat) (a0 : List TLine) (a1 : List TLine) : Option Bool :=
  if (!decide ((a0.length : Int) = (a1.length : Int))) then
    some false
  else
    (w_eqLineS_u1 a0 a1 k 0 : Option (Unit ⊕ Bool)).bind fun
      | .inl _ => (
        some true)
      | .inr z5 => (
        some z5)
end Go.Proofs.YtmiboaogfjgkjaaDoor
