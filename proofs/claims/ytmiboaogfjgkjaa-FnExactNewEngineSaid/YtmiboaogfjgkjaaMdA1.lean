/- Functions that mirror the program's own, one each. Written by a program of mine. -/
import Derived.Test.YtmiboaogfjgkjaaSx
import Derived.Test.YtmiboaogfjgkjaaMdA0
set_option linter.unusedSimpArgs false
set_option linter.unusedVariables false
namespace Go.Proofs.Ytmiboaogfjgkjaa
open Go.RowKit Am

def w_szDiff (k : Nat) (a0 : TDiff) (a1 : Int) : Option Int :=
  (w_szChangeS k a0.changes a1).bind fun x1 =>
  if (decide (x1 < 0)) then
    some (-1)
  else
    some x1
def w_toLine (a0 : TLine) : Option TLine :=
  some a0
def w_toLineS_u1 (a0 : List TLine) : Nat → (List TLine) → Int → Option (List TLine)
  | 0, _, _ => none
  | n_ + 1, x3, x4 =>
    if (decide (x4 < (a0.length : Int))) then
      (at? a0 x4).bind fun x5 =>
      (w_toLine x5).bind fun x6 =>
      (at? x3 x4).bind fun x7 =>
      w_toLineS_u1 a0 n_ (x3.set x4.toNat x6) (IntKind.i64.wrap (x4 + 1))
    else
      some x3
def w_toLineS (k : Nat) (a0 : List TLine) : Option (List TLine) :=
  (mk? 32 (a0.length : Int)).bind fun x1 =>
  (w_toLineS_u1 a0 k (List.replicate x1 (TLine.mk 0 false (⟨#[]⟩ : ByteArray))) 0).bind fun x2 =>
  some x2
def w_toChange (a0 : TChange) : Option TChange :=
  (w_toLine a0.line).bind fun x1 =>
  some (TChange.mk a0.at_ x1)
def w_toChangeS_u1 (a0 : List TChange) : Nat → (List TChange) → Int → Option (List TChange)
  | 0, _, _ => none
  | n_ + 1, x3, x4 =>
    if (decide (x4 < (a0.length : Int))) then
      (at? a0 x4).bind fun x5 =>
      (w_toChange x5).bind fun x6 =>
      (at? x3 x4).bind fun x7 =>
      w_toChangeS_u1 a0 n_ (x3.set x4.toNat x6) (IntKind.i64.wrap (x4 + 1))
    else
      some x3
def w_toChangeS (k : Nat) (a0 : List TChange) : Option (List TChange) :=
  (mk? 40 (a0.length : Int)).bind fun x1 =>
  (w_toChangeS_u1 a0 k (List.replicate x1 (TChange.mk 0 (TLine.mk 0 false (⟨#[]⟩ : ByteArray)))) 0).bind fun x2 =>
  some x2
def w_toDiff (k : Nat) (a0 : TDiff) : Option TDiff :=
  (w_toChangeS k a0.changes).bind fun x1 =>
  some (TDiff.mk a0.length x1)
def w_eqLine (a0 : TLine) (a1 : TLine) : Option Bool :=
  if (!decide (a0.cell = a1.cell)) then
    some false
  else
    if (!(a0.fresh == a1.fresh)) then
      some false
    else
      if (!decide (a0.text = a1.text)) then
        some false
      else
        some true
def w_eqLineS_u1 (a0 : List TLine) (a1 : List TLine) : Nat → Int → Option (Unit ⊕ Bool)
  | 0, _ => none
  | n_ + 1, x1 =>
    if (decide (x1 < (a0.length : Int))) then
      (at? a0 x1).bind fun x2 =>
      (at? a1 x1).bind fun x3 =>
      (w_eqLine x2 x3).bind fun x4 =>
      if (!x4) then
        some (.inr false)
      else
        w_eqLineS_u1 a0 a1 n_ (IntKind.i64.wrap (x1 + 1))
    else
      some (.inl ())
def w_eqLineS (k : Nat) (a0 : List TLine) (a1 : List TLine) : Option Bool :=
  if (!decide ((a0.length : Int) = (a1.length : Int))) then
    some false
  else
    (w_eqLineS_u1 a0 a1 k 0 : Option (Unit ⊕ Bool)).bind fun
      | .inl _ => (
        some true)
      | .inr z5 => (
        some z5)
def w_eqChange (a0 : TChange) (a1 : TChange) : Option Bool :=
  if (!decide (a0.at_ = a1.at_)) then
    some false
  else
    (w_eqLine a0.line a1.line).bind fun x1 =>
    if (!x1) then
      some false
    else
      some true
def w_eqChangeS_u1 (a0 : List TChange) (a1 : List TChange) : Nat → Int → Option (Unit ⊕ Bool)
  | 0, _ => none
  | n_ + 1, x1 =>
    if (decide (x1 < (a0.length : Int))) then
      (at? a0 x1).bind fun x2 =>
      (at? a1 x1).bind fun x3 =>
      (w_eqChange x2 x3).bind fun x4 =>
      if (!x4) then
        some (.inr false)
      else
        w_eqChangeS_u1 a0 a1 n_ (IntKind.i64.wrap (x1 + 1))
    else
      some (.inl ())
def w_eqChangeS (k : Nat) (a0 : List TChange) (a1 : List TChange) : Option Bool :=
  if (!decide ((a0.length : Int) = (a1.length : Int))) then
    some false
  else
    (w_eqChangeS_u1 a0 a1 k 0 : Option (Unit ⊕ Bool)).bind fun
      | .inl _ => (
        some true)
      | .inr z5 => (
        some z5)
def w_eqDiff (k : Nat) (a0 : TDiff) (a1 : TDiff) : Option Bool :=
  if (!decide (a0.length = a1.length)) then
    some false
  else
    (w_eqChangeS k a0.changes a1.changes).bind fun x1 =>
    if (!x1) then
      some false
    else
      some true
def w_szStringS_u1 (a0 : List ByteArray) : Nat → Int → Int → Option (Int ⊕ Int)
  | 0, _, _ => none
  | n_ + 1, x2, x3 =>
    if (decide (x3 < (a0.length : Int))) then
      (at? a0 x3).bind fun x4 =>
      if (decide ((IntKind.i64.wrap (x2 - (x4.size : Int))) < 0)) then
        some (.inr (-1))
      else
        w_szStringS_u1 a0 n_ (IntKind.i64.wrap (x2 - (x4.size : Int))) (IntKind.i64.wrap (x3 + 1))
    else
      some (.inl x2)
def w_szStringS (k : Nat) (a0 : List ByteArray) (a1 : Int) : Option Int :=
  if (decide ((IntKind.i64.wrap (a1 - (a0.length : Int))) < 0)) then
    some (-1)
  else
    (w_szStringS_u1 a0 k (IntKind.i64.wrap (a1 - (a0.length : Int))) 0 : Option (Int ⊕ Int)).bind fun
      | .inl x1 => (
        some x1)
      | .inr z5 => (
        some z5)
def w_szIntS (a0 : List Int) (a1 : Int) : Option Int :=
  if (decide ((IntKind.i64.wrap (a1 - (a0.length : Int))) < 0)) then
    some (-1)
  else
    some (IntKind.i64.wrap (a1 - (a0.length : Int)))
def w_szOriginS (a0 : List TOrigin) (a1 : Int) : Option Int :=
  if (decide ((IntKind.i64.wrap (a1 - (a0.length : Int))) < 0)) then
    some (-1)
  else
    some (IntKind.i64.wrap (a1 - (a0.length : Int)))
end Go.Proofs.Ytmiboaogfjgkjaa
