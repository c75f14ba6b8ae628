/- Functions that mirror the program's own, one each. Written by a program of mine. -/
import Derived.Test.YtmiboaogfjgkjaaSx
set_option linter.unusedSimpArgs false
set_option linter.unusedVariables false
namespace Go.Proofs.Ytmiboaogfjgkjaa
open Go.RowKit Am

def w_szCell (a0 : TCell) (a1 : Int) : Option Int :=
  if (decide ((IntKind.i64.wrap (a1 - (a0.name.size : Int))) < 0)) then
    some (-1)
  else
    if (decide ((IntKind.i64.wrap ((IntKind.i64.wrap (a1 - (a0.name.size : Int))) - (a0.code.size : Int))) < 0)) then
      some (-1)
    else
      some (IntKind.i64.wrap ((IntKind.i64.wrap (a1 - (a0.name.size : Int))) - (a0.code.size : Int)))
def w_szCellS_u1 (a0 : List TCell) : Nat → Int → Int → Option (Int ⊕ Int)
  | 0, _, _ => none
  | n_ + 1, x2, x3 =>
    if (decide (x3 < (a0.length : Int))) then
      (at? a0 x3).bind fun x4 =>
      (w_szCell x4 x2).bind fun x5 =>
      if (decide (x5 < 0)) then
        some (.inr (-1))
      else
        w_szCellS_u1 a0 n_ x5 (IntKind.i64.wrap (x3 + 1))
    else
      some (.inl x2)
def w_szCellS (k : Nat) (a0 : List TCell) (a1 : Int) : Option Int :=
  if (decide ((IntKind.i64.wrap (a1 - (a0.length : Int))) < 0)) then
    some (-1)
  else
    (w_szCellS_u1 a0 k (IntKind.i64.wrap (a1 - (a0.length : Int))) 0 : Option (Int ⊕ Int)).bind fun
      | .inl x1 => (
        some x1)
      | .inr z6 => (
        some z6)
def w_szNotebook (k : Nat) (a0 : TNotebook) (a1 : Int) : Option Int :=
  (w_szCellS k a0.cells a1).bind fun x1 =>
  if (decide (x1 < 0)) then
    some (-1)
  else
    some x1
def w_toCell (a0 : TCell) : Option TCell :=
  some a0
def w_toCellS_u1 (a0 : List TCell) : Nat → (List TCell) → Int → Option (List TCell)
  | 0, _, _ => none
  | n_ + 1, x3, x4 =>
    if (decide (x4 < (a0.length : Int))) then
      (at? a0 x4).bind fun x5 =>
      (w_toCell x5).bind fun x6 =>
      (at? x3 x4).bind fun x7 =>
      w_toCellS_u1 a0 n_ (x3.set x4.toNat x6) (IntKind.i64.wrap (x4 + 1))
    else
      some x3
def w_toCellS (k : Nat) (a0 : List TCell) : Option (List TCell) :=
  (mk? 64 (a0.length : Int)).bind fun x1 =>
  (w_toCellS_u1 a0 k (List.replicate x1 (TCell.mk 0 0 0 (⟨#[]⟩ : ByteArray) (⟨#[]⟩ : ByteArray) 0)) 0).bind fun x2 =>
  some x2
def w_toNotebook (k : Nat) (a0 : TNotebook) : Option TNotebook :=
  (w_toCellS k a0.cells).bind fun x1 =>
  some (TNotebook.mk x1)
def w_eqIntS_u1 (a0 : List Int) (a1 : List Int) : Nat → Int → Option (Unit ⊕ Bool)
  | 0, _ => none
  | n_ + 1, x1 =>
    if (decide (x1 < (a0.length : Int))) then
      (at? a0 x1).bind fun x2 =>
      (at? a1 x1).bind fun x3 =>
      if (!decide (x2 = x3)) then
        some (.inr false)
      else
        w_eqIntS_u1 a0 a1 n_ (IntKind.i64.wrap (x1 + 1))
    else
      some (.inl ())
def w_eqIntS (k : Nat) (a0 : List Int) (a1 : List Int) : Option Bool :=
  if (!decide ((a0.length : Int) = (a1.length : Int))) then
    some false
  else
    (w_eqIntS_u1 a0 a1 k 0 : Option (Unit ⊕ Bool)).bind fun
      | .inl _ => (
        some true)
      | .inr z4 => (
        some z4)
def w_eqCell (a0 : TCell) (a1 : TCell) : Option Bool :=
  if (!decide (a0.id = a1.id)) then
    some false
  else
    if (!decide (a0.version = a1.version)) then
      some false
    else
      if (!decide (a0.kind = a1.kind)) then
        some false
      else
        if (!decide (a0.name = a1.name)) then
          some false
        else
          if (!decide (a0.code = a1.code)) then
            some false
          else
            if (!decide (a0.n = a1.n)) then
              some false
            else
              some true
def w_eqCellS_u1 (a0 : List TCell) (a1 : List TCell) : Nat → Int → Option (Unit ⊕ Bool)
  | 0, _ => none
  | n_ + 1, x1 =>
    if (decide (x1 < (a0.length : Int))) then
      (at? a0 x1).bind fun x2 =>
      (at? a1 x1).bind fun x3 =>
      (w_eqCell x2 x3).bind fun x4 =>
      if (!x4) then
        some (.inr false)
      else
        w_eqCellS_u1 a0 a1 n_ (IntKind.i64.wrap (x1 + 1))
    else
      some (.inl ())
def w_eqCellS (k : Nat) (a0 : List TCell) (a1 : List TCell) : Option Bool :=
  if (!decide ((a0.length : Int) = (a1.length : Int))) then
    some false
  else
    (w_eqCellS_u1 a0 a1 k 0 : Option (Unit ⊕ Bool)).bind fun
      | .inl _ => (
        some true)
      | .inr z5 => (
        some z5)
def w_eqNotebook (k : Nat) (a0 : TNotebook) (a1 : TNotebook) : Option Bool :=
  (w_eqCellS k a0.cells a1.cells).bind fun x1 =>
  if (!x1) then
    some false
  else
    some true
def w_szLine (a0 : TLine) (a1 : Int) : Option Int :=
  if (decide ((IntKind.i64.wrap (a1 - (a0.text.size : Int))) < 0)) then
    some (-1)
  else
    some (IntKind.i64.wrap (a1 - (a0.text.size : Int)))
def w_szLineS_u1 (a0 : List TLine) : Nat → Int → Int → Option (Int ⊕ Int)
  | 0, _, _ => none
  | n_ + 1, x2, x3 =>
    if (decide (x3 < (a0.length : Int))) then
      (at? a0 x3).bind fun x4 =>
      (w_szLine x4 x2).bind fun x5 =>
      if (decide (x5 < 0)) then
        some (.inr (-1))
      else
        w_szLineS_u1 a0 n_ x5 (IntKind.i64.wrap (x3 + 1))
    else
      some (.inl x2)
def w_szLineS (k : Nat) (a0 : List TLine) (a1 : Int) : Option Int :=
  if (decide ((IntKind.i64.wrap (a1 - (a0.length : Int))) < 0)) then
    some (-1)
  else
    (w_szLineS_u1 a0 k (IntKind.i64.wrap (a1 - (a0.length : Int))) 0 : Option (Int ⊕ Int)).bind fun
      | .inl x1 => (
        some x1)
      | .inr z6 => (
        some z6)
def w_szChange (a0 : TChange) (a1 : Int) : Option Int :=
  (w_szLine a0.line a1).bind fun x1 =>
  if (decide (x1 < 0)) then
    some (-1)
  else
    some x1
def w_szChangeS_u1 (a0 : List TChange) : Nat → Int → Int → Option (Int ⊕ Int)
  | 0, _, _ => none
  | n_ + 1, x2, x3 =>
    if (decide (x3 < (a0.length : Int))) then
      (at? a0 x3).bind fun x4 =>
      (w_szChange x4 x2).bind fun x5 =>
      if (decide (x5 < 0)) then
        some (.inr (-1))
      else
        w_szChangeS_u1 a0 n_ x5 (IntKind.i64.wrap (x3 + 1))
    else
      some (.inl x2)
def w_szChangeS (k : Nat) (a0 : List TChange) (a1 : Int) : Option Int :=
  if (decide ((IntKind.i64.wrap (a1 - (a0.length : Int))) < 0)) then
    some (-1)
  else
    (w_szChangeS_u1 a0 k (IntKind.i64.wrap (a1 - (a0.length : Int))) 0 : Option (Int ⊕ Int)).bind fun
      | .inl x1 => (
        some x1)
      | .inr z6 => (
        some z6)
end Go.Proofs.Ytmiboaogfjgkjaa
