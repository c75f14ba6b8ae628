/- Functions that mirror the program's own, one each. Written by a program of mine. -/
import Derived.Test.YtbknilpmpjjfpaaGreatSx
set_option linter.unusedSimpArgs false
set_option linter.unusedVariables false
namespace Go.Proofs.YtbknilpmpjjfpaaGreat
open Go.RowKit Am
def w_szCell (a0 : TCell) (a1 : Int) : Option Int :=
  if (decide ((IntKind.i64.wrap (a1 - (a0.name.size : Int))) < 0)) then
    some (-1)
  else
    if (decide ((IntKind.i64.wrap ((IntKind.i64.wrap (a1 - (a0.name.size : Int))) - (a0.code.size : Int))) < 0)) then
      some (-1)
    else
      some (IntKind.i64.wrap ((IntKind.i64.wrap (a1 - (a0.name.size : Int))) - (a0.code.size : Int)))
def w_szCellS_u1 (a0 : List TCell) : Nat → Int → Int → Option (Int ⊕ Int)
  | 0, _, _ => none
  | n_ + 1, x2, x3 =>
    if (decide (x3 < (a0.length : Int))) then
      (at? a0 x3).bind fun x4 =>
      (w_szCell x4 x2).bind fun x5 =>
      if (decide (x5 < 0)) then
        some (.inr (-1))
      else
        w_szCellS_u1 a0 n_ x5 (IntKind.i64.wrap (x3 + 1))
    else
      some (.inl x2)
def w_szCellS (k : Nat) (a0 : List TCell) (a1 : Int) : Option Int :=
  if (decide ((IntKind.i64.wrap (a1 - (a0.length : Int))) < 0)) then
    some (-1)
  else
    (w_szCellS_u1 a0 k (IntKind.i64.wrap (a1 - (a0.length : Int))) 0 : Option (Int ⊕ Int)).bind fun
      | .inl x1 => (
        some x1)
      | .inr z6 => (
        some z6)
def w_szNotebook (k : Nat) (a0 : TNotebook) (a1 : Int) : Option Int :=
  (w_szCellS k a0.cells a1).bind fun x1 =>
  if (decide (x1 < 0)) then
    some (-1)
  else
    some x1
def w_szFile (a0 : TFile) (a1 : Int) : Option Int :=
  if (decide ((IntKind.i64.wrap (a1 - (a0.name.size : Int))) < 0)) then
    some (-1)
  else
    some (IntKind.i64.wrap (a1 - (a0.name.size : Int)))
def w_szFileS_u1 (a0 : List TFile) : Nat → Int → Int → Option (Int ⊕ Int)
  | 0, _, _ => none
  | n_ + 1, x2, x3 =>
    if (decide (x3 < (a0.length : Int))) then
      (at? a0 x3).bind fun x4 =>
      (w_szFile x4 x2).bind fun x5 =>
      if (decide (x5 < 0)) then
        some (.inr (-1))
      else
        w_szFileS_u1 a0 n_ x5 (IntKind.i64.wrap (x3 + 1))
    else
      some (.inl x2)
def w_szFileS (k : Nat) (a0 : List TFile) (a1 : Int) : Option Int :=
  if (decide ((IntKind.i64.wrap (a1 - (a0.length : Int))) < 0)) then
    some (-1)
  else
    (w_szFileS_u1 a0 k (IntKind.i64.wrap (a1 - (a0.length : Int))) 0 : Option (Int ⊕ Int)).bind fun
      | .inl x1 => (
        some x1)
      | .inr z6 => (
        some z6)
def w_szWorld (k : Nat) (a0 : TWorld) (a1 : Int) : Option Int :=
  (w_szFileS k a0.files a1).bind fun x1 =>
  if (decide (x1 < 0)) then
    some (-1)
  else
    some x1
def w_szStringS_u1 (a0 : List ByteArray) : Nat → Int → Int → Option (Int ⊕ Int)
  | 0, _, _ => none
  | n_ + 1, x2, x3 =>
    if (decide (x3 < (a0.length : Int))) then
      (at? a0 x3).bind fun x4 =>
      if (decide ((IntKind.i64.wrap (x2 - (x4.size : Int))) < 0)) then
        some (.inr (-1))
      else
        w_szStringS_u1 a0 n_ (IntKind.i64.wrap (x2 - (x4.size : Int))) (IntKind.i64.wrap (x3 + 1))
    else
      some (.inl x2)
def w_szStringS (k : Nat) (a0 : List ByteArray) (a1 : Int) : Option Int :=
  if (decide ((IntKind.i64.wrap (a1 - (a0.length : Int))) < 0)) then
    some (-1)
  else
    (w_szStringS_u1 a0 k (IntKind.i64.wrap (a1 - (a0.length : Int))) 0 : Option (Int ⊕ Int)).bind fun
      | .inl x1 => (
        some x1)
      | .inr z5 => (
        some z5)
def w_szIntS (a0 : List Int) (a1 : Int) : Option Int :=
  if (decide ((IntKind.i64.wrap (a1 - (a0.length : Int))) < 0)) then
    some (-1)
  else
    some (IntKind.i64.wrap (a1 - (a0.length : Int)))
def w_szOriginS (a0 : List TOrigin) (a1 : Int) : Option Int :=
  if (decide ((IntKind.i64.wrap (a1 - (a0.length : Int))) < 0)) then
    some (-1)
  else
    some (IntKind.i64.wrap (a1 - (a0.length : Int)))
def w_szRow (a0 : TRow) (a1 : Int) : Option Int :=
  (w_szIntS a0.cells a1).bind fun x1 =>
  if (decide (x1 < 0)) then
    some (-1)
  else
    (w_szOriginS a0.from_ x1).bind fun x2 =>
    if (decide (x2 < 0)) then
      some (-1)
    else
      some x2
def w_szRowS_u1 (a0 : List TRow) : Nat → Int → Int → Option (Int ⊕ Int)
  | 0, _, _ => none
  | n_ + 1, x2, x3 =>
    if (decide (x3 < (a0.length : Int))) then
      (at? a0 x3).bind fun x4 =>
      (w_szRow x4 x2).bind fun x5 =>
      if (decide (x5 < 0)) then
        some (.inr (-1))
      else
        w_szRowS_u1 a0 n_ x5 (IntKind.i64.wrap (x3 + 1))
    else
      some (.inl x2)
def w_szRowS (k : Nat) (a0 : List TRow) (a1 : Int) : Option Int :=
  if (decide ((IntKind.i64.wrap (a1 - (a0.length : Int))) < 0)) then
    some (-1)
  else
    (w_szRowS_u1 a0 k (IntKind.i64.wrap (a1 - (a0.length : Int))) 0 : Option (Int ⊕ Int)).bind fun
      | .inl x1 => (
        some x1)
      | .inr z6 => (
        some z6)
def w_szValueS_u1 (rec_w_szValue : TValue → Int → Option Int) (a0 : List TValue) : Nat → Int → Int → Option (Int ⊕ Int)
  | 0, _, _ => none
  | n_ + 1, x2, x3 =>
    if (decide (x3 < (a0.length : Int))) then
      (at? a0 x3).bind fun x4 =>
      (rec_w_szValue x4 x2).bind fun x5 =>
      if (decide (x5 < 0)) then
        some (.inr (-1))
      else
        w_szValueS_u1 rec_w_szValue a0 n_ x5 (IntKind.i64.wrap (x3 + 1))
    else
      some (.inl x2)
mutual
def w_szValueS : Nat → (List TValue) → Int → Option Int
  | 0, _, _ => none
  | k + 1, a0, a1 =>
    if (decide ((IntKind.i64.wrap (a1 - (a0.length : Int))) < 0)) then
      some (-1)
    else
      (w_szValueS_u1 (w_szValue k) a0 k (IntKind.i64.wrap (a1 - (a0.length : Int))) 0 : Option (Int ⊕ Int)).bind fun
        | .inl x1 => (
          some x1)
        | .inr z6 => (
          some z6)
def w_szValue : Nat → TValue → Int → Option Int
  | 0, _, _ => none
  | k + 1, a0, a1 =>
    if (decide ((IntKind.i64.wrap (a1 - (a0.text.size : Int))) < 0)) then
      some (-1)
    else
      (w_szValueS k a0.list (IntKind.i64.wrap (a1 - (a0.text.size : Int)))).bind fun x1 =>
      if (decide (x1 < 0)) then
        some (-1)
      else
        (w_szStringS k a0.columns x1).bind fun x2 =>
        if (decide (x2 < 0)) then
          some (-1)
        else
          (w_szRowS k a0.rows x2).bind fun x3 =>
          if (decide (x3 < 0)) then
            some (-1)
          else
            some x3
end
def w_szRead (k : Nat) (a0 : TRead) (a1 : Int) : Option Int :=
  if (decide ((IntKind.i64.wrap (a1 - (a0.text.size : Int))) < 0)) then
    some (-1)
  else
    (w_szValue k a0.result (IntKind.i64.wrap (a1 - (a0.text.size : Int)))).bind fun x1 =>
    if (decide (x1 < 0)) then
      some (-1)
    else
      some x1
end Go.Proofs.YtbknilpmpjjfpaaGreat
