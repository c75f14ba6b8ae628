/- Functions that mirror the program's own, one each. Written by a program of mine. -/
import Derived.Test.YtmiboaogfjgkjaaSx
import Derived.Test.YtmiboaogfjgkjaaMdA1
set_option linter.unusedSimpArgs false
set_option linter.unusedVariables false
namespace Go.Proofs.Ytmiboaogfjgkjaa
open Go.RowKit Am
def w_szRow (a0 : TRow) (a1 : Int) : Option Int :=
  (w_szIntS a0.cells a1).bind fun x1 =>
  if (decide (x1 < 0)) then
    some (-1)
  else
    (w_szOriginS a0.from_ x1).bind fun x2 =>
    if (decide (x2 < 0)) then
      some (-1)
    else
      some x2
def w_szRowS_u1 (a0 : List TRow) : Nat → Int → Int → Option (Int ⊕ Int)
  | 0, _, _ => none
  | n_ + 1, x2, x3 =>
    if (decide (x3 < (a0.length : Int))) then
      (at? a0 x3).bind fun x4 =>
      (w_szRow x4 x2).bind fun x5 =>
      if (decide (x5 < 0)) then
        some (.inr (-1))
      else
        w_szRowS_u1 a0 n_ x5 (IntKind.i64.wrap (x3 + 1))
    else
      some (.inl x2)
def w_szRowS (k : Nat) (a0 : List TRow) (a1 : Int) : Option Int :=
  if (decide ((IntKind.i64.wrap (a1 - (a0.length : Int))) < 0)) then
    some (-1)
  else
    (w_szRowS_u1 a0 k (IntKind.i64.wrap (a1 - (a0.length : Int))) 0 : Option (Int ⊕ Int)).bind fun
      | .inl x1 => (
        some x1)
      | .inr z6 => (
        some z6)
def w_szValueS_u1 (rec_w_szValue : TValue → Int → Option Int) (a0 : List TValue) : Nat → Int → Int → Option (Int ⊕ Int)
  | 0, _, _ => none
  | n_ + 1, x2, x3 =>
    if (decide (x3 < (a0.length : Int))) then
      (at? a0 x3).bind fun x4 =>
      (rec_w_szValue x4 x2).bind fun x5 =>
      if (decide (x5 < 0)) then
        some (.inr (-1))
      else
        w_szValueS_u1 rec_w_szValue a0 n_ x5 (IntKind.i64.wrap (x3 + 1))
    else
      some (.inl x2)
mutual
def w_szValue : Nat → TValue → Int → Option Int
  | 0, _, _ => none
  | k + 1, a0, a1 =>
    if (decide ((IntKind.i64.wrap (a1 - (a0.text.size : Int))) < 0)) then
      some (-1)
    else
      (w_szValueS k a0.list (IntKind.i64.wrap (a1 - (a0.text.size : Int)))).bind fun x1 =>
      if (decide (x1 < 0)) then
        some (-1)
      else
        (w_szStringS k a0.columns x1).bind fun x2 =>
        if (decide (x2 < 0)) then
          some (-1)
        else
          (w_szRowS k a0.rows x2).bind fun x3 =>
          if (decide (x3 < 0)) then
            some (-1)
          else
            some x3
def w_szValueS : Nat → (List TValue) → Int → Option Int
  | 0, _, _ => none
  | k + 1, a0, a1 =>
    if (decide ((IntKind.i64.wrap (a1 - (a0.length : Int))) < 0)) then
      some (-1)
    else
      (w_szValueS_u1 (w_szValue k) a0 k (IntKind.i64.wrap (a1 - (a0.length : Int))) 0 : Option (Int ⊕ Int)).bind fun
        | .inl x1 => (
          some x1)
        | .inr z6 => (
          some z6)
end
def w_toStringS_u1 (a0 : List ByteArray) : Nat → (List ByteArray) → Int → Option (List ByteArray)
  | 0, _, _ => none
  | n_ + 1, x3, x4 =>
    if (decide (x4 < (a0.length : Int))) then
      (at? a0 x4).bind fun x5 =>
      (at? x3 x4).bind fun x6 =>
      w_toStringS_u1 a0 n_ (x3.set x4.toNat x5) (IntKind.i64.wrap (x4 + 1))
    else
      some x3
def w_toStringS (k : Nat) (a0 : List ByteArray) : Option (List ByteArray) :=
  (mk? 16 (a0.length : Int)).bind fun x1 =>
  (w_toStringS_u1 a0 k (List.replicate x1 (⟨#[]⟩ : ByteArray)) 0).bind fun x2 =>
  some x2
def w_toIntS_u1 (a0 : List Int) : Nat → (List Int) → Int → Option (List Int)
  | 0, _, _ => none
  | n_ + 1, x3, x4 =>
    if (decide (x4 < (a0.length : Int))) then
      (at? a0 x4).bind fun x5 =>
      (at? x3 x4).bind fun x6 =>
      w_toIntS_u1 a0 n_ (x3.set x4.toNat x5) (IntKind.i64.wrap (x4 + 1))
    else
      some x3
def w_toIntS (k : Nat) (a0 : List Int) : Option (List Int) :=
  (mk? 8 (a0.length : Int)).bind fun x1 =>
  (w_toIntS_u1 a0 k (List.replicate x1 0) 0).bind fun x2 =>
  some x2
def w_toOrigin (a0 : TOrigin) : Option TOrigin :=
  some a0
def w_toOriginS_u1 (a0 : List TOrigin) : Nat → (List TOrigin) → Int → Option (List TOrigin)
  | 0, _, _ => none
  | n_ + 1, x3, x4 =>
    if (decide (x4 < (a0.length : Int))) then
      (at? a0 x4).bind fun x5 =>
      (w_toOrigin x5).bind fun x6 =>
      (at? x3 x4).bind fun x7 =>
      w_toOriginS_u1 a0 n_ (x3.set x4.toNat x6) (IntKind.i64.wrap (x4 + 1))
    else
      some x3
def w_toOriginS (k : Nat) (a0 : List TOrigin) : Option (List TOrigin) :=
  (mk? 16 (a0.length : Int)).bind fun x1 =>
  (w_toOriginS_u1 a0 k (List.replicate x1 (TOrigin.mk 0 0)) 0).bind fun x2 =>
  some x2
def w_toRow (k : Nat) (a0 : TRow) : Option TRow :=
  (w_toIntS k a0.cells).bind fun x1 =>
  (w_toOriginS k a0.from_).bind fun x2 =>
  some (TRow.mk x1 x2)
end Go.Proofs.Ytmiboaogfjgkjaa
