/- Functions that mirror the program's own, one each. Written by a program of mine. -/
import Derived.Test.YtbknilpmpjjfpaaSx
import Derived.Test.YtbknilpmpjjfpaaMd0
import Derived.Test.YtbknilpmpjjfpaaMd1
import Derived.Test.YtbknilpmpjjfpaaMd2
import Derived.Test.YtbknilpmpjjfpaaMd4
import Derived.Test.YtbknilpmpjjfpaaMd5
set_option linter.unusedSimpArgs false
set_option linter.unusedVariables false
namespace Go.Proofs.Ytbknilpmpjjfpaa
open Go.RowKit Am
def s_l7Name (k : Nat) (a0 : Tl1Cur) : Option (TValue × Tl1Cur) :=
  (s_l1Once a0 16).bind fun x1 =>
  if x1.1 then
    (s_l3Bent k x1.2).bind fun x2 =>
    some (x2.1, x2.2)
  else
    (s_l1Pick x1.2 [(⟨#[97]⟩ : ByteArray), (⟨#[97]⟩ : ByteArray), (⟨#[97]⟩ : ByteArray), (⟨#[98]⟩ : ByteArray), (⟨#[98]⟩ : ByteArray), (⟨#[99]⟩ : ByteArray), (⟨#[120]⟩ : ByteArray), (⟨#[122]⟩ : ByteArray), (⟨#[]⟩ : ByteArray)]).bind fun x3 =>
    (s_TextValue x3.1).bind fun x4 =>
    some (x4, x3.2)
def s_DrawWhereEqual (k : Nat) (a0 : List Int) : Option (TValue × TValue × TValue) :=
  (s_l1New k a0).bind fun x1 =>
  (s_l1Below x1 4).bind fun x2 =>
  (s_NumberValue x2.1).bind fun x3 =>
  ((s_l1Once x2.2 12).bind fun x14 =>
  if x14.1 then
    (s_l3Bent k x14.2).bind fun x15 =>
    some (x15.2.b, x15.2.i, x15.2.h, x15.1.kind, x15.1.n, x15.1.step, x15.1.text, x15.1.list, x15.1.columns, x15.1.rows)
  else
    some (x14.2.b, x14.2.i, x14.2.h, x3.kind, x3.n, x3.step, x3.text, x3.list, x3.columns, x3.rows)).bind fun (x4, x5, x6, x7, x8, x9, x10, x11, x12, x13) =>
  (s_l7Name k (Tl1Cur.mk x4 x5 x6)).bind fun x16 =>
  (s_l7Table k x16.2).bind fun x17 =>
  some (x16.1, (TValue.mk x7 x8 x9 x10 x11 x12 x13), x17.1)
def i_ErrorValue (a0 : Int) : Option TValue :=
  some (TValue.mk 6 a0 0 (⟨#[]⟩ : ByteArray) [] [] [])
def i_operandError_u1 (k : Nat) (a0 : List TValue) : Nat → Int → Option (Unit ⊕ (TValue × Bool))
  | 0, _ => none
  | n_ + 1, x1 =>
    if (decide (x1 < (a0.length : Int))) then
      (at? a0 x1).bind fun x2 =>
      (i_IsValidValue k x2).bind fun x3 =>
      if (!x3) then
        (i_ErrorValue 4).bind fun x4 =>
        some (.inr (x4, true))
      else
        if (decide (x2.kind = 6)) then
          some (.inr (x2, true))
        else
          i_operandError_u1 k a0 n_ (IntKind.i64.wrap (x1 + 1))
    else
      some (.inl ())
def i_operandError (k : Nat) (a0 : List TValue) : Option (TValue × Bool) :=
  (i_operandError_u1 k a0 k 0 : Option (Unit ⊕ (TValue × Bool))).bind fun
    | .inl _ => (
      some ((TValue.mk 0 0 0 (⟨#[]⟩ : ByteArray) [] [] []), false))
    | .inr z5 => (
      some z5)
def i_kindError_u1 (a0 : List Int) (a1 : List TValue) : Nat → Int → Option (Unit ⊕ (TValue × Bool))
  | 0, _ => none
  | n_ + 1, x2 =>
    if (decide (x2 < (a1.length : Int))) then
      (at? a1 x2).bind fun x3 =>
      (at? a0 x2).bind fun x4 =>
      if (!decide (x3.kind = x4)) then
        (i_ErrorValue 4).bind fun x5 =>
        some (.inr (x5, true))
      else
        i_kindError_u1 a0 a1 n_ (IntKind.i64.wrap (x2 + 1))
    else
      some (.inl ())
def i_kindError (k : Nat) (a0 : List Int) (a1 : List TValue) : Option (TValue × Bool) :=
  (i_operandError k a1).bind fun x1 =>
  if x1.2 then
    some (x1.1, true)
  else
    (i_kindError_u1 a0 a1 k 0 : Option (Unit ⊕ (TValue × Bool))).bind fun
      | .inl _ => (
        some ((TValue.mk 0 0 0 (⟨#[]⟩ : ByteArray) [] [] []), false))
      | .inr z6 => (
        some z6)
def i_copyRow (a0 : TRow) : Option TRow :=
  (app? 8 ([] : List Int) a0.cells).bind fun x1 =>
  (app? 16 ([] : List TOrigin) a0.from_).bind fun x2 =>
  some (TRow.mk x1 x2)
def i_WhereEqual_u1 (a1 : TValue) (a2 : TValue) (x2 : Int) : Nat → (List TRow) → Int → Option (List TRow)
  | 0, _, _ => none
  | n_ + 1, x6, x7 =>
    if (decide (x7 < (a2.rows.length : Int))) then
      ((at? a2.rows x7).bind fun x9 =>
      (at? x9.cells x2).bind fun x10 =>
      if (decide (x10 = a1.n)) then
        (i_copyRow x9).bind fun x11 =>
        (app? 48 x6 [x11]).bind fun x12 =>
        some x12
      else
        some x6).bind fun x8 =>
      i_WhereEqual_u1 a1 a2 x2 n_ x8 (IntKind.i64.wrap (x7 + 1))
    else
      some x6
def i_WhereEqual (k : Nat) (a0 : TValue) (a1 : TValue) (a2 : TValue) : Option TValue :=
  (i_kindError k [2, 1, 5] [a0, a1, a2]).bind fun x1 =>
  if x1.2 then
    some x1.1
  else
    (i_ColumnIndex k a2 a0.text).bind fun x2 =>
    if (decide (x2 < 0)) then
      (i_ErrorValue 7).bind fun x3 =>
      some x3
    else
      (app? 16 ([] : List ByteArray) a2.columns).bind fun x4 =>
      (i_WhereEqual_u1 a1 a2 x2 k [] 0).bind fun x5 =>
      some (TValue.mk 5 0 0 (⟨#[]⟩ : ByteArray) [] x4 x5)
def s_l5First_u1 (k : Nat) (a0 : List TValue) : Nat → Int → Option (Unit ⊕ (TValue × Bool))
  | 0, _ => none
  | n_ + 1, x1 =>
    if (decide (x1 < (a0.length : Int))) then
      (at? a0 x1).bind fun x2 =>
      (s_IsValidValue k x2).bind fun x3 =>
      if (!x3) then
        (s_ErrorValue 4).bind fun x4 =>
        some (.inr (x4, true))
      else
        if (decide (x2.kind = 6)) then
          (s_ErrorValue x2.n).bind fun x5 =>
          some (.inr (x5, true))
        else
          s_l5First_u1 k a0 n_ (IntKind.i64.wrap (x1 + 1))
    else
      some (.inl ())
def s_l5First (k : Nat) (a0 : List TValue) : Option (TValue × Bool) :=
  (s_l5First_u1 k a0 k 0 : Option (Unit ⊕ (TValue × Bool))).bind fun
    | .inl _ => (
      some ((TValue.mk 0 0 0 (⟨#[]⟩ : ByteArray) [] [] []), false))
    | .inr z6 => (
      some z6)
def s_l7Check_u1 (a0 : List TValue) (a1 : List Int) : Nat → Int → Option (Unit ⊕ (TValue × Bool))
  | 0, _ => none
  | n_ + 1, x2 =>
    if (decide (x2 < (a0.length : Int))) then
      (at? a0 x2).bind fun x3 =>
      (at? a1 x2).bind fun x4 =>
      if (!decide (x3.kind = x4)) then
        (s_ErrorValue 4).bind fun x5 =>
        some (.inr (x5, true))
      else
        s_l7Check_u1 a0 a1 n_ (IntKind.i64.wrap (x2 + 1))
    else
      some (.inl ())
def s_l7Check (k : Nat) (a0 : List TValue) (a1 : List Int) : Option (TValue × Bool) :=
  (s_l5First k a0).bind fun x1 =>
  if x1.2 then
    some (x1.1, true)
  else
    (s_l7Check_u1 a0 a1 k 0 : Option (Unit ⊕ (TValue × Bool))).bind fun
      | .inl _ => (
        some ((TValue.mk 0 0 0 (⟨#[]⟩ : ByteArray) [] [] []), false))
      | .inr z6 => (
        some z6)
def s_l3Row (a0 : TRow) : Option TRow :=
  (app? 8 ([] : List Int) a0.cells).bind fun x1 =>
  (app? 16 ([] : List TOrigin) a0.from_).bind fun x2 =>
  some (TRow.mk x1 x2)
def s_WhereEqual_u1 (a1 : TValue) (a2 : TValue) (x2 : Int) : Nat → (List TRow) → Int → Option (List TRow)
  | 0, _, _ => none
  | n_ + 1, x6, x7 =>
    if (decide (x7 < (a2.rows.length : Int))) then
      ((at? a2.rows x7).bind fun x9 =>
      (at? x9.cells x2).bind fun x10 =>
      if (decide (x10 = a1.n)) then
        (s_l3Row x9).bind fun x11 =>
        (app? 48 x6 [x11]).bind fun x12 =>
        some x12
      else
        some x6).bind fun x8 =>
      s_WhereEqual_u1 a1 a2 x2 n_ x8 (IntKind.i64.wrap (x7 + 1))
    else
      some x6
def s_WhereEqual (k : Nat) (a0 : TValue) (a1 : TValue) (a2 : TValue) : Option TValue :=
  (s_l7Check k [a0, a1, a2] [2, 1, 5]).bind fun x1 =>
  if x1.2 then
    some x1.1
  else
    (s_ColumnIndex k a2 a0.text).bind fun x2 =>
    if (decide (x2 < 0)) then
      (s_ErrorValue 7).bind fun x3 =>
      some x3
    else
      (app? 16 ([] : List ByteArray) a2.columns).bind fun x4 =>
      (s_WhereEqual_u1 a1 a2 x2 k [] 0).bind fun x5 =>
      some (TValue.mk 5 0 0 (⟨#[]⟩ : ByteArray) [] x4 x5)
def s_l3Texts_u1 (a0 : List ByteArray) (a1 : List ByteArray) : Nat → Int → Option (Unit ⊕ Bool)
  | 0, _ => none
  | n_ + 1, x1 =>
    if (decide (x1 < (a0.length : Int))) then
      (at? a0 x1).bind fun x2 =>
      (at? a1 x1).bind fun x3 =>
      if (!decide (x2 = x3)) then
        some (.inr false)
      else
        s_l3Texts_u1 a0 a1 n_ (IntKind.i64.wrap (x1 + 1))
    else
      some (.inl ())
def s_l3Texts (k : Nat) (a0 : List ByteArray) (a1 : List ByteArray) : Option Bool :=
  if (!decide ((a0.length : Int) = (a1.length : Int))) then
    some false
  else
    (s_l3Texts_u1 a0 a1 k 0 : Option (Unit ⊕ Bool)).bind fun
      | .inl _ => (
        some true)
      | .inr z4 => (
        some z4)
def s_l1Ints_u1 (a0 : List Int) (a1 : List Int) : Nat → Int → Option (Unit ⊕ Bool)
  | 0, _ => none
  | n_ + 1, x1 =>
    if (decide (x1 < (a0.length : Int))) then
      (at? a0 x1).bind fun x2 =>
      (at? a1 x1).bind fun x3 =>
      if (!decide (x2 = x3)) then
        some (.inr false)
      else
        s_l1Ints_u1 a0 a1 n_ (IntKind.i64.wrap (x1 + 1))
    else
      some (.inl ())
def s_l1Ints (k : Nat) (a0 : List Int) (a1 : List Int) : Option Bool :=
  if (!decide ((a0.length : Int) = (a1.length : Int))) then
    some false
  else
    (s_l1Ints_u1 a0 a1 k 0 : Option (Unit ⊕ Bool)).bind fun
      | .inl _ => (
        some true)
      | .inr z4 => (
        some z4)
def s_l3Origins_u1 (a0 : List TOrigin) (a1 : List TOrigin) : Nat → Int → Option (Unit ⊕ Bool)
  | 0, _ => none
  | n_ + 1, x1 =>
    if (decide (x1 < (a0.length : Int))) then
      (at? a0 x1).bind fun x2 =>
      (at? a1 x1).bind fun x3 =>
      if (!(decide (x2.cell = x3.cell) && decide (x2.row = x3.row))) then
        some (.inr false)
      else
        s_l3Origins_u1 a0 a1 n_ (IntKind.i64.wrap (x1 + 1))
    else
      some (.inl ())
def s_l3Origins (k : Nat) (a0 : List TOrigin) (a1 : List TOrigin) : Option Bool :=
  if (!decide ((a0.length : Int) = (a1.length : Int))) then
    some false
  else
    (s_l3Origins_u1 a0 a1 k 0 : Option (Unit ⊕ Bool)).bind fun
      | .inl _ => (
        some true)
      | .inr z4 => (
        some z4)
end Go.Proofs.Ytbknilpmpjjfpaa
