/- Functions that mirror the program's own, one each. Written by a program of mine. -/
import Derived.Test.YtmiboaogfjgkjaaSx
import Derived.Test.YtmiboaogfjgkjaaMd1
import Derived.Test.YtmiboaogfjgkjaaMd5
set_option linter.unusedSimpArgs false
set_option linter.unusedVariables false
namespace Go.Proofs.Ytmiboaogfjgkjaa
open Go.RowKit Am
def s_l3Ascending_u1 (a0 : List TOrigin) : Nat → Int → Option (Unit ⊕ Bool)
  | 0, _ => none
  | n_ + 1, x1 =>
    if (decide (x1 < (a0.length : Int))) then
      ((at? a0 x1).bind fun x3 =>
      if (decide (x3.cell < 0)) then
        some true
      else
        if (decide (x3.row < 0)) then
          some true
        else
          if (decide (0 < x1)) then
            (at? a0 (IntKind.i64.wrap (x1 - 1))).bind fun x4 =>
            (s_l3Before x4 x3).bind fun x5 =>
            some (!x5)
          else
            some false).bind fun x2 =>
      if x2 then
        some (.inr false)
      else
        s_l3Ascending_u1 a0 n_ (IntKind.i64.wrap (x1 + 1))
    else
      some (.inl ())
def s_l3Ascending (k : Nat) (a0 : List TOrigin) : Option Bool :=
  (s_l3Ascending_u1 a0 k 0 : Option (Unit ⊕ Bool)).bind fun
    | .inl _ => (
      some true)
    | .inr z6 => (
      some z6)
def s_l3Table_u2 (x4 : TRow) : Nat → Int → Option (Unit ⊕ Bool)
  | 0, _ => none
  | n_ + 1, x7 =>
    if (decide (x7 < (x4.cells.length : Int))) then
      (at? x4.cells x7).bind fun x8 =>
      (s_l3Number x8).bind fun x9 =>
      if (!x9) then
        some (.inr false)
      else
        s_l3Table_u2 x4 n_ (IntKind.i64.wrap (x7 + 1))
    else
      some (.inl ())
def s_l3Table_u1 (k : Nat) (a0 : TValue) : Nat → Int → Option (Unit ⊕ Bool)
  | 0, _ => none
  | n_ + 1, x3 =>
    if (decide (x3 < (a0.rows.length : Int))) then
      ((at? a0.rows x3).bind fun x4 =>
      (if (!decide ((x4.cells.length : Int) = (a0.columns.length : Int))) then
        some true
      else
        (s_l3Ascending k x4.from_).bind fun x6 =>
        some (!x6)).bind fun x5 =>
      if x5 then
        some (.inr false)
      else
        s_l3Table_u2 x4 k 0 : Option (Unit ⊕ Bool)).bind fun
        | .inl _ => (
          s_l3Table_u1 k a0 n_ (IntKind.i64.wrap (x3 + 1)))
        | .inr z10 => (
          some (.inr z10))
    else
      some (.inl ())
def s_l3Table (k : Nat) (a0 : TValue) : Option Bool :=
  ((s_l3Columns k a0.columns).bind fun x2 =>
  if (!x2) then
    some true
  else
    some (decide (12 < (a0.rows.length : Int)))).bind fun x1 =>
  if x1 then
    some false
  else
    (s_l3Table_u1 k a0 k 0 : Option (Unit ⊕ Bool)).bind fun
      | .inl _ => (
        some true)
      | .inr z11 => (
        some z11)
def s_l3List_u1 (rec_s_IsValidValue : TValue → Option Bool) (a0 : TValue) : Nat → Int → Option (Unit ⊕ Bool)
  | 0, _ => none
  | n_ + 1, x1 =>
    if (decide (x1 < (a0.list.length : Int))) then
      ((at? a0.list x1).bind fun x3 =>
      (s_l3Element x3).bind fun x4 =>
      if (!x4) then
        some true
      else
        (rec_s_IsValidValue x3).bind fun x5 =>
        some (!x5)).bind fun x2 =>
      if x2 then
        some (.inr false)
      else
        s_l3List_u1 rec_s_IsValidValue a0 n_ (IntKind.i64.wrap (x1 + 1))
    else
      some (.inl ())
mutual
def s_l3List : Nat → TValue → Option Bool
  | 0, _ => none
  | k + 1, a0 =>
    (s_l3List_u1 (s_IsValidValue k) a0 k 0 : Option (Unit ⊕ Bool)).bind fun
      | .inl _ => (
        (if (decide ((a0.list.length : Int) ≤ 8)) then
          (s_DepthOf k a0).bind fun x7 =>
          some (decide (x7 ≤ 3))
        else
          some false).bind fun x6 =>
        some x6)
      | .inr z8 => (
        some z8)
def s_IsValidValue : Nat → TValue → Option Bool
  | 0, _ => none
  | k + 1, a0 =>
    (if (!decide (a0.kind = 3)) then
      if (decide (0 < (a0.list.length : Int))) then
        some true
      else
        if (!decide (a0.kind = 5)) then
          some (decide (0 < (IntKind.i64.wrap ((a0.columns.length : Int) + (a0.rows.length : Int)))))
        else
          some false
    else
      some (decide (0 < (IntKind.i64.wrap ((a0.columns.length : Int) + (a0.rows.length : Int)))))).bind fun x1 =>
    if x1 then
      some false
    else
      (if (!decide (a0.kind = 2)) then
        if (!decide (a0.text = (⟨#[]⟩ : ByteArray))) then
          some true
        else
          if (!decide (a0.kind = 4)) then
            some (!decide (a0.step = 0))
          else
            some false
      else
        some (!decide (a0.step = 0))).bind fun x2 =>
      if x2 then
        some false
      else
        if (decide (a0.kind = 1)) then
          (s_l3Number a0.n).bind fun x3 =>
          some x3
        else
          if (decide (a0.kind = 2)) then
            (if (decide (a0.n = 0)) then
              (s_IsValidText k a0.text).bind fun x5 =>
              some x5
            else
              some false).bind fun x4 =>
            some x4
          else
            if (decide (a0.kind = 3)) then
              (if (decide (a0.n = 0)) then
                (s_l3List k a0).bind fun x7 =>
                some x7
              else
                some false).bind fun x6 =>
              some x6
            else
              if (decide (a0.kind = 4)) then
                ((s_l3Number a0.n).bind fun x9 =>
                if x9 then
                  (s_l3Number a0.step).bind fun x10 =>
                  some x10
                else
                  some false).bind fun x8 =>
                some x8
              else
                if (decide (a0.kind = 5)) then
                  (if (decide (a0.n = 0)) then
                    (s_l3Table k a0).bind fun x12 =>
                    some x12
                  else
                    some false).bind fun x11 =>
                  some x11
                else
                  if (decide (a0.kind = 6)) then
                    (s_l1In a0.n 1 8).bind fun x13 =>
                    some x13
                  else
                    some false
end
def s_l1Min (a0 : Int) (a1 : Int) : Option Int :=
  if (decide (a0 < a1)) then
    some a0
  else
    some a1
def i_isNumber (a0 : Int) : Option Bool :=
  (i_within a0 (-1000000000) 1000000000).bind fun x1 =>
  some x1
def i_IsValidText_u1 (a0 : ByteArray) : Nat → Int → Option (Unit ⊕ Bool)
  | 0, _ => none
  | n_ + 1, x1 =>
    if (decide (x1 < (a0.size : Int))) then
      ((at? a0.data.toList x1).bind fun x3 =>
      if (decide ((x3.toNat : Int) < 32)) then
        some true
      else
        if (decide (126 < (x3.toNat : Int))) then
          some true
        else
          some (decide ((x3.toNat : Int) = 34))).bind fun x2 =>
      if x2 then
        some (.inr false)
      else
        i_IsValidText_u1 a0 n_ (IntKind.i64.wrap (x1 + 1))
    else
      some (.inl ())
def i_IsValidText (k : Nat) (a0 : ByteArray) : Option Bool :=
  (i_IsValidText_u1 a0 k 0 : Option (Unit ⊕ Bool)).bind fun
    | .inl _ => (
      some (decide ((a0.size : Int) ≤ 20)))
    | .inr z4 => (
      some z4)
def i_isWord_u1 (a0 : ByteArray) : Nat → Int → Option (Unit ⊕ Bool)
  | 0, _ => none
  | n_ + 1, x1 =>
    if (decide (x1 < (a0.size : Int))) then
      ((at? a0.data.toList x1).bind fun x3 =>
      if (decide (97 ≤ (x3.toNat : Int))) then
        some (decide ((x3.toNat : Int) ≤ 122))
      else
        some false).bind fun x2 =>
      (if (!x2) then
        if (decide (x1 = 0)) then
          some true
        else
          (at? a0.data.toList x1).bind fun x5 =>
          if (decide ((x5.toNat : Int) < 48)) then
            some true
          else
            some (decide (57 < (x5.toNat : Int)))
      else
        some false).bind fun x4 =>
      if x4 then
        some (.inr false)
      else
        i_isWord_u1 a0 n_ (IntKind.i64.wrap (x1 + 1))
    else
      some (.inl ())
def i_isWord (k : Nat) (a0 : ByteArray) : Option Bool :=
  (i_isWord_u1 a0 k 0 : Option (Unit ⊕ Bool)).bind fun
    | .inl _ => (
      (i_within (a0.size : Int) 1 8).bind fun x6 =>
      some x6)
    | .inr z7 => (
      some z7)
def i_ArgumentCount (a0 : ByteArray) : Option Int :=
  if (decide (a0 = (⟨#[99, 108, 111, 99, 107]⟩ : ByteArray))) then
    some 0
  else
    (if (decide (a0 = (⟨#[108, 101, 110]⟩ : ByteArray))) then
      some true
    else
      if (decide (a0 = (⟨#[115, 117, 109]⟩ : ByteArray))) then
        some true
      else
        if (decide (a0 = (⟨#[114, 111, 119, 115]⟩ : ByteArray))) then
          some true
        else
          if (decide (a0 = (⟨#[99, 104, 97, 110, 99, 101]⟩ : ByteArray))) then
            some true
          else
            some (decide (a0 = (⟨#[102, 105, 108, 101]⟩ : ByteArray)))).bind fun x1 =>
    if x1 then
      some 1
    else
      (if (decide (a0 = (⟨#[116, 97, 107, 101]⟩ : ByteArray))) then
        some true
      else
        if (decide (a0 = (⟨#[115, 107, 105, 112]⟩ : ByteArray))) then
          some true
        else
          if (decide (a0 = (⟨#[114, 97, 110, 103, 101]⟩ : ByteArray))) then
            some true
          else
            if (decide (a0 = (⟨#[110, 116, 104]⟩ : ByteArray))) then
              some true
            else
              if (decide (a0 = (⟨#[107, 101, 101, 112]⟩ : ByteArray))) then
                some true
              else
                if (decide (a0 = (⟨#[99, 111, 108, 117, 109, 110]⟩ : ByteArray))) then
                  some true
                else
                  some (decide (a0 = (⟨#[116, 97, 98, 108, 101]⟩ : ByteArray)))).bind fun x2 =>
      if x2 then
        some 2
      else
        (if (decide (a0 = (⟨#[119, 104, 101, 114, 101]⟩ : ByteArray))) then
          some true
        else
          if (decide (a0 = (⟨#[103, 114, 111, 117, 112]⟩ : ByteArray))) then
            some true
          else
            some (decide (a0 = (⟨#[106, 111, 105, 110]⟩ : ByteArray)))).bind fun x3 =>
        if x3 then
          some 3
        else
          if (decide (a0 = (⟨#[97, 100, 100]⟩ : ByteArray))) then
            some 4
          else
            some (-1)
def i_IsReserved (a0 : ByteArray) : Option Bool :=
  (if (decide (a0 = (⟨#[108, 101, 116]⟩ : ByteArray))) then
    some true
  else
    if (decide (a0 = (⟨#[105, 110]⟩ : ByteArray))) then
      some true
    else
      if (decide (a0 = (⟨#[105, 102]⟩ : ByteArray))) then
        some true
      else
        if (decide (a0 = (⟨#[116, 104, 101, 110]⟩ : ByteArray))) then
          some true
        else
          if (decide (a0 = (⟨#[101, 108, 115, 101]⟩ : ByteArray))) then
            some true
          else
            if (decide (a0 = (⟨#[102, 111, 114]⟩ : ByteArray))) then
              some true
            else
              some (decide (a0 = (⟨#[100, 111]⟩ : ByteArray)))).bind fun x1 =>
  if x1 then
    some true
  else
    (i_ArgumentCount a0).bind fun x2 =>
    some (decide (0 ≤ x2))
def i_IsValidName (k : Nat) (a0 : ByteArray) : Option Bool :=
  ((i_isWord k a0).bind fun x2 =>
  if x2 then
    (i_IsReserved a0).bind fun x3 =>
    some (!x3)
  else
    some false).bind fun x1 =>
  some x1
def i_IndexOf_u1 (a0 : List ByteArray) (a1 : ByteArray) : Nat → Int → Option (Unit ⊕ Int)
  | 0, _ => none
  | n_ + 1, x1 =>
    if (decide (x1 < (a0.length : Int))) then
      (at? a0 x1).bind fun x2 =>
      if (decide (x2 = a1)) then
        some (.inr x1)
      else
        i_IndexOf_u1 a0 a1 n_ (IntKind.i64.wrap (x1 + 1))
    else
      some (.inl ())
def i_IndexOf (k : Nat) (a0 : List ByteArray) (a1 : ByteArray) : Option Int :=
  (i_IndexOf_u1 a0 a1 k 0 : Option (Unit ⊕ Int)).bind fun
    | .inl _ => (
      some (-1))
    | .inr z3 => (
      some z3)
end Go.Proofs.Ytmiboaogfjgkjaa
