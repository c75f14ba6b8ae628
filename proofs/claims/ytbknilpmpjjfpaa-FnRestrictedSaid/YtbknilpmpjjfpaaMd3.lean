/- Functions that mirror the program's own, one each. Written by a program of mine. -/
import Derived.Test.YtbknilpmpjjfpaaSx
import Derived.Test.YtbknilpmpjjfpaaMd2
set_option linter.unusedSimpArgs false
set_option linter.unusedVariables false
namespace Go.Proofs.Ytbknilpmpjjfpaa
open Go.RowKit Am
def s_l3Number (a0 : Int) : Option Bool :=
  (s_l1In a0 (-1000000000) 1000000000).bind fun x1 =>
  some x1
def s_IsValidText_u1 (a0 : ByteArray) : Nat → Int → Option (Unit ⊕ Bool)
  | 0, _ => none
  | n_ + 1, x1 =>
    if (decide (x1 < (a0.size : Int))) then
      ((at? a0.data.toList x1).bind fun x3 =>
      if (decide ((x3.toNat : Int) < 32)) then
        some true
      else
        if (decide (126 < (x3.toNat : Int))) then
          some true
        else
          some (decide ((x3.toNat : Int) = 34))).bind fun x2 =>
      if x2 then
        some (.inr false)
      else
        s_IsValidText_u1 a0 n_ (IntKind.i64.wrap (x1 + 1))
    else
      some (.inl ())
def s_IsValidText (k : Nat) (a0 : ByteArray) : Option Bool :=
  (s_IsValidText_u1 a0 k 0 : Option (Unit ⊕ Bool)).bind fun
    | .inl _ => (
      some (decide ((a0.size : Int) ≤ 20)))
    | .inr z4 => (
      some z4)
def s_l3Element (a0 : TValue) : Option Bool :=
  (if (decide (a0.kind = 1)) then
    some true
  else
    if (decide (a0.kind = 2)) then
      some true
    else
      some (decide (a0.kind = 3))).bind fun x1 =>
  some x1
def s_l1Max (a0 : Int) (a1 : Int) : Option Int :=
  if (decide (a1 < a0)) then
    some a0
  else
    some a1
def s_DepthOf_u1 (rec_s_DepthOf : TValue → Option Int) (a0 : TValue) : Nat → Int → Int → Option Int
  | 0, _, _ => none
  | n_ + 1, x2, x3 =>
    if (decide (x3 < (a0.list.length : Int))) then
      (at? a0.list x3).bind fun x4 =>
      (rec_s_DepthOf x4).bind fun x5 =>
      (s_l1Max x2 x5).bind fun x6 =>
      s_DepthOf_u1 rec_s_DepthOf a0 n_ x6 (IntKind.i64.wrap (x3 + 1))
    else
      some x2
def s_DepthOf : Nat → TValue → Option Int
  | 0, _ => none
  | k + 1, a0 =>
    (s_DepthOf_u1 (s_DepthOf k) a0 k 0 0).bind fun x1 =>
    some (IntKind.i64.wrap (x1 + 1))
def s_l2Shape_u1 (a0 : ByteArray) : Nat → Int → Option (Unit ⊕ Bool)
  | 0, _ => none
  | n_ + 1, x1 =>
    if (decide (x1 < (a0.size : Int))) then
      ((at? a0.data.toList x1).bind fun x3 =>
      if (decide (97 ≤ (x3.toNat : Int))) then
        some (decide ((x3.toNat : Int) ≤ 122))
      else
        some false).bind fun x2 =>
      ((at? a0.data.toList x1).bind fun x5 =>
      if (decide (48 ≤ (x5.toNat : Int))) then
        some (decide ((x5.toNat : Int) ≤ 57))
      else
        some false).bind fun x4 =>
      (if (!x2) then
        if (decide (x1 = 0)) then
          some true
        else
          some (!x4)
      else
        some false).bind fun x6 =>
      if x6 then
        some (.inr false)
      else
        s_l2Shape_u1 a0 n_ (IntKind.i64.wrap (x1 + 1))
    else
      some (.inl ())
def s_l2Shape (k : Nat) (a0 : ByteArray) : Option Bool :=
  (s_l2Shape_u1 a0 k 0 : Option (Unit ⊕ Bool)).bind fun
    | .inl _ => (
      some (decide (0 < (a0.size : Int))))
    | .inr z7 => (
      some z7)
def s_l2Reserved : Option (List ByteArray) :=
  some [(⟨#[108, 101, 116]⟩ : ByteArray), (⟨#[105, 110]⟩ : ByteArray), (⟨#[105, 102]⟩ : ByteArray), (⟨#[116, 104, 101, 110]⟩ : ByteArray), (⟨#[101, 108, 115, 101]⟩ : ByteArray), (⟨#[102, 111, 114]⟩ : ByteArray), (⟨#[100, 111]⟩ : ByteArray), (⟨#[108, 101, 110]⟩ : ByteArray), (⟨#[115, 117, 109]⟩ : ByteArray), (⟨#[116, 97, 107, 101]⟩ : ByteArray), (⟨#[115, 107, 105, 112]⟩ : ByteArray), (⟨#[114, 97, 110, 103, 101]⟩ : ByteArray), (⟨#[110, 116, 104]⟩ : ByteArray), (⟨#[119, 104, 101, 114, 101]⟩ : ByteArray), (⟨#[107, 101, 101, 112]⟩ : ByteArray), (⟨#[97, 100, 100]⟩ : ByteArray), (⟨#[103, 114, 111, 117, 112]⟩ : ByteArray), (⟨#[106, 111, 105, 110]⟩ : ByteArray), (⟨#[99, 111, 108, 117, 109, 110]⟩ : ByteArray), (⟨#[114, 111, 119, 115]⟩ : ByteArray), (⟨#[99, 108, 111, 99, 107]⟩ : ByteArray), (⟨#[99, 104, 97, 110, 99, 101]⟩ : ByteArray), (⟨#[102, 105, 108, 101]⟩ : ByteArray), (⟨#[116, 97, 98, 108, 101]⟩ : ByteArray)]
def s_l1Has_u1 (a0 : List ByteArray) (a1 : ByteArray) : Nat → Int → Option (Unit ⊕ Bool)
  | 0, _ => none
  | n_ + 1, x1 =>
    if (decide (x1 < (a0.length : Int))) then
      (at? a0 x1).bind fun x2 =>
      if (decide (x2 = a1)) then
        some (.inr true)
      else
        s_l1Has_u1 a0 a1 n_ (IntKind.i64.wrap (x1 + 1))
    else
      some (.inl ())
def s_l1Has (k : Nat) (a0 : List ByteArray) (a1 : ByteArray) : Option Bool :=
  (s_l1Has_u1 a0 a1 k 0 : Option (Unit ⊕ Bool)).bind fun
    | .inl _ => (
      some false)
    | .inr z3 => (
      some z3)
def s_IsReserved (k : Nat) (a0 : ByteArray) : Option Bool :=
  (s_l2Reserved).bind fun x1 =>
  (s_l1Has k x1 a0).bind fun x2 =>
  some x2
def s_IsValidName (k : Nat) (a0 : ByteArray) : Option Bool :=
  ((s_l2Shape k a0).bind fun x2 =>
  if x2 then
    if (decide ((a0.size : Int) ≤ 8)) then
      (s_IsReserved k a0).bind fun x3 =>
      some (!x3)
    else
      some false
  else
    some false).bind fun x1 =>
  some x1
def s_AllDistinct_u1 (k : Nat) (a0 : List ByteArray) : Nat → Int → Option (Unit ⊕ Bool)
  | 0, _ => none
  | n_ + 1, x1 =>
    if (decide (x1 < (a0.length : Int))) then
      (sub? a0 0 x1).bind fun x2 =>
      (at? a0 x1).bind fun x3 =>
      (s_l1Has k x2 x3).bind fun x4 =>
      if x4 then
        some (.inr false)
      else
        s_AllDistinct_u1 k a0 n_ (IntKind.i64.wrap (x1 + 1))
    else
      some (.inl ())
def s_AllDistinct (k : Nat) (a0 : List ByteArray) : Option Bool :=
  (s_AllDistinct_u1 k a0 k 0 : Option (Unit ⊕ Bool)).bind fun
    | .inl _ => (
      some true)
    | .inr z5 => (
      some z5)
def s_l3Columns_u1 (k : Nat) (a0 : List ByteArray) : Nat → Int → Option (Unit ⊕ Bool)
  | 0, _ => none
  | n_ + 1, x1 =>
    if (decide (x1 < (a0.length : Int))) then
      (at? a0 x1).bind fun x2 =>
      (s_IsValidName k x2).bind fun x3 =>
      if (!x3) then
        some (.inr false)
      else
        s_l3Columns_u1 k a0 n_ (IntKind.i64.wrap (x1 + 1))
    else
      some (.inl ())
def s_l3Columns (k : Nat) (a0 : List ByteArray) : Option Bool :=
  (s_l3Columns_u1 k a0 k 0 : Option (Unit ⊕ Bool)).bind fun
    | .inl _ => (
      ((s_l1In (a0.length : Int) 1 4).bind fun x5 =>
      if x5 then
        (s_AllDistinct k a0).bind fun x6 =>
        some x6
      else
        some false).bind fun x4 =>
      some x4)
    | .inr z7 => (
      some z7)
def s_l3Before (a0 : TOrigin) (a1 : TOrigin) : Option Bool :=
  (if (decide (a0.cell < a1.cell)) then
    some true
  else
    if (decide (a0.cell = a1.cell)) then
      some (decide (a0.row < a1.row))
    else
      some false).bind fun x1 =>
  some x1
def s_l3Ascending_u1 (a0 : List TOrigin) : Nat → Int → Option (Unit ⊕ Bool)
  | 0, _ => none
  | n_ + 1, x1 =>
    if (decide (x1 < (a0.length : Int))) then
      ((at? a0 x1).bind fun x3 =>
      if (decide (x3.cell < 0)) then
        some true
      else
        if (decide (x3.row < 0)) then
          some true
        else
          if (decide (0 < x1)) then
            (at? a0 (IntKind.i64.wrap (x1 - 1))).bind fun x4 =>
            (s_l3Before x4 x3).bind fun x5 =>
            some (!x5)
          else
            some false).bind fun x2 =>
      if x2 then
        some (.inr false)
      else
        s_l3Ascending_u1 a0 n_ (IntKind.i64.wrap (x1 + 1))
    else
      some (.inl ())
def s_l3Ascending (k : Nat) (a0 : List TOrigin) : Option Bool :=
  (s_l3Ascending_u1 a0 k 0 : Option (Unit ⊕ Bool)).bind fun
    | .inl _ => (
      some true)
    | .inr z6 => (
      some z6)
end Go.Proofs.Ytbknilpmpjjfpaa
