/- Functions that mirror the program's own, one each. Written by a program of mine. -/
import Derived.Test.YtbknilpmpjjfpaaGreatSx
set_option linter.unusedSimpArgs false
set_option linter.unusedVariables false
namespace Go.Proofs.YtbknilpmpjjfpaaGreat
open Go.RowKit Am
def s_l17Copy (a0 : TNotebook) : Option TNotebook :=
  (app? 64 ([] : List TCell) a0.cells).bind fun x1 =>
  some (TNotebook.mk x1)
def s_l1In (a0 : Int) (a1 : Int) (a2 : Int) : Option Bool :=
  (if (decide (a1 ≤ a0)) then
    some (decide (a0 ≤ a2))
  else
    some false).bind fun x1 =>
  some x1
def s_IsPrintable_u1 (a0 : ByteArray) : Nat → Int → Option (Unit ⊕ Bool)
  | 0, _ => none
  | n_ + 1, x1 =>
    if (decide (x1 < (a0.size : Int))) then
      ((at? a0.data.toList x1).bind fun x3 =>
      if (decide ((x3.toNat : Int) < 32)) then
        some true
      else
        some (decide (126 < (x3.toNat : Int)))).bind fun x2 =>
      if x2 then
        some (.inr false)
      else
        s_IsPrintable_u1 a0 n_ (IntKind.i64.wrap (x1 + 1))
    else
      some (.inl ())
def s_IsPrintable (k : Nat) (a0 : ByteArray) : Option Bool :=
  (s_IsPrintable_u1 a0 k 0 : Option (Unit ⊕ Bool)).bind fun
    | .inl _ => (
      some (decide ((a0.size : Int) ≤ 120)))
    | .inr z4 => (
      some z4)
def s_l2Shape_u1 (a0 : ByteArray) : Nat → Int → Option (Unit ⊕ Bool)
  | 0, _ => none
  | n_ + 1, x1 =>
    if (decide (x1 < (a0.size : Int))) then
      ((at? a0.data.toList x1).bind fun x3 =>
      if (decide (97 ≤ (x3.toNat : Int))) then
        some (decide ((x3.toNat : Int) ≤ 122))
      else
        some false).bind fun x2 =>
      ((at? a0.data.toList x1).bind fun x5 =>
      if (decide (48 ≤ (x5.toNat : Int))) then
        some (decide ((x5.toNat : Int) ≤ 57))
      else
        some false).bind fun x4 =>
      (if (!x2) then
        if (decide (x1 = 0)) then
          some true
        else
          some (!x4)
      else
        some false).bind fun x6 =>
      if x6 then
        some (.inr false)
      else
        s_l2Shape_u1 a0 n_ (IntKind.i64.wrap (x1 + 1))
    else
      some (.inl ())
def s_l2Shape (k : Nat) (a0 : ByteArray) : Option Bool :=
  (s_l2Shape_u1 a0 k 0 : Option (Unit ⊕ Bool)).bind fun
    | .inl _ => (
      some (decide (0 < (a0.size : Int))))
    | .inr z7 => (
      some z7)
def s_l2Reserved : Option (List ByteArray) :=
  some [(⟨#[108, 101, 116]⟩ : ByteArray), (⟨#[105, 110]⟩ : ByteArray), (⟨#[105, 102]⟩ : ByteArray), (⟨#[116, 104, 101, 110]⟩ : ByteArray), (⟨#[101, 108, 115, 101]⟩ : ByteArray), (⟨#[102, 111, 114]⟩ : ByteArray), (⟨#[100, 111]⟩ : ByteArray), (⟨#[108, 101, 110]⟩ : ByteArray), (⟨#[115, 117, 109]⟩ : ByteArray), (⟨#[116, 97, 107, 101]⟩ : ByteArray), (⟨#[115, 107, 105, 112]⟩ : ByteArray), (⟨#[114, 97, 110, 103, 101]⟩ : ByteArray), (⟨#[110, 116, 104]⟩ : ByteArray), (⟨#[119, 104, 101, 114, 101]⟩ : ByteArray), (⟨#[107, 101, 101, 112]⟩ : ByteArray), (⟨#[97, 100, 100]⟩ : ByteArray), (⟨#[103, 114, 111, 117, 112]⟩ : ByteArray), (⟨#[106, 111, 105, 110]⟩ : ByteArray), (⟨#[99, 111, 108, 117, 109, 110]⟩ : ByteArray), (⟨#[114, 111, 119, 115]⟩ : ByteArray), (⟨#[99, 108, 111, 99, 107]⟩ : ByteArray), (⟨#[99, 104, 97, 110, 99, 101]⟩ : ByteArray), (⟨#[102, 105, 108, 101]⟩ : ByteArray), (⟨#[116, 97, 98, 108, 101]⟩ : ByteArray)]
def s_l1Has_u1 (a0 : List ByteArray) (a1 : ByteArray) : Nat → Int → Option (Unit ⊕ Bool)
  | 0, _ => none
  | n_ + 1, x1 =>
    if (decide (x1 < (a0.length : Int))) then
      (at? a0 x1).bind fun x2 =>
      if (decide (x2 = a1)) then
        some (.inr true)
      else
        s_l1Has_u1 a0 a1 n_ (IntKind.i64.wrap (x1 + 1))
    else
      some (.inl ())
def s_l1Has (k : Nat) (a0 : List ByteArray) (a1 : ByteArray) : Option Bool :=
  (s_l1Has_u1 a0 a1 k 0 : Option (Unit ⊕ Bool)).bind fun
    | .inl _ => (
      some false)
    | .inr z3 => (
      some z3)
def s_IsReserved (k : Nat) (a0 : ByteArray) : Option Bool :=
  (s_l2Reserved).bind fun x1 =>
  (s_l1Has k x1 a0).bind fun x2 =>
  some x2
def s_IsValidName (k : Nat) (a0 : ByteArray) : Option Bool :=
  ((s_l2Shape k a0).bind fun x2 =>
  if x2 then
    if (decide ((a0.size : Int) ≤ 8)) then
      (s_IsReserved k a0).bind fun x3 =>
      some (!x3)
    else
      some false
  else
    some false).bind fun x1 =>
  some x1
def s_IsValidCell (k : Nat) (a0 : TCell) : Option Bool :=
  ((s_l1In a0.id 1 999).bind fun x2 =>
  if (!x2) then
    some true
  else
    (s_l1In a0.version 1 999).bind fun x3 =>
    if (!x3) then
      some true
    else
      (s_IsPrintable k a0.code).bind fun x4 =>
      some (!x4)).bind fun x1 =>
  if x1 then
    some false
  else
    if (decide (a0.kind = 1)) then
      (if (decide (a0.name = (⟨#[]⟩ : ByteArray))) then
        some (decide (a0.n = 0))
      else
        some false).bind fun x5 =>
      some x5
    else
      (if (decide (a0.kind = 2)) then
        some true
      else
        some (decide (a0.kind = 4))).bind fun x6 =>
      if x6 then
        ((s_IsValidName k a0.name).bind fun x8 =>
        if x8 then
          some (decide (a0.n = 0))
        else
          some false).bind fun x7 =>
        some x7
      else
        if (decide (a0.kind = 3)) then
          ((s_IsValidName k a0.name).bind fun x10 =>
          if x10 then
            if (decide (a0.code = (⟨#[]⟩ : ByteArray))) then
              (s_l1In a0.n 0 100).bind fun x11 =>
              some x11
            else
              some false
          else
            some false).bind fun x9 =>
          some x9
        else
          some false
def s_CellIndex_u1 (a0 : TNotebook) (a1 : Int) : Nat → Int → Option (Unit ⊕ Int)
  | 0, _ => none
  | n_ + 1, x1 =>
    if (decide (x1 < (a0.cells.length : Int))) then
      (at? a0.cells x1).bind fun x2 =>
      if (decide (x2.id = a1)) then
        some (.inr x1)
      else
        s_CellIndex_u1 a0 a1 n_ (IntKind.i64.wrap (x1 + 1))
    else
      some (.inl ())
def s_CellIndex (k : Nat) (a0 : TNotebook) (a1 : Int) : Option Int :=
  (s_CellIndex_u1 a0 a1 k 0 : Option (Unit ⊕ Int)).bind fun
    | .inl _ => (
      some (-1))
    | .inr z3 => (
      some z3)
def s_IsValidNotebook_u1 (k : Nat) (a0 : TNotebook) : Nat → Int → Option (Unit ⊕ Bool)
  | 0, _ => none
  | n_ + 1, x1 =>
    if (decide (x1 < (a0.cells.length : Int))) then
      ((at? a0.cells x1).bind fun x3 =>
      (s_IsValidCell k x3).bind fun x4 =>
      if (!x4) then
        some true
      else
        (s_CellIndex k a0 x3.id).bind fun x5 =>
        some (!decide (x5 = x1))).bind fun x2 =>
      if x2 then
        some (.inr false)
      else
        s_IsValidNotebook_u1 k a0 n_ (IntKind.i64.wrap (x1 + 1))
    else
      some (.inl ())
def s_IsValidNotebook (k : Nat) (a0 : TNotebook) : Option Bool :=
  (s_IsValidNotebook_u1 k a0 k 0 : Option (Unit ⊕ Bool)).bind fun
    | .inl _ => (
      some (decide ((a0.cells.length : Int) ≤ 8)))
    | .inr z6 => (
      some z6)
def s_l1Min (a0 : Int) (a1 : Int) : Option Int :=
  if (decide (a0 < a1)) then
    some a0
  else
    some a1
def s_l1Max (a0 : Int) (a1 : Int) : Option Int :=
  if (decide (a1 < a0)) then
    some a0
  else
    some a1
def s_l20Put (a0 : List TCell) (a1 : Int) (a2 : TCell) : Option (List TCell) :=
  (s_l1Min a1 (a0.length : Int)).bind fun x1 =>
  (s_l1Max 0 x1).bind fun x2 =>
  (sub? a0 0 x2).bind fun x3 =>
  (app? 64 ([] : List TCell) x3).bind fun x4 =>
  (app? 64 x4 [a2]).bind fun x5 =>
  (sub? a0 x2 (a0.length : Int)).bind fun x6 =>
  (app? 64 x5 x6).bind fun x7 =>
  some x7
end Go.Proofs.YtbknilpmpjjfpaaGreat
