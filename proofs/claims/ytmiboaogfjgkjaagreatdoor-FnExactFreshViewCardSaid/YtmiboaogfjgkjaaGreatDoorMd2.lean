/- Functions that mirror the program's own, one each. Written by a program of mine. -/
import Derived.Test.YtmiboaogfjgkjaaGreatDoorSx
import Derived.Test.YtmiboaogfjgkjaaGreatDoorMd0
import Derived.Test.YtmiboaogfjgkjaaGreatDoorMd1
set_option linter.unusedSimpArgs false
set_option linter.unusedVariables false
namespace Go.Proofs.YtmiboaogfjgkjaaGreatDoor
open Go.RowKit Am
def s_FormatValue (k : Nat) (a0 : TValue) : Option ByteArray :=
  (s_IsValidValue k a0).bind fun x1 =>
  if (!x1) then
    some (⟨#[]⟩ : ByteArray)
  else
    (s_l4Text k a0).bind fun x2 =>
    some x2
def s_CellLine (k : Nat) (a0 : TCell) (a1 : TValue) (a2 : Bool) : Option TLine :=
  if (decide (a0.kind = 1)) then
    some (TLine.mk a0.id true a0.code)
  else
    if (!a2) then
      (cat? a0.name (⟨#[32, 61, 32, 46, 46, 46]⟩ : ByteArray)).bind fun x1 =>
      some (TLine.mk a0.id false x1)
    else
      (cat? a0.name (⟨#[32, 61, 32]⟩ : ByteArray)).bind fun x2 =>
      (s_FormatValue k a1).bind fun x3 =>
      (cat? x2 x3).bind fun x4 =>
      some (TLine.mk a0.id true x4)
def s_FreshView_u1 (k : Nat) (a0 : TNotebook) (a1 : TRun) : Nat → (List TLine) → Int → Option (List TLine)
  | 0, _, _ => none
  | n_ + 1, x4, x5 =>
    if (decide (x5 < (a0.cells.length : Int))) then
      (at? a0.cells x5).bind fun x6 =>
      (at? a1.values x5).bind fun x7 =>
      (s_CellLine k x6 x7 true).bind fun x8 =>
      (app? 32 x4 [x8]).bind fun x9 =>
      s_FreshView_u1 k a0 a1 n_ x9 (IntKind.i64.wrap (x5 + 1))
    else
      some x4
def s_FreshView (k : Nat) (a0 : TNotebook) (a1 : TRun) : Option (List TLine) :=
  ((s_IsValidNotebook k a0).bind fun x2 =>
  if (!x2) then
    some true
  else
    some (!decide ((a0.cells.length : Int) = (a1.values.length : Int)))).bind fun x1 =>
  if x1 then
    some ([] : List TLine)
  else
    (s_FreshView_u1 k a0 a1 k ([] : List TLine) 0).bind fun x3 =>
    some x3
def i_within (a0 : Int) (a1 : Int) (a2 : Int) : Option Bool :=
  (if (decide (a1 ≤ a0)) then
    some (decide (a0 ≤ a2))
  else
    some false).bind fun x1 =>
  some x1
def i_IsPrintable_u1 (a0 : ByteArray) : Nat → Int → Option (Unit ⊕ Bool)
  | 0, _ => none
  | n_ + 1, x1 =>
    if (decide (x1 < (a0.size : Int))) then
      ((at? a0.data.toList x1).bind fun x3 =>
      if (decide ((x3.toNat : Int) < 32)) then
        some true
      else
        some (decide (126 < (x3.toNat : Int)))).bind fun x2 =>
      if x2 then
        some (.inr false)
      else
        i_IsPrintable_u1 a0 n_ (IntKind.i64.wrap (x1 + 1))
    else
      some (.inl ())
def i_IsPrintable (k : Nat) (a0 : ByteArray) : Option Bool :=
  (i_IsPrintable_u1 a0 k 0 : Option (Unit ⊕ Bool)).bind fun
    | .inl _ => (
      some (decide ((a0.size : Int) ≤ 120)))
    | .inr z4 => (
      some z4)
def i_isWord_u1 (a0 : ByteArray) : Nat → Int → Option (Unit ⊕ Bool)
  | 0, _ => none
  | n_ + 1, x1 =>
    if (decide (x1 < (a0.size : Int))) then
      ((at? a0.data.toList x1).bind fun x3 =>
      if (decide (97 ≤ (x3.toNat : Int))) then
        some (decide ((x3.toNat : Int) ≤ 122))
      else
        some false).bind fun x2 =>
      (if (!x2) then
        if (decide (x1 = 0)) then
          some true
        else
          (at? a0.data.toList x1).bind fun x5 =>
          if (decide ((x5.toNat : Int) < 48)) then
            some true
          else
            some (decide (57 < (x5.toNat : Int)))
      else
        some false).bind fun x4 =>
      if x4 then
        some (.inr false)
      else
        i_isWord_u1 a0 n_ (IntKind.i64.wrap (x1 + 1))
    else
      some (.inl ())
def i_isWord (k : Nat) (a0 : ByteArray) : Option Bool :=
  (i_isWord_u1 a0 k 0 : Option (Unit ⊕ Bool)).bind fun
    | .inl _ => (
      (i_within (a0.size : Int) 1 8).bind fun x6 =>
      some x6)
    | .inr z7 => (
      some z7)
def i_ArgumentCount (a0 : ByteArray) : Option Int :=
  if (decide (a0 = (⟨#[99, 108, 111, 99, 107]⟩ : ByteArray))) then
    some 0
  else
    (if (decide (a0 = (⟨#[108, 101, 110]⟩ : ByteArray))) then
      some true
    else
      if (decide (a0 = (⟨#[115, 117, 109]⟩ : ByteArray))) then
        some true
      else
        if (decide (a0 = (⟨#[114, 111, 119, 115]⟩ : ByteArray))) then
          some true
        else
          if (decide (a0 = (⟨#[99, 104, 97, 110, 99, 101]⟩ : ByteArray))) then
            some true
          else
            some (decide (a0 = (⟨#[102, 105, 108, 101]⟩ : ByteArray)))).bind fun x1 =>
    if x1 then
      some 1
    else
      (if (decide (a0 = (⟨#[116, 97, 107, 101]⟩ : ByteArray))) then
        some true
      else
        if (decide (a0 = (⟨#[115, 107, 105, 112]⟩ : ByteArray))) then
          some true
        else
          if (decide (a0 = (⟨#[114, 97, 110, 103, 101]⟩ : ByteArray))) then
            some true
          else
            if (decide (a0 = (⟨#[110, 116, 104]⟩ : ByteArray))) then
              some true
            else
              if (decide (a0 = (⟨#[107, 101, 101, 112]⟩ : ByteArray))) then
                some true
              else
                if (decide (a0 = (⟨#[99, 111, 108, 117, 109, 110]⟩ : ByteArray))) then
                  some true
                else
                  some (decide (a0 = (⟨#[116, 97, 98, 108, 101]⟩ : ByteArray)))).bind fun x2 =>
      if x2 then
        some 2
      else
        (if (decide (a0 = (⟨#[119, 104, 101, 114, 101]⟩ : ByteArray))) then
          some true
        else
          if (decide (a0 = (⟨#[103, 114, 111, 117, 112]⟩ : ByteArray))) then
            some true
          else
            some (decide (a0 = (⟨#[106, 111, 105, 110]⟩ : ByteArray)))).bind fun x3 =>
        if x3 then
          some 3
        else
          if (decide (a0 = (⟨#[97, 100, 100]⟩ : ByteArray))) then
            some 4
          else
            some (-1)
def i_IsReserved (a0 : ByteArray) : Option Bool :=
  (if (decide (a0 = (⟨#[108, 101, 116]⟩ : ByteArray))) then
    some true
  else
    if (decide (a0 = (⟨#[105, 110]⟩ : ByteArray))) then
      some true
    else
      if (decide (a0 = (⟨#[105, 102]⟩ : ByteArray))) then
        some true
      else
        if (decide (a0 = (⟨#[116, 104, 101, 110]⟩ : ByteArray))) then
          some true
        else
          if (decide (a0 = (⟨#[101, 108, 115, 101]⟩ : ByteArray))) then
            some true
          else
            if (decide (a0 = (⟨#[102, 111, 114]⟩ : ByteArray))) then
              some true
            else
              some (decide (a0 = (⟨#[100, 111]⟩ : ByteArray)))).bind fun x1 =>
  if x1 then
    some true
  else
    (i_ArgumentCount a0).bind fun x2 =>
    some (decide (0 ≤ x2))
def i_IsValidName (k : Nat) (a0 : ByteArray) : Option Bool :=
  ((i_isWord k a0).bind fun x2 =>
  if x2 then
    (i_IsReserved a0).bind fun x3 =>
    some (!x3)
  else
    some false).bind fun x1 =>
  some x1
def i_IsValidCell (k : Nat) (a0 : TCell) : Option Bool :=
  ((i_within a0.id 1 999).bind fun x2 =>
  if (!x2) then
    some true
  else
    (i_within a0.version 1 999).bind fun x3 =>
    if (!x3) then
      some true
    else
      (i_IsPrintable k a0.code).bind fun x4 =>
      some (!x4)).bind fun x1 =>
  if x1 then
    some false
  else
    if (decide (a0.kind = 1)) then
      (if (decide (a0.name = (⟨#[]⟩ : ByteArray))) then
        some (decide (a0.n = 0))
      else
        some false).bind fun x5 =>
      some x5
    else
      (if (decide (a0.kind = 2)) then
        some true
      else
        some (decide (a0.kind = 4))).bind fun x6 =>
      if x6 then
        ((i_IsValidName k a0.name).bind fun x8 =>
        if x8 then
          some (decide (a0.n = 0))
        else
          some false).bind fun x7 =>
        some x7
      else
        if (decide (a0.kind = 3)) then
          ((i_IsValidName k a0.name).bind fun x10 =>
          if x10 then
            if (decide (a0.code = (⟨#[]⟩ : ByteArray))) then
              (i_within a0.n 0 100).bind fun x11 =>
              some x11
            else
              some false
          else
            some false).bind fun x9 =>
          some x9
        else
          some false
def i_CellIndex_u1 (a0 : TNotebook) (a1 : Int) : Nat → Int → Option (Unit ⊕ Int)
  | 0, _ => none
  | n_ + 1, x1 =>
    if (decide (x1 < (a0.cells.length : Int))) then
      (at? a0.cells x1).bind fun x2 =>
      if (decide (x2.id = a1)) then
        some (.inr x1)
      else
        i_CellIndex_u1 a0 a1 n_ (IntKind.i64.wrap (x1 + 1))
    else
      some (.inl ())
def i_CellIndex (k : Nat) (a0 : TNotebook) (a1 : Int) : Option Int :=
  (i_CellIndex_u1 a0 a1 k 0 : Option (Unit ⊕ Int)).bind fun
    | .inl _ => (
      some (-1))
    | .inr z3 => (
      some z3)
def i_IsValidNotebook_u1 (k : Nat) (a0 : TNotebook) : Nat → Int → Option (Unit ⊕ Bool)
  | 0, _ => none
  | n_ + 1, x1 =>
    if (decide (x1 < (a0.cells.length : Int))) then
      (at? a0.cells x1).bind fun x2 =>
      ((i_IsValidCell k x2).bind fun x4 =>
      if (!x4) then
        some true
      else
        (i_CellIndex k a0 x2.id).bind fun x5 =>
        some (!decide (x5 = x1))).bind fun x3 =>
      if x3 then
        some (.inr false)
      else
        i_IsValidNotebook_u1 k a0 n_ (IntKind.i64.wrap (x1 + 1))
    else
      some (.inl ())
def i_IsValidNotebook (k : Nat) (a0 : TNotebook) : Option Bool :=
  (i_IsValidNotebook_u1 k a0 k 0 : Option (Unit ⊕ Bool)).bind fun
    | .inl _ => (
      some (decide ((a0.cells.length : Int) ≤ 8)))
    | .inr z6 => (
      some z6)
def i_isNumber (a0 : Int) : Option Bool :=
  (i_within a0 (-1000000000) 1000000000).bind fun x1 =>
  some x1
def i_IsValidText_u1 (a0 : ByteArray) : Nat → Int → Option (Unit ⊕ Bool)
  | 0, _ => none
  | n_ + 1, x1 =>
    if (decide (x1 < (a0.size : Int))) then
      ((at? a0.data.toList x1).bind fun x3 =>
      if (decide ((x3.toNat : Int) < 32)) then
        some true
      else
        if (decide (126 < (x3.toNat : Int))) then
          some true
        else
          some (decide ((x3.toNat : Int) = 34))).bind fun x2 =>
      if x2 then
        some (.inr false)
      else
        i_IsValidText_u1 a0 n_ (IntKind.i64.wrap (x1 + 1))
    else
      some (.inl ())
def i_IsValidText (k : Nat) (a0 : ByteArray) : Option Bool :=
  (i_IsValidText_u1 a0 k 0 : Option (Unit ⊕ Bool)).bind fun
    | .inl _ => (
      some (decide ((a0.size : Int) ≤ 20)))
    | .inr z4 => (
      some z4)
end Go.Proofs.YtmiboaogfjgkjaaGreatDoor
