/- Functions that mirror the program's own, one each. Written by a program of mine. -/
import Derived.Test.YtmiboaogfjgkjaaGreatDoorSx
import Derived.Test.YtmiboaogfjgkjaaGreatDoorMd0
set_option linter.unusedSimpArgs false
set_option linter.unusedVariables false
namespace Go.Proofs.YtmiboaogfjgkjaaGreatDoor
open Go.RowKit Am
def s_DepthOf_u1 (rec_s_DepthOf : TValue → Option Int) (a0 : TValue) : Nat → Int → Int → Option Int
  | 0, _, _ => none
  | n_ + 1, x2, x3 =>
    if (decide (x3 < (a0.list.length : Int))) then
      (at? a0.list x3).bind fun x4 =>
      (rec_s_DepthOf x4).bind fun x5 =>
      (s_l1Max x2 x5).bind fun x6 =>
      s_DepthOf_u1 rec_s_DepthOf a0 n_ x6 (IntKind.i64.wrap (x3 + 1))
    else
      some x2
def s_DepthOf : Nat → TValue → Option Int
  | 0, _ => none
  | k + 1, a0 =>
    (s_DepthOf_u1 (s_DepthOf k) a0 k 0 0).bind fun x1 =>
    some (IntKind.i64.wrap (x1 + 1))
def s_AllDistinct_u1 (k : Nat) (a0 : List ByteArray) : Nat → Int → Option (Unit ⊕ Bool)
  | 0, _ => none
  | n_ + 1, x1 =>
    if (decide (x1 < (a0.length : Int))) then
      (sub? a0 0 x1).bind fun x2 =>
      (at? a0 x1).bind fun x3 =>
      (s_l1Has k x2 x3).bind fun x4 =>
      if x4 then
        some (.inr false)
      else
        s_AllDistinct_u1 k a0 n_ (IntKind.i64.wrap (x1 + 1))
    else
      some (.inl ())
def s_AllDistinct (k : Nat) (a0 : List ByteArray) : Option Bool :=
  (s_AllDistinct_u1 k a0 k 0 : Option (Unit ⊕ Bool)).bind fun
    | .inl _ => (
      some true)
    | .inr z5 => (
      some z5)
def s_l3Columns_u1 (k : Nat) (a0 : List ByteArray) : Nat → Int → Option (Unit ⊕ Bool)
  | 0, _ => none
  | n_ + 1, x1 =>
    if (decide (x1 < (a0.length : Int))) then
      (at? a0 x1).bind fun x2 =>
      (s_IsValidName k x2).bind fun x3 =>
      if (!x3) then
        some (.inr false)
      else
        s_l3Columns_u1 k a0 n_ (IntKind.i64.wrap (x1 + 1))
    else
      some (.inl ())
def s_l3Columns (k : Nat) (a0 : List ByteArray) : Option Bool :=
  (s_l3Columns_u1 k a0 k 0 : Option (Unit ⊕ Bool)).bind fun
    | .inl _ => (
      ((s_l1In (a0.length : Int) 1 4).bind fun x5 =>
      if x5 then
        (s_AllDistinct k a0).bind fun x6 =>
        some x6
      else
        some false).bind fun x4 =>
      some x4)
    | .inr z7 => (
      some z7)
def s_l3Before (a0 : TOrigin) (a1 : TOrigin) : Option Bool :=
  (if (decide (a0.cell < a1.cell)) then
    some true
  else
    if (decide (a0.cell = a1.cell)) then
      some (decide (a0.row < a1.row))
    else
      some false).bind fun x1 =>
  some x1
def s_l3Ascending_u1 (a0 : List TOrigin) : Nat → Int → Option (Unit ⊕ Bool)
  | 0, _ => none
  | n_ + 1, x1 =>
    if (decide (x1 < (a0.length : Int))) then
      ((at? a0 x1).bind fun x3 =>
      if (decide (x3.cell < 0)) then
        some true
      else
        if (decide (x3.row < 0)) then
          some true
        else
          if (decide (0 < x1)) then
            (at? a0 (IntKind.i64.wrap (x1 - 1))).bind fun x4 =>
            (s_l3Before x4 x3).bind fun x5 =>
            some (!x5)
          else
            some false).bind fun x2 =>
      if x2 then
        some (.inr false)
      else
        s_l3Ascending_u1 a0 n_ (IntKind.i64.wrap (x1 + 1))
    else
      some (.inl ())
def s_l3Ascending (k : Nat) (a0 : List TOrigin) : Option Bool :=
  (s_l3Ascending_u1 a0 k 0 : Option (Unit ⊕ Bool)).bind fun
    | .inl _ => (
      some true)
    | .inr z6 => (
      some z6)
def s_l3Table_u2 (x4 : TRow) : Nat → Int → Option (Unit ⊕ Bool)
  | 0, _ => none
  | n_ + 1, x7 =>
    if (decide (x7 < (x4.cells.length : Int))) then
      (at? x4.cells x7).bind fun x8 =>
      (s_l3Number x8).bind fun x9 =>
      if (!x9) then
        some (.inr false)
      else
        s_l3Table_u2 x4 n_ (IntKind.i64.wrap (x7 + 1))
    else
      some (.inl ())
def s_l3Table_u1 (k : Nat) (a0 : TValue) : Nat → Int → Option (Unit ⊕ Bool)
  | 0, _ => none
  | n_ + 1, x3 =>
    if (decide (x3 < (a0.rows.length : Int))) then
      ((at? a0.rows x3).bind fun x4 =>
      (if (!decide ((x4.cells.length : Int) = (a0.columns.length : Int))) then
        some true
      else
        (s_l3Ascending k x4.from_).bind fun x6 =>
        some (!x6)).bind fun x5 =>
      if x5 then
        some (.inr false)
      else
        s_l3Table_u2 x4 k 0 : Option (Unit ⊕ Bool)).bind fun
        | .inl _ => (
          s_l3Table_u1 k a0 n_ (IntKind.i64.wrap (x3 + 1)))
        | .inr z10 => (
          some (.inr z10))
    else
      some (.inl ())
def s_l3Table (k : Nat) (a0 : TValue) : Option Bool :=
  ((s_l3Columns k a0.columns).bind fun x2 =>
  if (!x2) then
    some true
  else
    some (decide (12 < (a0.rows.length : Int)))).bind fun x1 =>
  if x1 then
    some false
  else
    (s_l3Table_u1 k a0 k 0 : Option (Unit ⊕ Bool)).bind fun
      | .inl _ => (
        some true)
      | .inr z11 => (
        some z11)
def s_l3List_u1 (rec_s_IsValidValue : TValue → Option Bool) (a0 : TValue) : Nat → Int → Option (Unit ⊕ Bool)
  | 0, _ => none
  | n_ + 1, x1 =>
    if (decide (x1 < (a0.list.length : Int))) then
      ((at? a0.list x1).bind fun x3 =>
      (s_l3Element x3).bind fun x4 =>
      if (!x4) then
        some true
      else
        (rec_s_IsValidValue x3).bind fun x5 =>
        some (!x5)).bind fun x2 =>
      if x2 then
        some (.inr false)
      else
        s_l3List_u1 rec_s_IsValidValue a0 n_ (IntKind.i64.wrap (x1 + 1))
    else
      some (.inl ())
mutual
def s_l3List : Nat → TValue → Option Bool
  | 0, _ => none
  | k + 1, a0 =>
    (s_l3List_u1 (s_IsValidValue k) a0 k 0 : Option (Unit ⊕ Bool)).bind fun
      | .inl _ => (
        (if (decide ((a0.list.length : Int) ≤ 8)) then
          (s_DepthOf k a0).bind fun x7 =>
          some (decide (x7 ≤ 3))
        else
          some false).bind fun x6 =>
        some x6)
      | .inr z8 => (
        some z8)
def s_IsValidValue : Nat → TValue → Option Bool
  | 0, _ => none
  | k + 1, a0 =>
    (if (!decide (a0.kind = 3)) then
      if (decide (0 < (a0.list.length : Int))) then
        some true
      else
        if (!decide (a0.kind = 5)) then
          some (decide (0 < (IntKind.i64.wrap ((a0.columns.length : Int) + (a0.rows.length : Int)))))
        else
          some false
    else
      some (decide (0 < (IntKind.i64.wrap ((a0.columns.length : Int) + (a0.rows.length : Int)))))).bind fun x1 =>
    if x1 then
      some false
    else
      (if (!decide (a0.kind = 2)) then
        if (!decide (a0.text = (⟨#[]⟩ : ByteArray))) then
          some true
        else
          if (!decide (a0.kind = 4)) then
            some (!decide (a0.step = 0))
          else
            some false
      else
        some (!decide (a0.step = 0))).bind fun x2 =>
      if x2 then
        some false
      else
        if (decide (a0.kind = 1)) then
          (s_l3Number a0.n).bind fun x3 =>
          some x3
        else
          if (decide (a0.kind = 2)) then
            (if (decide (a0.n = 0)) then
              (s_IsValidText k a0.text).bind fun x5 =>
              some x5
            else
              some false).bind fun x4 =>
            some x4
          else
            if (decide (a0.kind = 3)) then
              (if (decide (a0.n = 0)) then
                (s_l3List k a0).bind fun x7 =>
                some x7
              else
                some false).bind fun x6 =>
              some x6
            else
              if (decide (a0.kind = 4)) then
                ((s_l3Number a0.n).bind fun x9 =>
                if x9 then
                  (s_l3Number a0.step).bind fun x10 =>
                  some x10
                else
                  some false).bind fun x8 =>
                some x8
              else
                if (decide (a0.kind = 5)) then
                  (if (decide (a0.n = 0)) then
                    (s_l3Table k a0).bind fun x12 =>
                    some x12
                  else
                    some false).bind fun x11 =>
                  some x11
                else
                  if (decide (a0.kind = 6)) then
                    (s_l1In a0.n 1 8).bind fun x13 =>
                    some x13
                  else
                    some false
end
def s_FormatInt_u1 : Nat → Int → ByteArray → Option ByteArray
  | 0, _, _ => none
  | n_ + 1, x2, x3 =>
    if (!decide (x2 = 0)) then
      (if (decide ((IntKind.i64.wrap (x2.tmod 10)) < 0)) then
        some (IntKind.i64.wrap (0 - (IntKind.i64.wrap (x2.tmod 10))))
      else
        some (IntKind.i64.wrap (x2.tmod 10))).bind fun x4 =>
      (cat? (bStr [(IntKind.u8.wrap (IntKind.i64.wrap (48 + x4)))]) x3).bind fun x5 =>
      s_FormatInt_u1 n_ (IntKind.i64.wrap (x2.tdiv 10)) x5
    else
      some x3
def s_FormatInt (k : Nat) (a0 : Int) : Option ByteArray :=
  if (decide (a0 = 0)) then
    some (⟨#[48]⟩ : ByteArray)
  else
    (s_FormatInt_u1 k a0 (⟨#[]⟩ : ByteArray)).bind fun x1 =>
    if (decide (a0 < 0)) then
      (cat? (⟨#[45]⟩ : ByteArray) x1).bind fun x6 =>
      some x6
    else
      some x1
def s_Join_u1 (a0 : List ByteArray) (a1 : ByteArray) : Nat → (List Int) → Int → Option (List Int)
  | 0, _, _ => none
  | n_ + 1, x2, x3 =>
    if (decide (x3 < (a0.length : Int))) then
      (if (decide (0 < x3)) then
        (app? 1 x2 (sBytes a1)).bind fun x5 =>
        some x5
      else
        some x2).bind fun x4 =>
      (at? a0 x3).bind fun x6 =>
      (app? 1 x4 (sBytes x6)).bind fun x7 =>
      s_Join_u1 a0 a1 n_ x7 (IntKind.i64.wrap (x3 + 1))
    else
      some x2
def s_Join (k : Nat) (a0 : List ByteArray) (a1 : ByteArray) : Option ByteArray :=
  (s_Join_u1 a0 a1 k ([] : List Int) 0).bind fun x1 =>
  some (bStr x1)
def s_l4Rows_u2 (k : Nat) (a0 : List TRow) (x3 : Int) : Nat → (List ByteArray) → Int → Option (List ByteArray)
  | 0, _, _ => none
  | n_ + 1, x5, x6 =>
    (at? a0 x3).bind fun x7 =>
    if (decide (x6 < (x7.cells.length : Int))) then
      (at? x7.cells x6).bind fun x8 =>
      (s_FormatInt k x8).bind fun x9 =>
      (app? 16 x5 [x9]).bind fun x10 =>
      s_l4Rows_u2 k a0 x3 n_ x10 (IntKind.i64.wrap (x6 + 1))
    else
      some x5
def s_l4Rows_u1 (k : Nat) (a0 : List TRow) : Nat → (List ByteArray) → Int → Option (List ByteArray)
  | 0, _, _ => none
  | n_ + 1, x2, x3 =>
    if (decide (x3 < (a0.length : Int))) then
      (s_l4Rows_u2 k a0 x3 k ([] : List ByteArray) 0).bind fun x4 =>
      (s_Join k x4 (⟨#[44, 32]⟩ : ByteArray)).bind fun x11 =>
      (cat? (⟨#[91]⟩ : ByteArray) x11).bind fun x12 =>
      (cat? x12 (⟨#[93]⟩ : ByteArray)).bind fun x13 =>
      (app? 16 x2 [x13]).bind fun x14 =>
      s_l4Rows_u1 k a0 n_ x14 (IntKind.i64.wrap (x3 + 1))
    else
      some x2
def s_l4Rows (k : Nat) (a0 : List TRow) : Option ByteArray :=
  (s_l4Rows_u1 k a0 k ([] : List ByteArray) 0).bind fun x1 =>
  (s_Join k x1 (⟨#[44, 32]⟩ : ByteArray)).bind fun x15 =>
  (cat? (⟨#[91]⟩ : ByteArray) x15).bind fun x16 =>
  (cat? x16 (⟨#[93]⟩ : ByteArray)).bind fun x17 =>
  some x17
def s_l4Errors : Option (List ByteArray) :=
  some [(⟨#[]⟩ : ByteArray), (⟨#[109, 105, 115, 115, 105, 110, 103]⟩ : ByteArray), (⟨#[100, 117, 112, 108, 105, 99, 97, 116, 101]⟩ : ByteArray), (⟨#[99, 121, 99, 108, 101]⟩ : ByteArray), (⟨#[116, 121, 112, 101]⟩ : ByteArray), (⟨#[114, 97, 110, 103, 101]⟩ : ByteArray), (⟨#[108, 105, 109, 105, 116]⟩ : ByteArray), (⟨#[99, 111, 108, 117, 109, 110]⟩ : ByteArray), (⟨#[115, 121, 110, 116, 97, 120]⟩ : ByteArray)]
def s_ErrorName (a0 : Int) : Option ByteArray :=
  (s_l1In a0 1 8).bind fun x1 =>
  if (!x1) then
    some (⟨#[63]⟩ : ByteArray)
  else
    (s_l4Errors).bind fun x2 =>
    (at? x2 a0).bind fun x3 =>
    some x3
def s_l4Text_u1 (rec_s_l4Text : TValue → Option ByteArray) (a0 : TValue) : Nat → (List ByteArray) → Int → Option (List ByteArray)
  | 0, _, _ => none
  | n_ + 1, x19, x20 =>
    if (decide (x20 < (a0.list.length : Int))) then
      (at? a0.list x20).bind fun x21 =>
      (rec_s_l4Text x21).bind fun x22 =>
      (app? 16 x19 [x22]).bind fun x23 =>
      s_l4Text_u1 rec_s_l4Text a0 n_ x23 (IntKind.i64.wrap (x20 + 1))
    else
      some x19
def s_l4Text : Nat → TValue → Option ByteArray
  | 0, _ => none
  | k + 1, a0 =>
    if (decide (a0.kind = 1)) then
      (s_FormatInt k a0.n).bind fun x1 =>
      some x1
    else
      if (decide (a0.kind = 2)) then
        (cat? (⟨#[34]⟩ : ByteArray) a0.text).bind fun x2 =>
        (cat? x2 (⟨#[34]⟩ : ByteArray)).bind fun x3 =>
        some x3
      else
        if (decide (a0.kind = 4)) then
          (s_FormatInt k a0.n).bind fun x4 =>
          (cat? (⟨#[114, 97, 110, 103, 101, 40]⟩ : ByteArray) x4).bind fun x5 =>
          (cat? x5 (⟨#[44, 32]⟩ : ByteArray)).bind fun x6 =>
          (s_FormatInt k a0.step).bind fun x7 =>
          (cat? x6 x7).bind fun x8 =>
          (cat? x8 (⟨#[41]⟩ : ByteArray)).bind fun x9 =>
          some x9
        else
          if (decide (a0.kind = 5)) then
            (s_Join k a0.columns (⟨#[32]⟩ : ByteArray)).bind fun x10 =>
            (cat? (⟨#[116, 97, 98, 108, 101, 40, 34]⟩ : ByteArray) x10).bind fun x11 =>
            (cat? x11 (⟨#[34, 44, 32]⟩ : ByteArray)).bind fun x12 =>
            (s_l4Rows k a0.rows).bind fun x13 =>
            (cat? x12 x13).bind fun x14 =>
            (cat? x14 (⟨#[41]⟩ : ByteArray)).bind fun x15 =>
            some x15
          else
            if (decide (a0.kind = 6)) then
              (s_ErrorName a0.n).bind fun x16 =>
              (cat? (⟨#[101, 114, 114, 111, 114, 32]⟩ : ByteArray) x16).bind fun x17 =>
              some x17
            else
              (s_l4Text_u1 (s_l4Text k) a0 k ([] : List ByteArray) 0).bind fun x18 =>
              (s_Join k x18 (⟨#[44, 32]⟩ : ByteArray)).bind fun x24 =>
              (cat? (⟨#[91]⟩ : ByteArray) x24).bind fun x25 =>
              (cat? x25 (⟨#[93]⟩ : ByteArray)).bind fun x26 =>
              some x26
end Go.Proofs.YtmiboaogfjgkjaaGreatDoor
