/- Functions that mirror the program's own, one each. Written by a program of mine. -/
import Derived.Test.YtmiboaogfjgkjaaGreatDoorSx
import Derived.Test.YtmiboaogfjgkjaaGreatDoorLm
import Derived.Test.YtmiboaogfjgkjaaGreatDoorMd2
set_option linter.unusedSimpArgs false
set_option linter.unusedVariables false
namespace Go.Proofs.YtmiboaogfjgkjaaGreatDoor
open Go.RowKit Am
def i_IndexOf_u1 (a0 : List ByteArray) (a1 : ByteArray) : Nat → Int → Option (Unit ⊕ Int)
  | 0, _ => none
  | n_ + 1, x1 =>
    if (decide (x1 < (a0.length : Int))) then
      (at? a0 x1).bind fun x2 =>
      if (decide (x2 = a1)) then
        some (.inr x1)
      else
        i_IndexOf_u1 a0 a1 n_ (IntKind.i64.wrap (x1 + 1))
    else
      some (.inl ())
def i_IndexOf (k : Nat) (a0 : List ByteArray) (a1 : ByteArray) : Option Int :=
  (i_IndexOf_u1 a0 a1 k 0 : Option (Unit ⊕ Int)).bind fun
    | .inl _ => (
      some (-1))
    | .inr z3 => (
      some z3)
def i_AllDistinct_u1 (k : Nat) (a0 : List ByteArray) : Nat → Int → Option (Unit ⊕ Bool)
  | 0, _ => none
  | n_ + 1, x1 =>
    if (decide (x1 < (a0.length : Int))) then
      (at? a0 x1).bind fun x2 =>
      (i_IndexOf k a0 x2).bind fun x3 =>
      if (!decide (x3 = x1)) then
        some (.inr false)
      else
        i_AllDistinct_u1 k a0 n_ (IntKind.i64.wrap (x1 + 1))
    else
      some (.inl ())
def i_AllDistinct (k : Nat) (a0 : List ByteArray) : Option Bool :=
  (i_AllDistinct_u1 k a0 k 0 : Option (Unit ⊕ Bool)).bind fun
    | .inl _ => (
      some true)
    | .inr z4 => (
      some z4)
def i_areColumns_u1 (k : Nat) (a0 : List ByteArray) : Nat → Int → Option (Unit ⊕ Bool)
  | 0, _ => none
  | n_ + 1, x1 =>
    if (decide (x1 < (a0.length : Int))) then
      (at? a0 x1).bind fun x2 =>
      (i_IsValidName k x2).bind fun x3 =>
      if (!x3) then
        some (.inr false)
      else
        i_areColumns_u1 k a0 n_ (IntKind.i64.wrap (x1 + 1))
    else
      some (.inl ())
def i_areColumns (k : Nat) (a0 : List ByteArray) : Option Bool :=
  (i_areColumns_u1 k a0 k 0 : Option (Unit ⊕ Bool)).bind fun
    | .inl _ => (
      ((i_within (a0.length : Int) 1 4).bind fun x5 =>
      if x5 then
        (i_AllDistinct k a0).bind fun x6 =>
        some x6
      else
        some false).bind fun x4 =>
      some x4)
    | .inr z7 => (
      some z7)
def i_originBefore (a0 : TOrigin) (a1 : TOrigin) : Option Bool :=
  (if (decide (a0.cell < a1.cell)) then
    some true
  else
    if (decide (a0.cell = a1.cell)) then
      some (decide (a0.row < a1.row))
    else
      some false).bind fun x1 =>
  some x1
def i_isTable_u2 (x4 : TRow) : Nat → Int → Option (Unit ⊕ Bool)
  | 0, _ => none
  | n_ + 1, x5 =>
    if (decide (x5 < (x4.cells.length : Int))) then
      (at? x4.cells x5).bind fun x6 =>
      (i_isNumber x6).bind fun x7 =>
      if (!x7) then
        some (.inr false)
      else
        i_isTable_u2 x4 n_ (IntKind.i64.wrap (x5 + 1))
    else
      some (.inl ())
def i_isTable_u3 (x4 : TRow) : Nat → Int → Option (Unit ⊕ Bool)
  | 0, _ => none
  | n_ + 1, x8 =>
    if (decide (x8 < (x4.from_.length : Int))) then
      (at? x4.from_ x8).bind fun x9 =>
      (if (decide (x9.cell < 0)) then
        some true
      else
        if (decide (x9.row < 0)) then
          some true
        else
          if (decide (0 < x8)) then
            (at? x4.from_ (IntKind.i64.wrap (x8 - 1))).bind fun x11 =>
            (i_originBefore x11 x9).bind fun x12 =>
            some (!x12)
          else
            some false).bind fun x10 =>
      if x10 then
        some (.inr false)
      else
        i_isTable_u3 x4 n_ (IntKind.i64.wrap (x8 + 1))
    else
      some (.inl ())
def i_isTable_u1 (k : Nat) (a0 : TValue) : Nat → Int → Option (Unit ⊕ Bool)
  | 0, _ => none
  | n_ + 1, x3 =>
    if (decide (x3 < (a0.rows.length : Int))) then
      ((at? a0.rows x3).bind fun x4 =>
      if (!decide ((x4.cells.length : Int) = (a0.columns.length : Int))) then
        some (.inr false)
      else
        (i_isTable_u2 x4 k 0 : Option (Unit ⊕ Bool)).bind fun
          | .inl _ => (
            i_isTable_u3 x4 k 0)
          | .inr z13 => (
            some (.inr z13)) : Option (Unit ⊕ Bool)).bind fun
        | .inl _ => (
          i_isTable_u1 k a0 n_ (IntKind.i64.wrap (x3 + 1)))
        | .inr z14 => (
          some (.inr z14))
    else
      some (.inl ())
def i_isTable (k : Nat) (a0 : TValue) : Option Bool :=
  ((i_areColumns k a0.columns).bind fun x2 =>
  if (!x2) then
    some true
  else
    some (decide (12 < (a0.rows.length : Int)))).bind fun x1 =>
  if x1 then
    some false
  else
    (i_isTable_u1 k a0 k 0 : Option (Unit ⊕ Bool)).bind fun
      | .inl _ => (
        some true)
      | .inr z15 => (
        some z15)
def i_DepthOf_u1 (rec_i_DepthOf : TValue → Option Int) (a0 : TValue) : Nat → Int → Int → Option Int
  | 0, _, _ => none
  | n_ + 1, x2, x3 =>
    if (decide (x3 < (a0.list.length : Int))) then
      (at? a0.list x3).bind fun x4 =>
      (rec_i_DepthOf x4).bind fun x5 =>
      i_DepthOf_u1 rec_i_DepthOf a0 n_ (if x5 > x2 then x5 else x2) (IntKind.i64.wrap (x3 + 1))
    else
      some x2
def i_DepthOf : Nat → TValue → Option Int
  | 0, _ => none
  | k + 1, a0 =>
    (i_DepthOf_u1 (i_DepthOf k) a0 k 0 0).bind fun x1 =>
    some (IntKind.i64.wrap (x1 + 1))
def i_IsValidValue_u1 (rec_i_IsValidValue : TValue → Option Bool) (a0 : TValue) : Nat → Int → Option (Unit ⊕ Bool)
  | 0, _ => none
  | n_ + 1, x13 =>
    if (decide (x13 < (a0.list.length : Int))) then
      (at? a0.list x13).bind fun x14 =>
      (if (!decide (x14.kind = 1)) then
        if (!decide (x14.kind = 2)) then
          if (!decide (x14.kind = 3)) then
            some true
          else
            (rec_i_IsValidValue x14).bind fun x16 =>
            some (!x16)
        else
          (rec_i_IsValidValue x14).bind fun x17 =>
          some (!x17)
      else
        (rec_i_IsValidValue x14).bind fun x18 =>
        some (!x18)).bind fun x15 =>
      if x15 then
        some (.inr false)
      else
        i_IsValidValue_u1 rec_i_IsValidValue a0 n_ (IntKind.i64.wrap (x13 + 1))
    else
      some (.inl ())
def i_IsValidValue : Nat → TValue → Option Bool
  | 0, _ => none
  | k + 1, a0 =>
    (if (decide ((a0.list.length : Int) = 0)) then
      if (decide ((a0.columns.length : Int) = 0)) then
        some (decide ((a0.rows.length : Int) = 0))
      else
        some false
    else
      some false).bind fun x1 =>
    if (decide (a0.kind = 1)) then
      (if x1 then
        if (decide (a0.step = 0)) then
          if (decide (a0.text = (⟨#[]⟩ : ByteArray))) then
            (i_isNumber a0.n).bind fun x3 =>
            some x3
          else
            some false
        else
          some false
      else
        some false).bind fun x2 =>
      some x2
    else
      if (decide (a0.kind = 2)) then
        (if x1 then
          if (decide (a0.n = 0)) then
            if (decide (a0.step = 0)) then
              (i_IsValidText k a0.text).bind fun x5 =>
              some x5
            else
              some false
          else
            some false
        else
          some false).bind fun x4 =>
        some x4
      else
        if (decide (a0.kind = 4)) then
          (if x1 then
            if (decide (a0.text = (⟨#[]⟩ : ByteArray))) then
              (i_isNumber a0.n).bind fun x7 =>
              if x7 then
                (i_isNumber a0.step).bind fun x8 =>
                some x8
              else
                some false
            else
              some false
          else
            some false).bind fun x6 =>
          some x6
        else
          if (decide (a0.kind = 6)) then
            (if x1 then
              if (decide (a0.step = 0)) then
                if (decide (a0.text = (⟨#[]⟩ : ByteArray))) then
                  (i_within a0.n 1 8).bind fun x10 =>
                  some x10
                else
                  some false
              else
                some false
            else
              some false).bind fun x9 =>
            some x9
          else
            if (decide (a0.kind = 5)) then
              (if (decide (a0.n = 0)) then
                if (decide (a0.step = 0)) then
                  if (decide (a0.text = (⟨#[]⟩ : ByteArray))) then
                    if (decide ((a0.list.length : Int) = 0)) then
                      (i_isTable k a0).bind fun x12 =>
                      some x12
                    else
                      some false
                  else
                    some false
                else
                  some false
              else
                some false).bind fun x11 =>
              some x11
            else
              if (decide (a0.kind = 3)) then
                (i_IsValidValue_u1 (i_IsValidValue k) a0 k 0 : Option (Unit ⊕ Bool)).bind fun
                  | .inl _ => (
                    (if (decide (a0.n = 0)) then
                      if (decide (a0.step = 0)) then
                        if (decide (a0.text = (⟨#[]⟩ : ByteArray))) then
                          if (decide ((a0.columns.length : Int) = 0)) then
                            if (decide ((a0.rows.length : Int) = 0)) then
                              if (decide ((a0.list.length : Int) ≤ 8)) then
                                (i_DepthOf k a0).bind fun x20 =>
                                some (decide (x20 ≤ 3))
                              else
                                some false
                            else
                              some false
                          else
                            some false
                        else
                          some false
                      else
                        some false
                    else
                      some false).bind fun x19 =>
                    some x19)
                  | .inr z21 => (
                    some z21)
              else
                some false
def i_FormatInt (a0 : Int) : Option ByteArray :=
  (x_strconv_Itoa a0).bind fun x1 =>
  some x1
def i_Join (a0 : List ByteArray) (a1 : ByteArray) : Option ByteArray :=
  (x_strings_Join a0 a1).bind fun x1 =>
  some x1
def i_listText (a0 : List ByteArray) : Option ByteArray :=
  (i_Join a0 (⟨#[44, 32]⟩ : ByteArray)).bind fun x1 =>
  (cat? (⟨#[91]⟩ : ByteArray) x1).bind fun x2 =>
  (cat? x2 (⟨#[93]⟩ : ByteArray)).bind fun x3 =>
  some x3
def i_FormatValue_u1 (rec_i_FormatValue : TValue → Option ByteArray) (a0 : TValue) : Nat → (List ByteArray) → Int → Option (List ByteArray)
  | 0, _, _ => none
  | n_ + 1, x14, x15 =>
    if (decide (x15 < (a0.list.length : Int))) then
      (at? a0.list x15).bind fun x16 =>
      (rec_i_FormatValue x16).bind fun x17 =>
      (app? 16 x14 [x17]).bind fun x18 =>
      i_FormatValue_u1 rec_i_FormatValue a0 n_ x18 (IntKind.i64.wrap (x15 + 1))
    else
      some x14
def i_FormatValue_u3 (x22 : TRow) : Nat → (List ByteArray) → Int → Option (List ByteArray)
  | 0, _, _ => none
  | n_ + 1, x24, x25 =>
    if (decide (x25 < (x22.cells.length : Int))) then
      (at? x22.cells x25).bind fun x26 =>
      (i_FormatInt x26).bind fun x27 =>
      (app? 16 x24 [x27]).bind fun x28 =>
      i_FormatValue_u3 x22 n_ x28 (IntKind.i64.wrap (x25 + 1))
    else
      some x24
def i_FormatValue_u2 (k : Nat) (a0 : TValue) : Nat → (List ByteArray) → Int → Option (List ByteArray)
  | 0, _, _ => none
  | n_ + 1, x20, x21 =>
    if (decide (x21 < (a0.rows.length : Int))) then
      (at? a0.rows x21).bind fun x22 =>
      (i_FormatValue_u3 x22 k ([] : List ByteArray) 0).bind fun x23 =>
      (i_listText x23).bind fun x29 =>
      (app? 16 x20 [x29]).bind fun x30 =>
      i_FormatValue_u2 k a0 n_ x30 (IntKind.i64.wrap (x21 + 1))
    else
      some x20
def i_FormatValue : Nat → TValue → Option ByteArray
  | 0, _ => none
  | k + 1, a0 =>
    (i_IsValidValue k a0).bind fun x1 =>
    if (!x1) then
      some (⟨#[]⟩ : ByteArray)
    else
      if (decide (a0.kind = 1)) then
        (i_FormatInt a0.n).bind fun x2 =>
        some x2
      else
        if (decide (a0.kind = 2)) then
          (cat? (⟨#[34]⟩ : ByteArray) a0.text).bind fun x3 =>
          (cat? x3 (⟨#[34]⟩ : ByteArray)).bind fun x4 =>
          some x4
        else
          if (decide (a0.kind = 4)) then
            (i_FormatInt a0.n).bind fun x5 =>
            (cat? (⟨#[114, 97, 110, 103, 101, 40]⟩ : ByteArray) x5).bind fun x6 =>
            (cat? x6 (⟨#[44, 32]⟩ : ByteArray)).bind fun x7 =>
            (i_FormatInt a0.step).bind fun x8 =>
            (cat? x7 x8).bind fun x9 =>
            (cat? x9 (⟨#[41]⟩ : ByteArray)).bind fun x10 =>
            some x10
          else
            if (decide (a0.kind = 6)) then
              (i_ErrorName a0.n).bind fun x11 =>
              (cat? (⟨#[101, 114, 114, 111, 114, 32]⟩ : ByteArray) x11).bind fun x12 =>
              some x12
            else
              (i_FormatValue_u1 (i_FormatValue k) a0 k ([] : List ByteArray) 0).bind fun x13 =>
              (i_FormatValue_u2 k a0 k x13 0).bind fun x19 =>
              if (decide (a0.kind = 5)) then
                (i_Join a0.columns (⟨#[32]⟩ : ByteArray)).bind fun x31 =>
                (cat? (⟨#[116, 97, 98, 108, 101, 40, 34]⟩ : ByteArray) x31).bind fun x32 =>
                (cat? x32 (⟨#[34, 44, 32]⟩ : ByteArray)).bind fun x33 =>
                (i_listText x19).bind fun x34 =>
                (cat? x33 x34).bind fun x35 =>
                (cat? x35 (⟨#[41]⟩ : ByteArray)).bind fun x36 =>
                some x36
              else
                (i_listText x19).bind fun x37 =>
                some x37
def i_CellLine (k : Nat) (a0 : TCell) (a1 : TValue) (a2 : Bool) : Option TLine :=
  if (decide (a0.kind = 1)) then
    some (TLine.mk a0.id true a0.code)
  else
    if a2 then
      (cat? a0.name (⟨#[32, 61, 32]⟩ : ByteArray)).bind fun x1 =>
      (i_FormatValue k a1).bind fun x2 =>
      (cat? x1 x2).bind fun x3 =>
      some (TLine.mk a0.id true x3)
    else
      (cat? a0.name (⟨#[32, 61, 32, 46, 46, 46]⟩ : ByteArray)).bind fun x4 =>
      some (TLine.mk a0.id false x4)
def i_FreshView_u1 (k : Nat) (a0 : TNotebook) (a1 : TRun) : Nat → (List TLine) → Int → Option (List TLine)
  | 0, _, _ => none
  | n_ + 1, x4, x5 =>
    if (decide (x5 < (a0.cells.length : Int))) then
      (at? a0.cells x5).bind fun x6 =>
      (at? a1.values x5).bind fun x7 =>
      (i_CellLine k x6 x7 true).bind fun x8 =>
      (app? 32 x4 [x8]).bind fun x9 =>
      i_FreshView_u1 k a0 a1 n_ x9 (IntKind.i64.wrap (x5 + 1))
    else
      some x4
def i_FreshView (k : Nat) (a0 : TNotebook) (a1 : TRun) : Option (List TLine) :=
  ((i_IsValidNotebook k a0).bind fun x2 =>
  if (!x2) then
    some true
  else
    some (!decide ((a0.cells.length : Int) = (a1.values.length : Int)))).bind fun x1 =>
  if x1 then
    some []
  else
    (i_FreshView_u1 k a0 a1 k ([] : List TLine) 0).bind fun x3 =>
    some x3
end Go.Proofs.YtmiboaogfjgkjaaGreatDoor
