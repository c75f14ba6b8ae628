/- Functions that mirror the program's own, one each. Written by a program of mine. -/
import Derived.Test.YtbknilpmpjjfpaaSx
import Derived.Test.YtbknilpmpjjfpaaMd1
set_option linter.unusedSimpArgs false
set_option linter.unusedVariables false
namespace Go.Proofs.Ytbknilpmpjjfpaa
open Go.RowKit Am
def i_IsReserved (a0 : ByteArray) : Option Bool :=
  (if (decide (a0 = (⟨#[108, 101, 116]⟩ : ByteArray))) then
    some true
  else
    if (decide (a0 = (⟨#[105, 110]⟩ : ByteArray))) then
      some true
    else
      if (decide (a0 = (⟨#[105, 102]⟩ : ByteArray))) then
        some true
      else
        if (decide (a0 = (⟨#[116, 104, 101, 110]⟩ : ByteArray))) then
          some true
        else
          if (decide (a0 = (⟨#[101, 108, 115, 101]⟩ : ByteArray))) then
            some true
          else
            if (decide (a0 = (⟨#[102, 111, 114]⟩ : ByteArray))) then
              some true
            else
              some (decide (a0 = (⟨#[100, 111]⟩ : ByteArray)))).bind fun x1 =>
  if x1 then
    some true
  else
    (i_ArgumentCount a0).bind fun x2 =>
    some (decide (0 ≤ x2))
def i_IsValidName (k : Nat) (a0 : ByteArray) : Option Bool :=
  ((i_isWord k a0).bind fun x2 =>
  if x2 then
    (i_IsReserved a0).bind fun x3 =>
    some (!x3)
  else
    some false).bind fun x1 =>
  some x1
def i_IndexOf_u1 (a0 : List ByteArray) (a1 : ByteArray) : Nat → Int → Option (Unit ⊕ Int)
  | 0, _ => none
  | n_ + 1, x1 =>
    if (decide (x1 < (a0.length : Int))) then
      (at? a0 x1).bind fun x2 =>
      if (decide (x2 = a1)) then
        some (.inr x1)
      else
        i_IndexOf_u1 a0 a1 n_ (IntKind.i64.wrap (x1 + 1))
    else
      some (.inl ())
def i_IndexOf (k : Nat) (a0 : List ByteArray) (a1 : ByteArray) : Option Int :=
  (i_IndexOf_u1 a0 a1 k 0 : Option (Unit ⊕ Int)).bind fun
    | .inl _ => (
      some (-1))
    | .inr z3 => (
      some z3)
def i_AllDistinct_u1 (k : Nat) (a0 : List ByteArray) : Nat → Int → Option (Unit ⊕ Bool)
  | 0, _ => none
  | n_ + 1, x1 =>
    if (decide (x1 < (a0.length : Int))) then
      (at? a0 x1).bind fun x2 =>
      (i_IndexOf k a0 x2).bind fun x3 =>
      if (!decide (x3 = x1)) then
        some (.inr false)
      else
        i_AllDistinct_u1 k a0 n_ (IntKind.i64.wrap (x1 + 1))
    else
      some (.inl ())
def i_AllDistinct (k : Nat) (a0 : List ByteArray) : Option Bool :=
  (i_AllDistinct_u1 k a0 k 0 : Option (Unit ⊕ Bool)).bind fun
    | .inl _ => (
      some true)
    | .inr z4 => (
      some z4)
def i_areColumns_u1 (k : Nat) (a0 : List ByteArray) : Nat → Int → Option (Unit ⊕ Bool)
  | 0, _ => none
  | n_ + 1, x1 =>
    if (decide (x1 < (a0.length : Int))) then
      (at? a0 x1).bind fun x2 =>
      (i_IsValidName k x2).bind fun x3 =>
      if (!x3) then
        some (.inr false)
      else
        i_areColumns_u1 k a0 n_ (IntKind.i64.wrap (x1 + 1))
    else
      some (.inl ())
def i_areColumns (k : Nat) (a0 : List ByteArray) : Option Bool :=
  (i_areColumns_u1 k a0 k 0 : Option (Unit ⊕ Bool)).bind fun
    | .inl _ => (
      ((i_within (a0.length : Int) 1 4).bind fun x5 =>
      if x5 then
        (i_AllDistinct k a0).bind fun x6 =>
        some x6
      else
        some false).bind fun x4 =>
      some x4)
    | .inr z7 => (
      some z7)
def i_originBefore (a0 : TOrigin) (a1 : TOrigin) : Option Bool :=
  (if (decide (a0.cell < a1.cell)) then
    some true
  else
    if (decide (a0.cell = a1.cell)) then
      some (decide (a0.row < a1.row))
    else
      some false).bind fun x1 =>
  some x1
def i_isTable_u2 (x4 : TRow) : Nat → Int → Option (Unit ⊕ Bool)
  | 0, _ => none
  | n_ + 1, x5 =>
    if (decide (x5 < (x4.cells.length : Int))) then
      (at? x4.cells x5).bind fun x6 =>
      (i_isNumber x6).bind fun x7 =>
      if (!x7) then
        some (.inr false)
      else
        i_isTable_u2 x4 n_ (IntKind.i64.wrap (x5 + 1))
    else
      some (.inl ())
def i_isTable_u3 (x4 : TRow) : Nat → Int → Option (Unit ⊕ Bool)
  | 0, _ => none
  | n_ + 1, x8 =>
    if (decide (x8 < (x4.from_.length : Int))) then
      (at? x4.from_ x8).bind fun x9 =>
      (if (decide (x9.cell < 0)) then
        some true
      else
        if (decide (x9.row < 0)) then
          some true
        else
          if (decide (0 < x8)) then
            (at? x4.from_ (IntKind.i64.wrap (x8 - 1))).bind fun x11 =>
            (i_originBefore x11 x9).bind fun x12 =>
            some (!x12)
          else
            some false).bind fun x10 =>
      if x10 then
        some (.inr false)
      else
        i_isTable_u3 x4 n_ (IntKind.i64.wrap (x8 + 1))
    else
      some (.inl ())
def i_isTable_u1 (k : Nat) (a0 : TValue) : Nat → Int → Option (Unit ⊕ Bool)
  | 0, _ => none
  | n_ + 1, x3 =>
    if (decide (x3 < (a0.rows.length : Int))) then
      ((at? a0.rows x3).bind fun x4 =>
      if (!decide ((x4.cells.length : Int) = (a0.columns.length : Int))) then
        some (.inr false)
      else
        (i_isTable_u2 x4 k 0 : Option (Unit ⊕ Bool)).bind fun
          | .inl _ => (
            i_isTable_u3 x4 k 0)
          | .inr z13 => (
            some (.inr z13)) : Option (Unit ⊕ Bool)).bind fun
        | .inl _ => (
          i_isTable_u1 k a0 n_ (IntKind.i64.wrap (x3 + 1)))
        | .inr z14 => (
          some (.inr z14))
    else
      some (.inl ())
def i_isTable (k : Nat) (a0 : TValue) : Option Bool :=
  ((i_areColumns k a0.columns).bind fun x2 =>
  if (!x2) then
    some true
  else
    some (decide (12 < (a0.rows.length : Int)))).bind fun x1 =>
  if x1 then
    some false
  else
    (i_isTable_u1 k a0 k 0 : Option (Unit ⊕ Bool)).bind fun
      | .inl _ => (
        some true)
      | .inr z15 => (
        some z15)
def i_DepthOf_u1 (rec_i_DepthOf : TValue → Option Int) (a0 : TValue) : Nat → Int → Int → Option Int
  | 0, _, _ => none
  | n_ + 1, x2, x3 =>
    if (decide (x3 < (a0.list.length : Int))) then
      (at? a0.list x3).bind fun x4 =>
      (rec_i_DepthOf x4).bind fun x5 =>
      i_DepthOf_u1 rec_i_DepthOf a0 n_ (if x5 > x2 then x5 else x2) (IntKind.i64.wrap (x3 + 1))
    else
      some x2
def i_DepthOf : Nat → TValue → Option Int
  | 0, _ => none
  | k + 1, a0 =>
    (i_DepthOf_u1 (i_DepthOf k) a0 k 0 0).bind fun x1 =>
    some (IntKind.i64.wrap (x1 + 1))
def i_IsValidValue_u1 (rec_i_IsValidValue : TValue → Option Bool) (a0 : TValue) : Nat → Int → Option (Unit ⊕ Bool)
  | 0, _ => none
  | n_ + 1, x13 =>
    if (decide (x13 < (a0.list.length : Int))) then
      (at? a0.list x13).bind fun x14 =>
      (if (!decide (x14.kind = 1)) then
        if (!decide (x14.kind = 2)) then
          if (!decide (x14.kind = 3)) then
            some true
          else
            (rec_i_IsValidValue x14).bind fun x16 =>
            some (!x16)
        else
          (rec_i_IsValidValue x14).bind fun x17 =>
          some (!x17)
      else
        (rec_i_IsValidValue x14).bind fun x18 =>
        some (!x18)).bind fun x15 =>
      if x15 then
        some (.inr false)
      else
        i_IsValidValue_u1 rec_i_IsValidValue a0 n_ (IntKind.i64.wrap (x13 + 1))
    else
      some (.inl ())
def i_IsValidValue : Nat → TValue → Option Bool
  | 0, _ => none
  | k + 1, a0 =>
    (if (decide ((a0.list.length : Int) = 0)) then
      if (decide ((a0.columns.length : Int) = 0)) then
        some (decide ((a0.rows.length : Int) = 0))
      else
        some false
    else
      some false).bind fun x1 =>
    if (decide (a0.kind = 1)) then
      (if x1 then
        if (decide (a0.step = 0)) then
          if (decide (a0.text = (⟨#[]⟩ : ByteArray))) then
            (i_isNumber a0.n).bind fun x3 =>
            some x3
          else
            some false
        else
          some false
      else
        some false).bind fun x2 =>
      some x2
    else
      if (decide (a0.kind = 2)) then
        (if x1 then
          if (decide (a0.n = 0)) then
            if (decide (a0.step = 0)) then
              (i_IsValidText k a0.text).bind fun x5 =>
              some x5
            else
              some false
          else
            some false
        else
          some false).bind fun x4 =>
        some x4
      else
        if (decide (a0.kind = 4)) then
          (if x1 then
            if (decide (a0.text = (⟨#[]⟩ : ByteArray))) then
              (i_isNumber a0.n).bind fun x7 =>
              if x7 then
                (i_isNumber a0.step).bind fun x8 =>
                some x8
              else
                some false
            else
              some false
          else
            some false).bind fun x6 =>
          some x6
        else
          if (decide (a0.kind = 6)) then
            (if x1 then
              if (decide (a0.step = 0)) then
                if (decide (a0.text = (⟨#[]⟩ : ByteArray))) then
                  (i_within a0.n 1 8).bind fun x10 =>
                  some x10
                else
                  some false
              else
                some false
            else
              some false).bind fun x9 =>
            some x9
          else
            if (decide (a0.kind = 5)) then
              (if (decide (a0.n = 0)) then
                if (decide (a0.step = 0)) then
                  if (decide (a0.text = (⟨#[]⟩ : ByteArray))) then
                    if (decide ((a0.list.length : Int) = 0)) then
                      (i_isTable k a0).bind fun x12 =>
                      some x12
                    else
                      some false
                  else
                    some false
                else
                  some false
              else
                some false).bind fun x11 =>
              some x11
            else
              if (decide (a0.kind = 3)) then
                (i_IsValidValue_u1 (i_IsValidValue k) a0 k 0 : Option (Unit ⊕ Bool)).bind fun
                  | .inl _ => (
                    (if (decide (a0.n = 0)) then
                      if (decide (a0.step = 0)) then
                        if (decide (a0.text = (⟨#[]⟩ : ByteArray))) then
                          if (decide ((a0.columns.length : Int) = 0)) then
                            if (decide ((a0.rows.length : Int) = 0)) then
                              if (decide ((a0.list.length : Int) ≤ 8)) then
                                (i_DepthOf k a0).bind fun x20 =>
                                some (decide (x20 ≤ 3))
                              else
                                some false
                            else
                              some false
                          else
                            some false
                        else
                          some false
                      else
                        some false
                    else
                      some false).bind fun x19 =>
                    some x19)
                  | .inr z21 => (
                    some z21)
              else
                some false
def s_l1In (a0 : Int) (a1 : Int) (a2 : Int) : Option Bool :=
  (if (decide (a1 ≤ a0)) then
    some (decide (a0 ≤ a2))
  else
    some false).bind fun x1 =>
  some x1
end Go.Proofs.Ytbknilpmpjjfpaa
