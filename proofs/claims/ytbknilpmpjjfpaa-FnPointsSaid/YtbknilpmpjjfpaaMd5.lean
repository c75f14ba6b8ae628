/- Functions that mirror the program's own, one each. Written by a program of mine. -/
import Derived.Test.YtbknilpmpjjfpaaSx
import Derived.Test.YtbknilpmpjjfpaaMd0
import Derived.Test.YtbknilpmpjjfpaaMd1
import Derived.Test.YtbknilpmpjjfpaaMd2
import Derived.Test.YtbknilpmpjjfpaaMd3
import Derived.Test.YtbknilpmpjjfpaaMd4
set_option linter.unusedSimpArgs false
set_option linter.unusedVariables false
namespace Go.Proofs.Ytbknilpmpjjfpaa
open Go.RowKit Am
def s_l7Table_u2 (x10 : Int) : Nat → (List Int) → Int → Int → (List TRow) → Int → Option ((List Int) × Int × Int × (List TRow))
  | 0, _, _, _, _, _ => none
  | n_ + 1, x15, x16, x17, x18, x19 =>
    (at? x18 x10).bind fun x20 =>
    if (decide (x19 < (x20.cells.length : Int))) then
      ((s_l1Once (Tl1Cur.mk x15 x16 x17) 8).bind fun x25 =>
      if (!x25.1) then
        (s_l1Below x25.2 4).bind fun x26 =>
        (at? x20.cells x19).bind fun x27 =>
        some (x26.2.b, x26.2.i, x26.2.h, (x18.set x10.toNat (TRow.mk (x20.cells.set x19.toNat x26.1) x20.from_)))
      else
        some (x25.2.b, x25.2.i, x25.2.h, x18)).bind fun (x21, x22, x23, x24) =>
      s_l7Table_u2 x10 n_ x21 x22 x23 x24 (IntKind.i64.wrap (x19 + 1))
    else
      some (x15, x16, x17, x18)
def s_l7Table_u1 (k : Nat) : Nat → (List Int) → Int → Int → (List TRow) → Int → Option ((List Int) × Int × Int × (List TRow))
  | 0, _, _, _, _, _ => none
  | n_ + 1, x6, x7, x8, x9, x10 =>
    if (decide (x10 < (x9.length : Int))) then
      (s_l7Table_u2 x10 k x6 x7 x8 x9 0).bind fun (x11, x12, x13, x14) =>
      s_l7Table_u1 k n_ x11 x12 x13 x14 (IntKind.i64.wrap (x10 + 1))
    else
      some (x6, x7, x8, x9)
def s_l7Table (k : Nat) (a0 : Tl1Cur) : Option (TValue × Tl1Cur) :=
  (s_l3DrawTable k a0).bind fun x1 =>
  (s_l7Table_u1 k k x1.2.b x1.2.i x1.2.h x1.1.rows 0).bind fun (x2, x3, x4, x5) =>
  (s_l1Once (Tl1Cur.mk x2 x3 x4) 12).bind fun x28 =>
  if x28.1 then
    (s_l3Bent k x28.2).bind fun x29 =>
    some (x29.1, x29.2)
  else
    some ((TValue.mk x1.1.kind x1.1.n x1.1.step x1.1.text x1.1.list x1.1.columns x5), x28.2)
def s_DrawPointsOf (k : Nat) (a0 : List Int) : Option (TValue × ByteArray × ByteArray × Int × Int) :=
  (s_l1New k a0).bind fun x1 =>
  (s_l7Table k x1).bind fun x2 =>
  (s_l1Pick x2.2 [(⟨#[97]⟩ : ByteArray), (⟨#[97]⟩ : ByteArray), (⟨#[98]⟩ : ByteArray), (⟨#[122]⟩ : ByteArray)]).bind fun x3 =>
  (s_l1Pick x3.2 [(⟨#[98]⟩ : ByteArray), (⟨#[97]⟩ : ByteArray), (⟨#[98]⟩ : ByteArray), (⟨#[99]⟩ : ByteArray)]).bind fun x4 =>
  (s_l1PickInt x4.2 [1, 10, 100, 1000, 0]).bind fun x5 =>
  (s_l1PickInt x5.2 [10, 77, 1000]).bind fun x6 =>
  some (x2.1, x3.1, x4.1, x5.1, x6.1)
def i_ColumnIndex (k : Nat) (a0 : TValue) (a1 : ByteArray) : Option Int :=
  (i_IndexOf k a0.columns a1).bind fun x1 =>
  some x1
def i_columnRange_u1 (a0 : TValue) (a1 : Int) : Nat → Int → Int → Int → Option (Int × Int)
  | 0, _, _, _ => none
  | n_ + 1, x5, x6, x7 =>
    if (decide (x7 < (a0.rows.length : Int))) then
      (at? a0.rows x7).bind fun x8 =>
      (at? x8.cells a1).bind fun x9 =>
      i_columnRange_u1 a0 a1 n_ (if x9 < x5 then x9 else x5) (if x9 > x6 then x9 else x6) (IntKind.i64.wrap (x7 + 1))
    else
      some (x5, x6)
def i_columnRange (k : Nat) (a0 : TValue) (a1 : Int) : Option (Int × Int) :=
  (at? a0.rows 0).bind fun x1 =>
  (at? x1.cells a1).bind fun x2 =>
  (i_columnRange_u1 a0 a1 k x2 x2 0).bind fun (x3, x4) =>
  some (x3, x4)
def i_PointsOf_u1 (k : Nat) (a0 : TValue) (x1 : Int) (x2 : Int) (a3 : Int) (a4 : Int) : Nat → (List TMark) → Int → Option (List TMark)
  | 0, _, _ => none
  | n_ + 1, x7, x8 =>
    if (decide (x8 < (a0.rows.length : Int))) then
      (at? a0.rows x8).bind fun x9 =>
      (i_columnRange k a0 x1).bind fun x10 =>
      (i_columnRange k a0 x2).bind fun x11 =>
      (at? x9.cells x1).bind fun x12 =>
      (i_part (IntKind.i64.wrap (x12 - x10.1)) a3 (IntKind.i64.wrap (x10.2 - x10.1)) 0).bind fun x13 =>
      (at? x9.cells x2).bind fun x14 =>
      (i_part (IntKind.i64.wrap (x11.2 - x14)) a4 (IntKind.i64.wrap (x11.2 - x11.1)) 0).bind fun x15 =>
      (app? 32 x7 [(TMark.mk x13 x15 0 0)]).bind fun x16 =>
      i_PointsOf_u1 k a0 x1 x2 a3 a4 n_ x16 (IntKind.i64.wrap (x8 + 1))
    else
      some x7
def i_PointsOf (k : Nat) (a0 : TValue) (a1 : ByteArray) (a2 : ByteArray) (a3 : Int) (a4 : Int) : Option (TScene × Bool) :=
  (i_ColumnIndex k a0 a1).bind fun x1 =>
  (i_ColumnIndex k a0 a2).bind fun x2 =>
  (if (!decide (a0.kind = 5)) then
    some true
  else
    (i_IsValidValue k a0).bind fun x4 =>
    if (!x4) then
      some true
    else
      if (decide (x1 < 0)) then
        some true
      else
        if (decide (x2 < 0)) then
          some true
        else
          (i_isCanvas a3 a4).bind fun x5 =>
          some (!x5)).bind fun x3 =>
  if x3 then
    some ((TScene.mk 0 0 []), false)
  else
    (i_PointsOf_u1 k a0 x1 x2 a3 a4 k [] 0).bind fun x6 =>
    some ((TScene.mk a3 a4 x6), true)
def s_IndexOf_u1 (a0 : List ByteArray) (a1 : ByteArray) : Nat → Int → Option (Unit ⊕ Int)
  | 0, _ => none
  | n_ + 1, x1 =>
    if (decide (x1 < (a0.length : Int))) then
      (at? a0 x1).bind fun x2 =>
      if (decide (x2 = a1)) then
        some (.inr x1)
      else
        s_IndexOf_u1 a0 a1 n_ (IntKind.i64.wrap (x1 + 1))
    else
      some (.inl ())
def s_IndexOf (k : Nat) (a0 : List ByteArray) (a1 : ByteArray) : Option Int :=
  (s_IndexOf_u1 a0 a1 k 0 : Option (Unit ⊕ Int)).bind fun
    | .inl _ => (
      some (-1))
    | .inr z3 => (
      some z3)
def s_ColumnIndex (k : Nat) (a0 : TValue) (a1 : ByteArray) : Option Int :=
  (s_IndexOf k a0.columns a1).bind fun x1 =>
  some x1
def s_l34Span_u1 (a0 : TValue) (a1 : Int) : Nat → Int → Int → Int → Option (Int × Int)
  | 0, _, _, _ => none
  | n_ + 1, x5, x6, x7 =>
    if (decide (x7 < (a0.rows.length : Int))) then
      (at? a0.rows x7).bind fun x8 =>
      (at? x8.cells a1).bind fun x9 =>
      (s_l1Min x5 x9).bind fun x10 =>
      (s_l1Max x6 x9).bind fun x11 =>
      s_l34Span_u1 a0 a1 n_ x10 x11 (IntKind.i64.wrap (x7 + 1))
    else
      some (x5, x6)
def s_l34Span (k : Nat) (a0 : TValue) (a1 : Int) : Option (Int × Int) :=
  (at? a0.rows 0).bind fun x1 =>
  (at? x1.cells a1).bind fun x2 =>
  (s_l34Span_u1 a0 a1 k x2 x2 0).bind fun (x3, x4) =>
  some (x3, x4)
def s_l34Scale (a0 : Int) (a1 : Int) (a2 : Int) (a3 : Int) : Option Int :=
  if (decide (a2 = a1)) then
    some 0
  else
    (nz? (IntKind.i64.wrap (a2 - a1))).bind fun x1 =>
    some (IntKind.i64.wrap ((IntKind.i64.wrap ((IntKind.i64.wrap (a0 - a1)) * a3)).tdiv (IntKind.i64.wrap (a2 - a1))))
def s_PointsOf_u1 (k : Nat) (a0 : TValue) (a3 : Int) (a4 : Int) (x5 : Int) (x6 : Int) : Nat → (List TMark) → Int → Option (List TMark)
  | 0, _, _ => none
  | n_ + 1, x9, x10 =>
    if (decide (x10 < (a0.rows.length : Int))) then
      (s_l34Span k a0 x5).bind fun x11 =>
      (at? a0.rows x10).bind fun x12 =>
      (at? x12.cells x5).bind fun x13 =>
      (s_l34Scale x13 x11.1 x11.2 a3).bind fun x14 =>
      (s_l34Span k a0 x6).bind fun x15 =>
      (at? x12.cells x6).bind fun x16 =>
      (s_l34Scale (IntKind.i64.wrap (x15.2 - x16)) 0 (IntKind.i64.wrap (x15.2 - x15.1)) a4).bind fun x17 =>
      (app? 32 x9 [(TMark.mk x14 x17 0 0)]).bind fun x18 =>
      s_PointsOf_u1 k a0 a3 a4 x5 x6 n_ x18 (IntKind.i64.wrap (x10 + 1))
    else
      some x9
def s_PointsOf (k : Nat) (a0 : TValue) (a1 : ByteArray) (a2 : ByteArray) (a3 : Int) (a4 : Int) : Option (TScene × Bool) :=
  (if (!decide (a0.kind = 5)) then
    some true
  else
    (s_IsValidValue k a0).bind fun x2 =>
    if (!x2) then
      some true
    else
      (s_l1In a3 1 1000).bind fun x3 =>
      if (!x3) then
        some true
      else
        (s_l1In a4 1 1000).bind fun x4 =>
        some (!x4)).bind fun x1 =>
  if x1 then
    some ((TScene.mk 0 0 []), false)
  else
    (s_ColumnIndex k a0 a1).bind fun x5 =>
    (s_ColumnIndex k a0 a2).bind fun x6 =>
    (if (decide (x5 < 0)) then
      some true
    else
      some (decide (x6 < 0))).bind fun x7 =>
    if x7 then
      some ((TScene.mk 0 0 []), false)
    else
      (s_PointsOf_u1 k a0 a3 a4 x5 x6 k [] 0).bind fun x8 =>
      some ((TScene.mk a3 a4 x8), true)
end Go.Proofs.Ytbknilpmpjjfpaa
