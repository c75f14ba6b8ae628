/- Functions that mirror the program's own, one each. Written by a program of mine. -/
import Derived.Test.YtmiboaogfjgkjaaSx
import Derived.Test.YtmiboaogfjgkjaaMd1
import Derived.Test.YtmiboaogfjgkjaaMd5
import Derived.Test.YtmiboaogfjgkjaaMd6
import Derived.Test.YtmiboaogfjgkjaaMd7
set_option linter.unusedSimpArgs false
set_option linter.unusedVariables false
namespace Go.Proofs.Ytmiboaogfjgkjaa
open Go.RowKit Am
def s_IndexOf_u1 (a0 : List ByteArray) (a1 : ByteArray) : Nat → Int → Option (Unit ⊕ Int)
  | 0, _ => none
  | n_ + 1, x1 =>
    if (decide (x1 < (a0.length : Int))) then
      (at? a0 x1).bind fun x2 =>
      if (decide (x2 = a1)) then
        some (.inr x1)
      else
        s_IndexOf_u1 a0 a1 n_ (IntKind.i64.wrap (x1 + 1))
    else
      some (.inl ())
def s_IndexOf (k : Nat) (a0 : List ByteArray) (a1 : ByteArray) : Option Int :=
  (s_IndexOf_u1 a0 a1 k 0 : Option (Unit ⊕ Int)).bind fun
    | .inl _ => (
      some (-1))
    | .inr z3 => (
      some z3)
def s_ColumnIndex (k : Nat) (a0 : TValue) (a1 : ByteArray) : Option Int :=
  (s_IndexOf k a0.columns a1).bind fun x1 =>
  some x1
def s_l34Span_u1 (a0 : TValue) (a1 : Int) : Nat → Int → Int → Int → Option (Int × Int)
  | 0, _, _, _ => none
  | n_ + 1, x5, x6, x7 =>
    if (decide (x7 < (a0.rows.length : Int))) then
      (at? a0.rows x7).bind fun x8 =>
      (at? x8.cells a1).bind fun x9 =>
      (s_l1Min x5 x9).bind fun x10 =>
      (s_l1Max x6 x9).bind fun x11 =>
      s_l34Span_u1 a0 a1 n_ x10 x11 (IntKind.i64.wrap (x7 + 1))
    else
      some (x5, x6)
def s_l34Span (k : Nat) (a0 : TValue) (a1 : Int) : Option (Int × Int) :=
  (at? a0.rows 0).bind fun x1 =>
  (at? x1.cells a1).bind fun x2 =>
  (s_l34Span_u1 a0 a1 k x2 x2 0).bind fun (x3, x4) =>
  some (x3, x4)
def s_l34Scale (a0 : Int) (a1 : Int) (a2 : Int) (a3 : Int) : Option Int :=
  if (decide (a2 = a1)) then
    some 0
  else
    (nz? (IntKind.i64.wrap (a2 - a1))).bind fun x1 =>
    some (IntKind.i64.wrap ((IntKind.i64.wrap ((IntKind.i64.wrap (a0 - a1)) * a3)).tdiv (IntKind.i64.wrap (a2 - a1))))
def s_PointsOf_u1 (k : Nat) (a0 : TValue) (a3 : Int) (a4 : Int) (x5 : Int) (x6 : Int) : Nat → (List TMark) → Int → Option (List TMark)
  | 0, _, _ => none
  | n_ + 1, x9, x10 =>
    if (decide (x10 < (a0.rows.length : Int))) then
      (s_l34Span k a0 x5).bind fun x11 =>
      (at? a0.rows x10).bind fun x12 =>
      (at? x12.cells x5).bind fun x13 =>
      (s_l34Scale x13 x11.1 x11.2 a3).bind fun x14 =>
      (s_l34Span k a0 x6).bind fun x15 =>
      (at? x12.cells x6).bind fun x16 =>
      (s_l34Scale (IntKind.i64.wrap (x15.2 - x16)) 0 (IntKind.i64.wrap (x15.2 - x15.1)) a4).bind fun x17 =>
      (app? 32 x9 [(TMark.mk x14 x17 0 0)]).bind fun x18 =>
      s_PointsOf_u1 k a0 a3 a4 x5 x6 n_ x18 (IntKind.i64.wrap (x10 + 1))
    else
      some x9
def s_PointsOf (k : Nat) (a0 : TValue) (a1 : ByteArray) (a2 : ByteArray) (a3 : Int) (a4 : Int) : Option (TScene × Bool) :=
  (if (!decide (a0.kind = 5)) then
    some true
  else
    (s_IsValidValue k a0).bind fun x2 =>
    if (!x2) then
      some true
    else
      (s_l1In a3 1 1000).bind fun x3 =>
      if (!x3) then
        some true
      else
        (s_l1In a4 1 1000).bind fun x4 =>
        some (!x4)).bind fun x1 =>
  if x1 then
    some ((TScene.mk 0 0 []), false)
  else
    (s_ColumnIndex k a0 a1).bind fun x5 =>
    (s_ColumnIndex k a0 a2).bind fun x6 =>
    (if (decide (x5 < 0)) then
      some true
    else
      some (decide (x6 < 0))).bind fun x7 =>
    if x7 then
      some ((TScene.mk 0 0 []), false)
    else
      (s_PointsOf_u1 k a0 a3 a4 x5 x6 k [] 0).bind fun x8 =>
      some ((TScene.mk a3 a4 x8), true)
def i_ColumnIndex (k : Nat) (a0 : TValue) (a1 : ByteArray) : Option Int :=
  (i_IndexOf k a0.columns a1).bind fun x1 =>
  some x1
def i_columnRange_u1 (a0 : TValue) (a1 : Int) : Nat → Int → Int → Int → Option (Int × Int)
  | 0, _, _, _ => none
  | n_ + 1, x5, x6, x7 =>
    if (decide (x7 < (a0.rows.length : Int))) then
      (at? a0.rows x7).bind fun x8 =>
      (at? x8.cells a1).bind fun x9 =>
      i_columnRange_u1 a0 a1 n_ (if x9 < x5 then x9 else x5) (if x9 > x6 then x9 else x6) (IntKind.i64.wrap (x7 + 1))
    else
      some (x5, x6)
def i_columnRange (k : Nat) (a0 : TValue) (a1 : Int) : Option (Int × Int) :=
  (at? a0.rows 0).bind fun x1 =>
  (at? x1.cells a1).bind fun x2 =>
  (i_columnRange_u1 a0 a1 k x2 x2 0).bind fun (x3, x4) =>
  some (x3, x4)
def i_PointsOf_u1 (k : Nat) (a0 : TValue) (x1 : Int) (x2 : Int) (a3 : Int) (a4 : Int) : Nat → (List TMark) → Int → Option (List TMark)
  | 0, _, _ => none
  | n_ + 1, x7, x8 =>
    if (decide (x8 < (a0.rows.length : Int))) then
      (at? a0.rows x8).bind fun x9 =>
      (i_columnRange k a0 x1).bind fun x10 =>
      (i_columnRange k a0 x2).bind fun x11 =>
      (at? x9.cells x1).bind fun x12 =>
      (i_part (IntKind.i64.wrap (x12 - x10.1)) a3 (IntKind.i64.wrap (x10.2 - x10.1)) 0).bind fun x13 =>
      (at? x9.cells x2).bind fun x14 =>
      (i_part (IntKind.i64.wrap (x11.2 - x14)) a4 (IntKind.i64.wrap (x11.2 - x11.1)) 0).bind fun x15 =>
      (app? 32 x7 [(TMark.mk x13 x15 0 0)]).bind fun x16 =>
      i_PointsOf_u1 k a0 x1 x2 a3 a4 n_ x16 (IntKind.i64.wrap (x8 + 1))
    else
      some x7
def i_PointsOf (k : Nat) (a0 : TValue) (a1 : ByteArray) (a2 : ByteArray) (a3 : Int) (a4 : Int) : Option (TScene × Bool) :=
  (i_ColumnIndex k a0 a1).bind fun x1 =>
  (i_ColumnIndex k a0 a2).bind fun x2 =>
  (if (!decide (a0.kind = 5)) then
    some true
  else
    (i_IsValidValue k a0).bind fun x4 =>
    if (!x4) then
      some true
    else
      if (decide (x1 < 0)) then
        some true
      else
        if (decide (x2 < 0)) then
          some true
        else
          (i_isCanvas a3 a4).bind fun x5 =>
          some (!x5)).bind fun x3 =>
  if x3 then
    some ((TScene.mk 0 0 []), false)
  else
    (i_PointsOf_u1 k a0 x1 x2 a3 a4 k [] 0).bind fun x6 =>
    some ((TScene.mk a3 a4 x6), true)
end Go.Proofs.Ytmiboaogfjgkjaa
