/- Functions that mirror the program's own, one each. Written by a program of mine. -/
import Derived.Test.YtmiboaogfjgkjaaSx
set_option linter.unusedSimpArgs false
set_option linter.unusedVariables false
namespace Go.Proofs.Ytmiboaogfjgkjaa
open Go.RowKit Am

def s_SizeOf_u1 (rec_s_SizeOf : TValue → Option Int) (a0 : TValue) : Nat → Int → Int → Option Int
  | 0, _, _ => none
  | n_ + 1, x2, x3 =>
    if (decide (x3 < (a0.list.length : Int))) then
      (at? a0.list x3).bind fun x4 =>
      (rec_s_SizeOf x4).bind fun x5 =>
      s_SizeOf_u1 rec_s_SizeOf a0 n_ (IntKind.i64.wrap (x2 + x5)) (IntKind.i64.wrap (x3 + 1))
    else
      some x2
def s_SizeOf_u2 (a0 : TValue) : Nat → Int → Int → Option Int
  | 0, _, _ => none
  | n_ + 1, x7, x8 =>
    if (decide (x8 < (a0.rows.length : Int))) then
      (at? a0.rows x8).bind fun x9 =>
      s_SizeOf_u2 a0 n_ (IntKind.i64.wrap ((IntKind.i64.wrap (x7 + (x9.cells.length : Int))) + (x9.from_.length : Int))) (IntKind.i64.wrap (x8 + 1))
    else
      some x7
def s_SizeOf : Nat → TValue → Option Int
  | 0, _ => none
  | k + 1, a0 =>
    (s_SizeOf_u1 (s_SizeOf k) a0 k (IntKind.i64.wrap ((IntKind.i64.wrap (1 + (a0.text.size : Int))) + (a0.columns.length : Int))) 0).bind fun x1 =>
    (s_SizeOf_u2 a0 k x1 0).bind fun x6 =>
    some x6
def s_HeldSize_u1 (k : Nat) (a0 : TEngine) : Nat → Int → Int → Option Int
  | 0, _, _ => none
  | n_ + 1, x2, x3 =>
    if (decide (x3 < (a0.entries.length : Int))) then
      ((at? a0.entries x3).bind fun x5 =>
      if x5.has then
        (s_SizeOf k x5.value).bind fun x6 =>
        some (IntKind.i64.wrap (x2 + x6))
      else
        some x2).bind fun x4 =>
      s_HeldSize_u1 k a0 n_ x4 (IntKind.i64.wrap (x3 + 1))
    else
      some x2
def s_HeldSize (k : Nat) (a0 : TEngine) : Option Int :=
  (s_HeldSize_u1 k a0 k 0 0).bind fun x1 =>
  some x1
def i_SizeOf_u1 (rec_i_SizeOf : TValue → Option Int) (a0 : TValue) : Nat → Int → Int → Option Int
  | 0, _, _ => none
  | n_ + 1, x2, x3 =>
    if (decide (x3 < (a0.list.length : Int))) then
      (at? a0.list x3).bind fun x4 =>
      (rec_i_SizeOf x4).bind fun x5 =>
      i_SizeOf_u1 rec_i_SizeOf a0 n_ (IntKind.i64.wrap (x2 + x5)) (IntKind.i64.wrap (x3 + 1))
    else
      some x2
def i_SizeOf_u2 (a0 : TValue) : Nat → Int → Int → Option Int
  | 0, _, _ => none
  | n_ + 1, x7, x8 =>
    if (decide (x8 < (a0.rows.length : Int))) then
      (at? a0.rows x8).bind fun x9 =>
      i_SizeOf_u2 a0 n_ (IntKind.i64.wrap ((IntKind.i64.wrap (x7 + (x9.cells.length : Int))) + (x9.from_.length : Int))) (IntKind.i64.wrap (x8 + 1))
    else
      some x7
def i_SizeOf : Nat → TValue → Option Int
  | 0, _ => none
  | k + 1, a0 =>
    (i_SizeOf_u1 (i_SizeOf k) a0 k (IntKind.i64.wrap ((IntKind.i64.wrap (1 + (a0.text.size : Int))) + (a0.columns.length : Int))) 0).bind fun x1 =>
    (i_SizeOf_u2 a0 k x1 0).bind fun x6 =>
    some x6
def i_HeldSize_u1 (k : Nat) (a0 : TEngine) : Nat → Int → Int → Option Int
  | 0, _, _ => none
  | n_ + 1, x2, x3 =>
    if (decide (x3 < (a0.entries.length : Int))) then
      ((at? a0.entries x3).bind fun x5 =>
      if x5.has then
        (i_SizeOf k x5.value).bind fun x6 =>
        some (IntKind.i64.wrap (x2 + x6))
      else
        some x2).bind fun x4 =>
      i_HeldSize_u1 k a0 n_ x4 (IntKind.i64.wrap (x3 + 1))
    else
      some x2
def i_HeldSize (k : Nat) (a0 : TEngine) : Option Int :=
  (i_HeldSize_u1 k a0 k 0 0).bind fun x1 =>
  some x1
end Go.Proofs.Ytmiboaogfjgkjaa
