/- Functions that mirror the program's own, one each. Written by a program of mine. -/
import Derived.Test.YtbknilpmpjjfpaaSx
import Derived.Test.YtbknilpmpjjfpaaMd6
set_option linter.unusedSimpArgs false
set_option linter.unusedVariables false
namespace Go.Proofs.Ytbknilpmpjjfpaa
open Go.RowKit Am
def s_l3Same_u1 (rec_s_l3Same : TValue → TValue → Bool → Option Bool) (a0 : TValue) (a1 : TValue) (a2 : Bool) : Nat → Int → Option (Unit ⊕ Bool)
  | 0, _ => none
  | n_ + 1, x3 =>
    if (decide (x3 < (a0.list.length : Int))) then
      (at? a0.list x3).bind fun x4 =>
      (at? a1.list x3).bind fun x5 =>
      (rec_s_l3Same x4 x5 a2).bind fun x6 =>
      if (!x6) then
        some (.inr false)
      else
        s_l3Same_u1 rec_s_l3Same a0 a1 a2 n_ (IntKind.i64.wrap (x3 + 1))
    else
      some (.inl ())
def s_l3Same_u2 (k : Nat) (a0 : TValue) (a1 : TValue) (a2 : Bool) : Nat → Int → Option (Unit ⊕ Bool)
  | 0, _ => none
  | n_ + 1, x7 =>
    if (decide (x7 < (a0.rows.length : Int))) then
      ((at? a0.rows x7).bind fun x9 =>
      (at? a1.rows x7).bind fun x10 =>
      (s_l1Ints k x9.cells x10.cells).bind fun x11 =>
      if (!x11) then
        some true
      else
        if a2 then
          (s_l3Origins k x9.from_ x10.from_).bind fun x12 =>
          some (!x12)
        else
          some false).bind fun x8 =>
      if x8 then
        some (.inr false)
      else
        s_l3Same_u2 k a0 a1 a2 n_ (IntKind.i64.wrap (x7 + 1))
    else
      some (.inl ())
def s_l3Same : Nat → TValue → TValue → Bool → Option Bool
  | 0, _, _, _ => none
  | k + 1, a0, a1, a2 =>
    (if (!decide (a0.kind = a1.kind)) then
      some true
    else
      if (!decide (a0.n = a1.n)) then
        some true
      else
        if (!decide (a0.step = a1.step)) then
          some true
        else
          if (!decide (a0.text = a1.text)) then
            some true
          else
            if (!decide ((a0.list.length : Int) = (a1.list.length : Int))) then
              some true
            else
              (s_l3Texts k a0.columns a1.columns).bind fun x2 =>
              if (!x2) then
                some true
              else
                some (!decide ((a0.rows.length : Int) = (a1.rows.length : Int)))).bind fun x1 =>
    if x1 then
      some false
    else
      (s_l3Same_u1 (s_l3Same k) a0 a1 a2 k 0 : Option (Unit ⊕ Bool)).bind fun
        | .inl _ => (
          (s_l3Same_u2 k a0 a1 a2 k 0 : Option (Unit ⊕ Bool)).bind fun
            | .inl _ => (
              some true)
            | .inr z13 => (
              some z13))
        | .inr z14 => (
          some z14)
def s_EqualValue (k : Nat) (a0 : TValue) (a1 : TValue) : Option Bool :=
  (s_l3Same k a0 a1 true).bind fun x1 =>
  some x1
def s_HasRow_u1 (k : Nat) (a0 : TValue) (a1 : TRow) : Nat → Int → Option (Unit ⊕ Bool)
  | 0, _ => none
  | n_ + 1, x1 =>
    if (decide (x1 < (a0.rows.length : Int))) then
      ((at? a0.rows x1).bind fun x3 =>
      (s_l1Ints k x3.cells a1.cells).bind fun x4 =>
      if x4 then
        (s_l3Origins k x3.from_ a1.from_).bind fun x5 =>
        some x5
      else
        some false).bind fun x2 =>
      if x2 then
        some (.inr true)
      else
        s_HasRow_u1 k a0 a1 n_ (IntKind.i64.wrap (x1 + 1))
    else
      some (.inl ())
def s_HasRow (k : Nat) (a0 : TValue) (a1 : TRow) : Option Bool :=
  (s_HasRow_u1 k a0 a1 k 0 : Option (Unit ⊕ Bool)).bind fun
    | .inl _ => (
      some false)
    | .inr z6 => (
      some z6)
end Go.Proofs.Ytbknilpmpjjfpaa
