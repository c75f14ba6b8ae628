/- Functions that mirror the program's own, one each. Written by a program of mine. -/
import Derived.Test.YtbknilpmpjjfpaaSx
import Derived.Test.YtbknilpmpjjfpaaMd2
import Derived.Test.YtbknilpmpjjfpaaMd3
set_option linter.unusedSimpArgs false
set_option linter.unusedVariables false
namespace Go.Proofs.Ytbknilpmpjjfpaa
open Go.RowKit Am
def s_l3Table_u2 (x4 : TRow) : Nat → Int → Option (Unit ⊕ Bool)
  | 0, _ => none
  | n_ + 1, x7 =>
    if (decide (x7 < (x4.cells.length : Int))) then
      (at? x4.cells x7).bind fun x8 =>
      (s_l3Number x8).bind fun x9 =>
      if (!x9) then
        some (.inr false)
      else
        s_l3Table_u2 x4 n_ (IntKind.i64.wrap (x7 + 1))
    else
      some (.inl ())
def s_l3Table_u1 (k : Nat) (a0 : TValue) : Nat → Int → Option (Unit ⊕ Bool)
  | 0, _ => none
  | n_ + 1, x3 =>
    if (decide (x3 < (a0.rows.length : Int))) then
      ((at? a0.rows x3).bind fun x4 =>
      (if (!decide ((x4.cells.length : Int) = (a0.columns.length : Int))) then
        some true
      else
        (s_l3Ascending k x4.from_).bind fun x6 =>
        some (!x6)).bind fun x5 =>
      if x5 then
        some (.inr false)
      else
        s_l3Table_u2 x4 k 0 : Option (Unit ⊕ Bool)).bind fun
        | .inl _ => (
          s_l3Table_u1 k a0 n_ (IntKind.i64.wrap (x3 + 1)))
        | .inr z10 => (
          some (.inr z10))
    else
      some (.inl ())
def s_l3Table (k : Nat) (a0 : TValue) : Option Bool :=
  ((s_l3Columns k a0.columns).bind fun x2 =>
  if (!x2) then
    some true
  else
    some (decide (12 < (a0.rows.length : Int)))).bind fun x1 =>
  if x1 then
    some false
  else
    (s_l3Table_u1 k a0 k 0 : Option (Unit ⊕ Bool)).bind fun
      | .inl _ => (
        some true)
      | .inr z11 => (
        some z11)
def s_l3List_u1 (rec_s_IsValidValue : TValue → Option Bool) (a0 : TValue) : Nat → Int → Option (Unit ⊕ Bool)
  | 0, _ => none
  | n_ + 1, x1 =>
    if (decide (x1 < (a0.list.length : Int))) then
      ((at? a0.list x1).bind fun x3 =>
      (s_l3Element x3).bind fun x4 =>
      if (!x4) then
        some true
      else
        (rec_s_IsValidValue x3).bind fun x5 =>
        some (!x5)).bind fun x2 =>
      if x2 then
        some (.inr false)
      else
        s_l3List_u1 rec_s_IsValidValue a0 n_ (IntKind.i64.wrap (x1 + 1))
    else
      some (.inl ())
mutual
def s_l3List : Nat → TValue → Option Bool
  | 0, _ => none
  | k + 1, a0 =>
    (s_l3List_u1 (s_IsValidValue k) a0 k 0 : Option (Unit ⊕ Bool)).bind fun
      | .inl _ => (
        (if (decide ((a0.list.length : Int) ≤ 8)) then
          (s_DepthOf k a0).bind fun x7 =>
          some (decide (x7 ≤ 3))
        else
          some false).bind fun x6 =>
        some x6)
      | .inr z8 => (
        some z8)
def s_IsValidValue : Nat → TValue → Option Bool
  | 0, _ => none
  | k + 1, a0 =>
    (if (!decide (a0.kind = 3)) then
      if (decide (0 < (a0.list.length : Int))) then
        some true
      else
        if (!decide (a0.kind = 5)) then
          some (decide (0 < (IntKind.i64.wrap ((a0.columns.length : Int) + (a0.rows.length : Int)))))
        else
          some false
    else
      some (decide (0 < (IntKind.i64.wrap ((a0.columns.length : Int) + (a0.rows.length : Int)))))).bind fun x1 =>
    if x1 then
      some false
    else
      (if (!decide (a0.kind = 2)) then
        if (!decide (a0.text = (⟨#[]⟩ : ByteArray))) then
          some true
        else
          if (!decide (a0.kind = 4)) then
            some (!decide (a0.step = 0))
          else
            some false
      else
        some (!decide (a0.step = 0))).bind fun x2 =>
      if x2 then
        some false
      else
        if (decide (a0.kind = 1)) then
          (s_l3Number a0.n).bind fun x3 =>
          some x3
        else
          if (decide (a0.kind = 2)) then
            (if (decide (a0.n = 0)) then
              (s_IsValidText k a0.text).bind fun x5 =>
              some x5
            else
              some false).bind fun x4 =>
            some x4
          else
            if (decide (a0.kind = 3)) then
              (if (decide (a0.n = 0)) then
                (s_l3List k a0).bind fun x7 =>
                some x7
              else
                some false).bind fun x6 =>
              some x6
            else
              if (decide (a0.kind = 4)) then
                ((s_l3Number a0.n).bind fun x9 =>
                if x9 then
                  (s_l3Number a0.step).bind fun x10 =>
                  some x10
                else
                  some false).bind fun x8 =>
                some x8
              else
                if (decide (a0.kind = 5)) then
                  (if (decide (a0.n = 0)) then
                    (s_l3Table k a0).bind fun x12 =>
                    some x12
                  else
                    some false).bind fun x11 =>
                  some x11
                else
                  if (decide (a0.kind = 6)) then
                    (s_l1In a0.n 1 8).bind fun x13 =>
                    some x13
                  else
                    some false
end
end Go.Proofs.Ytbknilpmpjjfpaa
