/- Functions that mirror the program's own, one each. Written by a program of mine. -/
import Derived.Test.YtmiboaogfjgkjaaSx
set_option linter.unusedSimpArgs false
set_option linter.unusedVariables false
namespace Go.Proofs.Ytmiboaogfjgkjaa
open Go.RowKit Am

def s_EntryIndex_u1 (a0 : TEngine) (a1 : Int) : Nat → Int → Option (Unit ⊕ Int)
  | 0, _ => none
  | n_ + 1, x1 =>
    if (decide (x1 < (a0.entries.length : Int))) then
      (at? a0.entries x1).bind fun x2 =>
      if (decide (x2.cell = a1)) then
        some (.inr x1)
      else
        s_EntryIndex_u1 a0 a1 n_ (IntKind.i64.wrap (x1 + 1))
    else
      some (.inl ())
def s_EntryIndex (k : Nat) (a0 : TEngine) (a1 : Int) : Option Int :=
  (s_EntryIndex_u1 a0 a1 k 0 : Option (Unit ⊕ Int)).bind fun
    | .inl _ => (
      some (-1))
    | .inr z3 => (
      some z3)
def i_EntryIndex_u1 (a0 : TEngine) (a1 : Int) : Nat → Int → Option (Unit ⊕ Int)
  | 0, _ => none
  | n_ + 1, x1 =>
    if (decide (x1 < (a0.entries.length : Int))) then
      (at? a0.entries x1).bind fun x2 =>
      if (decide (x2.cell = a1)) then
        some (.inr x1)
      else
        i_EntryIndex_u1 a0 a1 n_ (IntKind.i64.wrap (x1 + 1))
    else
      some (.inl ())
def i_EntryIndex (k : Nat) (a0 : TEngine) (a1 : Int) : Option Int :=
  (i_EntryIndex_u1 a0 a1 k 0 : Option (Unit ⊕ Int)).bind fun
    | .inl _ => (
      some (-1))
    | .inr z3 => (
      some z3)
end Go.Proofs.Ytmiboaogfjgkjaa
