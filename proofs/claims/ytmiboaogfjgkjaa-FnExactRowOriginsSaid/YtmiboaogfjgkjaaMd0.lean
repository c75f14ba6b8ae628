/- Functions that mirror the program's own, one each. Written by a program of mine. -/
import Derived.Test.YtmiboaogfjgkjaaSx
set_option linter.unusedSimpArgs false
set_option linter.unusedVariables false
namespace Go.Proofs.Ytmiboaogfjgkjaa
open Go.RowKit Am

def s_CellIndex_u1 (a0 : TNotebook) (a1 : Int) : Nat → Int → Option (Unit ⊕ Int)
  | 0, _ => none
  | n_ + 1, x1 =>
    if (decide (x1 < (a0.cells.length : Int))) then
      (at? a0.cells x1).bind fun x2 =>
      if (decide (x2.id = a1)) then
        some (.inr x1)
      else
        s_CellIndex_u1 a0 a1 n_ (IntKind.i64.wrap (x1 + 1))
    else
      some (.inl ())
def s_CellIndex (k : Nat) (a0 : TNotebook) (a1 : Int) : Option Int :=
  (s_CellIndex_u1 a0 a1 k 0 : Option (Unit ⊕ Int)).bind fun
    | .inl _ => (
      some (-1))
    | .inr z3 => (
      some z3)
def s_ChangedCells_u1 (k : Nat) (a0 : TNotebook) (a1 : TNotebook) : Nat → (List Int) → Int → Option (List Int)
  | 0, _, _ => none
  | n_ + 1, x2, x3 =>
    if (decide (x3 < (a1.cells.length : Int))) then
      ((at? a1.cells x3).bind fun x5 =>
      (s_CellIndex k a0 x5.id).bind fun x6 =>
      (if (decide (x6 < 0)) then
        some true
      else
        (at? a0.cells x6).bind fun x8 =>
        some (!(decide (x8.id = x5.id) && (decide (x8.version = x5.version) && (decide (x8.kind = x5.kind) && (decide (x8.name = x5.name) && (decide (x8.code = x5.code) && decide (x8.n = x5.n)))))))).bind fun x7 =>
      if x7 then
        (app? 8 x2 [x5.id]).bind fun x9 =>
        some x9
      else
        some x2).bind fun x4 =>
      s_ChangedCells_u1 k a0 a1 n_ x4 (IntKind.i64.wrap (x3 + 1))
    else
      some x2
def s_ChangedCells (k : Nat) (a0 : TNotebook) (a1 : TNotebook) : Option (List Int) :=
  (s_ChangedCells_u1 k a0 a1 k ([] : List Int) 0).bind fun x1 =>
  some x1
def i_CellIndex_u1 (a0 : TNotebook) (a1 : Int) : Nat → Int → Option (Unit ⊕ Int)
  | 0, _ => none
  | n_ + 1, x1 =>
    if (decide (x1 < (a0.cells.length : Int))) then
      (at? a0.cells x1).bind fun x2 =>
      if (decide (x2.id = a1)) then
        some (.inr x1)
      else
        i_CellIndex_u1 a0 a1 n_ (IntKind.i64.wrap (x1 + 1))
    else
      some (.inl ())
def i_CellIndex (k : Nat) (a0 : TNotebook) (a1 : Int) : Option Int :=
  (i_CellIndex_u1 a0 a1 k 0 : Option (Unit ⊕ Int)).bind fun
    | .inl _ => (
      some (-1))
    | .inr z3 => (
      some z3)
def i_ChangedCells_u1 (k : Nat) (a0 : TNotebook) (a1 : TNotebook) : Nat → (List Int) → Int → Option (List Int)
  | 0, _, _ => none
  | n_ + 1, x2, x3 =>
    if (decide (x3 < (a1.cells.length : Int))) then
      ((at? a1.cells x3).bind fun x5 =>
      (i_CellIndex k a0 x5.id).bind fun x6 =>
      (if (decide (x6 < 0)) then
        some true
      else
        (at? a0.cells x6).bind fun x8 =>
        some (!(decide (x8.id = x5.id) && (decide (x8.version = x5.version) && (decide (x8.kind = x5.kind) && (decide (x8.name = x5.name) && (decide (x8.code = x5.code) && decide (x8.n = x5.n)))))))).bind fun x7 =>
      if x7 then
        (app? 8 x2 [x5.id]).bind fun x9 =>
        some x9
      else
        some x2).bind fun x4 =>
      i_ChangedCells_u1 k a0 a1 n_ x4 (IntKind.i64.wrap (x3 + 1))
    else
      some x2
def i_ChangedCells (k : Nat) (a0 : TNotebook) (a1 : TNotebook) : Option (List Int) :=
  (i_ChangedCells_u1 k a0 a1 k ([] : List Int) 0).bind fun x1 =>
  some x1
end Go.Proofs.Ytmiboaogfjgkjaa
