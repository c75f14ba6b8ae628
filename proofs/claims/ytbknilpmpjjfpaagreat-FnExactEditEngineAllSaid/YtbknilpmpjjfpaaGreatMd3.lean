/- Functions that mirror the program's own, one each. Written by a program of mine. -/
import Derived.Test.YtbknilpmpjjfpaaGreatSx
import Derived.Test.YtbknilpmpjjfpaaGreatMd1
import Derived.Test.YtbknilpmpjjfpaaGreatMd2
set_option linter.unusedSimpArgs false
set_option linter.unusedVariables false
namespace Go.Proofs.YtbknilpmpjjfpaaGreat
open Go.RowKit Am
def i_IsValidNotebook_u1 (k : Nat) (a0 : TNotebook) : Nat → Int → Option (Unit ⊕ Bool)
  | 0, _ => none
  | n_ + 1, x1 =>
    if (decide (x1 < (a0.cells.length : Int))) then
      (at? a0.cells x1).bind fun x2 =>
      ((i_IsValidCell k x2).bind fun x4 =>
      if (!x4) then
        some true
      else
        (i_CellIndex k a0 x2.id).bind fun x5 =>
        some (!decide (x5 = x1))).bind fun x3 =>
      if x3 then
        some (.inr false)
      else
        i_IsValidNotebook_u1 k a0 n_ (IntKind.i64.wrap (x1 + 1))
    else
      some (.inl ())
def i_IsValidNotebook (k : Nat) (a0 : TNotebook) : Option Bool :=
  (i_IsValidNotebook_u1 k a0 k 0 : Option (Unit ⊕ Bool)).bind fun
    | .inl _ => (
      some (decide ((a0.cells.length : Int) ≤ 8)))
    | .inr z6 => (
      some z6)
def i_inserted (a0 : List TCell) (a1 : Int) (a2 : TCell) : Option (List TCell) :=
  (sub? a0 0 (if (if (a0.length : Int) < a1 then (a0.length : Int) else a1) > 0 then (if (a0.length : Int) < a1 then (a0.length : Int) else a1) else 0)).bind fun x1 =>
  (app? 64 ([] : List TCell) x1).bind fun x2 =>
  (app? 64 x2 [a2]).bind fun x3 =>
  (sub? a0 (if (if (a0.length : Int) < a1 then (a0.length : Int) else a1) > 0 then (if (a0.length : Int) < a1 then (a0.length : Int) else a1) else 0) (a0.length : Int)).bind fun x4 =>
  (app? 64 x3 x4).bind fun x5 =>
  some x5
def i_removed (a0 : List TCell) (a1 : Int) : Option (List TCell) :=
  (sub? a0 0 a1).bind fun x1 =>
  (app? 64 ([] : List TCell) x1).bind fun x2 =>
  (sub? a0 (IntKind.i64.wrap (a1 + 1)) (a0.length : Int)).bind fun x3 =>
  (app? 64 x2 x3).bind fun x4 =>
  some x4
def i_change (k : Nat) (a0 : TNotebook) (a1 : TEdit) : Option (TNotebook × Int) :=
  (i_CellIndex k a0 a1.cell.id).bind fun x1 =>
  if (decide (a1.kind = 1)) then
    (i_IsValidCell k a1.cell).bind fun x2 =>
    if (!x2) then
      some (a0, 1)
    else
      if (decide (0 ≤ x1)) then
        some (a0, 3)
      else
        if (decide (8 ≤ (a0.cells.length : Int))) then
          some (a0, 4)
        else
          (i_inserted a0.cells a1.at_ a1.cell).bind fun x3 =>
          some ((TNotebook.mk x3), 0)
  else
    if (decide (x1 < 0)) then
      some (a0, 2)
    else
      (at? a0.cells x1).bind fun x4 =>
      (if (decide (a1.kind = 2)) then
        (i_removed a0.cells x1).bind fun x9 =>
        some (.inr ((TNotebook.mk x9), 0))
      else
        if (decide (a1.kind = 3)) then
          (i_removed a0.cells x1).bind fun x10 =>
          (i_inserted x10 a1.at_ x4).bind fun x11 =>
          some (.inr ((TNotebook.mk x11), 0))
        else
          if (decide (a1.kind = 5)) then
            if (!decide (x4.kind = 3)) then
              some (.inr (a0, 5))
            else
              some (.inl (x4.version, x4.name, x4.code, a1.cell.n))
          else
            (if (decide (a1.kind = 4)) then
              if (decide (x4.kind = 3)) then
                some true
              else
                some false
            else
              if (decide (a1.kind = 6)) then
                some (!decide (x4.kind = 2))
              else
                some false).bind fun x12 =>
            if x12 then
              some (.inr (a0, 5))
            else
              if (decide (999 ≤ x4.version)) then
                some (.inr (a0, 6))
              else
                if (decide (a1.kind = 4)) then
                  some (.inl ((IntKind.i64.wrap (x4.version + 1)), a1.cell.name, a1.cell.code, x4.n))
                else
                  some (.inl ((IntKind.i64.wrap (x4.version + 1)), x4.name, x4.code, x4.n)) : Option ((Int × ByteArray × ByteArray × Int) ⊕ (TNotebook × Int))).bind fun
        | .inl (x5, x6, x7, x8) => (
          (i_IsValidCell k (TCell.mk x4.id x5 x4.kind x6 x7 x8)).bind fun x13 =>
          if (!x13) then
            some (a0, 1)
          else
            (i_copyNotebook a0).bind fun x14 =>
            (at? x14.cells x1).bind fun x15 =>
            some ((TNotebook.mk (x14.cells.set x1.toNat (TCell.mk x4.id x5 x4.kind x6 x7 x8))), 0))
        | .inr z16 => (
          some z16)
def i_ApplyEdit (k : Nat) (a0 : TNotebook) (a1 : TEdit) : Option (TNotebook × Int) :=
  ((i_IsValidNotebook k a0).bind fun x2 =>
  if (!x2) then
    some true
  else
    (i_within a1.kind 1 6).bind fun x3 =>
    some (!x3)).bind fun x1 =>
  if x1 then
    (i_copyNotebook a0).bind fun x4 =>
    some (x4, 1)
  else
    (i_change k a0 a1).bind fun x5 =>
    (i_copyNotebook x5.1).bind fun x6 =>
    some (x6, x5.2)
def i_EditEngine_u1 (k : Nat) (x1 : TEngine) (x2 : TNotebook × Int) : Nat → (List TEntry) → Int → Option (List TEntry)
  | 0, _, _ => none
  | n_ + 1, x4, x5 =>
    if (decide (x5 < (x1.entries.length : Int))) then
      ((at? x1.entries x5).bind fun x7 =>
      (i_CellIndex k x2.1 x7.cell).bind fun x8 =>
      if (decide (0 ≤ x8)) then
        (app? 168 x4 [x7]).bind fun x9 =>
        some x9
      else
        some x4).bind fun x6 =>
      i_EditEngine_u1 k x1 x2 n_ x6 (IntKind.i64.wrap (x5 + 1))
    else
      some x4
def i_EditEngine (k : Nat) (a0 : TEngine) (a1 : TEdit) : Option (TEngine × Int) :=
  (i_copyEngine k a0).bind fun x1 =>
  (i_ApplyEdit k a0.notebook a1).bind fun x2 =>
  if (!decide (x2.2 = 0)) then
    some (x1, x2.2)
  else
    (i_EditEngine_u1 k x1 x2 k ([] : List TEntry) 0).bind fun x3 =>
    some ((TEngine.mk x2.1 x1.world x1.tapes x3 x1.next x1.limit x1.work), 0)
end Go.Proofs.YtbknilpmpjjfpaaGreat
