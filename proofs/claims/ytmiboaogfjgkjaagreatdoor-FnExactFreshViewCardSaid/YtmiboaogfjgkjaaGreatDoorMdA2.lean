/- Functions that mirror the program's own, one each. Written by a program of mine. -/
import Derived.Test.YtmiboaogfjgkjaaGreatDoorSx
import Derived.Test.YtmiboaogfjgkjaaGreatDoorMdA1
set_option linter.unusedSimpArgs false
set_option linter.unusedVariables false
namespace Go.Proofs.YtmiboaogfjgkjaaGreatDoor
open Go.RowKit Am
def w_toTape (k : Nat) (a0 : TTape) : Option TTape :=
  (w_toReadS k a0.reads).bind fun x1 =>
  some (TTape.mk a0.cell a0.version x1)
def w_toTapeS_u1 (k : Nat) (a0 : List TTape) : Nat → (List TTape) → Int → Option (List TTape)
  | 0, _, _ => none
  | n_ + 1, x3, x4 =>
    if (decide (x4 < (a0.length : Int))) then
      (at? a0 x4).bind fun x5 =>
      (w_toTape k x5).bind fun x6 =>
      (at? x3 x4).bind fun x7 =>
      w_toTapeS_u1 k a0 n_ (x3.set x4.toNat x6) (IntKind.i64.wrap (x4 + 1))
    else
      some x3
def w_toTapeS (k : Nat) (a0 : List TTape) : Option (List TTape) :=
  (mk? 40 (a0.length : Int)).bind fun x1 =>
  (w_toTapeS_u1 k a0 k (List.replicate x1 (TTape.mk 0 0 [])) 0).bind fun x2 =>
  some x2
def w_toRun (k : Nat) (a0 : TRun) : Option TRun :=
  (w_toValueS k a0.values).bind fun x1 =>
  (w_toTapeS k a0.tapes).bind fun x2 =>
  some (TRun.mk x1 x2 a0.steps)
def w_eqLine (a0 : TLine) (a1 : TLine) : Option Bool :=
  if (!decide (a0.cell = a1.cell)) then
    some false
  else
    if (!(a0.fresh == a1.fresh)) then
      some false
    else
      if (!decide (a0.text = a1.text)) then
        some false
      else
        some true
def w_eqLineS_u1 (a0 : List TLine) (a1 : List TLine) : Nat → Int → Option (Unit ⊕ Bool)
  | 0, _ => none
  | n_ + 1, x1 =>
    if (decide (x1 < (a0.length : Int))) then
      (at? a0 x1).bind fun x2 =>
      (at? a1 x1).bind fun x3 =>
      (w_eqLine x2 x3).bind fun x4 =>
      if (!x4) then
        some (.inr false)
      else
        w_eqLineS_u1 a0 a1 n_ (IntKind.i64.wrap (x1 + 1))
    else
      some (.inl ())
def w_eqLineS (k : Nat) (a0 : List TLine) (a1 : List TLine) : Option Bool :=
  if (!decide ((a0.length : Int) = (a1.length : Int))) then
    some false
  else
    (w_eqLineS_u1 a0 a1 k 0 : Option (Unit ⊕ Bool)).bind fun
      | .inl _ => (
        some true)
      | .inr z5 => (
        some z5)
def w_eqCell (a0 : TCell) (a1 : TCell) : Option Bool :=
  if (!decide (a0.id = a1.id)) then
    some false
  else
    if (!decide (a0.version = a1.version)) then
      some false
    else
      if (!decide (a0.kind = a1.kind)) then
        some false
      else
        if (!decide (a0.name = a1.name)) then
          some false
        else
          if (!decide (a0.code = a1.code)) then
            some false
          else
            if (!decide (a0.n = a1.n)) then
              some false
            else
              some true
def w_eqCellS_u1 (a0 : List TCell) (a1 : List TCell) : Nat → Int → Option (Unit ⊕ Bool)
  | 0, _ => none
  | n_ + 1, x1 =>
    if (decide (x1 < (a0.length : Int))) then
      (at? a0 x1).bind fun x2 =>
      (at? a1 x1).bind fun x3 =>
      (w_eqCell x2 x3).bind fun x4 =>
      if (!x4) then
        some (.inr false)
      else
        w_eqCellS_u1 a0 a1 n_ (IntKind.i64.wrap (x1 + 1))
    else
      some (.inl ())
def w_eqCellS (k : Nat) (a0 : List TCell) (a1 : List TCell) : Option Bool :=
  if (!decide ((a0.length : Int) = (a1.length : Int))) then
    some false
  else
    (w_eqCellS_u1 a0 a1 k 0 : Option (Unit ⊕ Bool)).bind fun
      | .inl _ => (
        some true)
      | .inr z5 => (
        some z5)
def w_eqNotebook (k : Nat) (a0 : TNotebook) (a1 : TNotebook) : Option Bool :=
  (w_eqCellS k a0.cells a1.cells).bind fun x1 =>
  if (!x1) then
    some false
  else
    some true
def w_eqStringS_u1 (a0 : List ByteArray) (a1 : List ByteArray) : Nat → Int → Option (Unit ⊕ Bool)
  | 0, _ => none
  | n_ + 1, x1 =>
    if (decide (x1 < (a0.length : Int))) then
      (at? a0 x1).bind fun x2 =>
      (at? a1 x1).bind fun x3 =>
      if (!decide (x2 = x3)) then
        some (.inr false)
      else
        w_eqStringS_u1 a0 a1 n_ (IntKind.i64.wrap (x1 + 1))
    else
      some (.inl ())
def w_eqStringS (k : Nat) (a0 : List ByteArray) (a1 : List ByteArray) : Option Bool :=
  if (!decide ((a0.length : Int) = (a1.length : Int))) then
    some false
  else
    (w_eqStringS_u1 a0 a1 k 0 : Option (Unit ⊕ Bool)).bind fun
      | .inl _ => (
        some true)
      | .inr z4 => (
        some z4)
def w_eqIntS_u1 (a0 : List Int) (a1 : List Int) : Nat → Int → Option (Unit ⊕ Bool)
  | 0, _ => none
  | n_ + 1, x1 =>
    if (decide (x1 < (a0.length : Int))) then
      (at? a0 x1).bind fun x2 =>
      (at? a1 x1).bind fun x3 =>
      if (!decide (x2 = x3)) then
        some (.inr false)
      else
        w_eqIntS_u1 a0 a1 n_ (IntKind.i64.wrap (x1 + 1))
    else
      some (.inl ())
def w_eqIntS (k : Nat) (a0 : List Int) (a1 : List Int) : Option Bool :=
  if (!decide ((a0.length : Int) = (a1.length : Int))) then
    some false
  else
    (w_eqIntS_u1 a0 a1 k 0 : Option (Unit ⊕ Bool)).bind fun
      | .inl _ => (
        some true)
      | .inr z4 => (
        some z4)
def w_eqOrigin (a0 : TOrigin) (a1 : TOrigin) : Option Bool :=
  if (!decide (a0.cell = a1.cell)) then
    some false
  else
    if (!decide (a0.row = a1.row)) then
      some false
    else
      some true
def w_eqOriginS_u1 (a0 : List TOrigin) (a1 : List TOrigin) : Nat → Int → Option (Unit ⊕ Bool)
  | 0, _ => none
  | n_ + 1, x1 =>
    if (decide (x1 < (a0.length : Int))) then
      (at? a0 x1).bind fun x2 =>
      (at? a1 x1).bind fun x3 =>
      (w_eqOrigin x2 x3).bind fun x4 =>
      if (!x4) then
        some (.inr false)
      else
        w_eqOriginS_u1 a0 a1 n_ (IntKind.i64.wrap (x1 + 1))
    else
      some (.inl ())
def w_eqOriginS (k : Nat) (a0 : List TOrigin) (a1 : List TOrigin) : Option Bool :=
  if (!decide ((a0.length : Int) = (a1.length : Int))) then
    some false
  else
    (w_eqOriginS_u1 a0 a1 k 0 : Option (Unit ⊕ Bool)).bind fun
      | .inl _ => (
        some true)
      | .inr z5 => (
        some z5)
def w_eqRow (k : Nat) (a0 : TRow) (a1 : TRow) : Option Bool :=
  (w_eqIntS k a0.cells a1.cells).bind fun x1 =>
  if (!x1) then
    some false
  else
    (w_eqOriginS k a0.from_ a1.from_).bind fun x2 =>
    if (!x2) then
      some false
    else
      some true
def w_eqRowS_u1 (k : Nat) (a0 : List TRow) (a1 : List TRow) : Nat → Int → Option (Unit ⊕ Bool)
  | 0, _ => none
  | n_ + 1, x1 =>
    if (decide (x1 < (a0.length : Int))) then
      (at? a0 x1).bind fun x2 =>
      (at? a1 x1).bind fun x3 =>
      (w_eqRow k x2 x3).bind fun x4 =>
      if (!x4) then
        some (.inr false)
      else
        w_eqRowS_u1 k a0 a1 n_ (IntKind.i64.wrap (x1 + 1))
    else
      some (.inl ())
def w_eqRowS (k : Nat) (a0 : List TRow) (a1 : List TRow) : Option Bool :=
  if (!decide ((a0.length : Int) = (a1.length : Int))) then
    some false
  else
    (w_eqRowS_u1 k a0 a1 k 0 : Option (Unit ⊕ Bool)).bind fun
      | .inl _ => (
        some true)
      | .inr z5 => (
        some z5)
end Go.Proofs.YtmiboaogfjgkjaaGreatDoor
