/- Functions that mirror the program's own, one each. Written by a program of mine. -/
import Derived.Test.YtbknilpmpjjfpaaGreatSx
import Derived.Test.YtbknilpmpjjfpaaGreatMdA1
set_option linter.unusedSimpArgs false
set_option linter.unusedVariables false
namespace Go.Proofs.YtbknilpmpjjfpaaGreat
open Go.RowKit Am
def w_toEdit (a0 : TEdit) : Option TEdit :=
  (w_toCell a0.cell).bind fun x1 =>
  some (TEdit.mk a0.kind a0.at_ x1)
def w_eqCell (a0 : TCell) (a1 : TCell) : Option Bool :=
  if (!decide (a0.id = a1.id)) then
    some false
  else
    if (!decide (a0.version = a1.version)) then
      some false
    else
      if (!decide (a0.kind = a1.kind)) then
        some false
      else
        if (!decide (a0.name = a1.name)) then
          some false
        else
          if (!decide (a0.code = a1.code)) then
            some false
          else
            if (!decide (a0.n = a1.n)) then
              some false
            else
              some true
def w_eqCellS_u1 (a0 : List TCell) (a1 : List TCell) : Nat → Int → Option (Unit ⊕ Bool)
  | 0, _ => none
  | n_ + 1, x1 =>
    if (decide (x1 < (a0.length : Int))) then
      (at? a0 x1).bind fun x2 =>
      (at? a1 x1).bind fun x3 =>
      (w_eqCell x2 x3).bind fun x4 =>
      if (!x4) then
        some (.inr false)
      else
        w_eqCellS_u1 a0 a1 n_ (IntKind.i64.wrap (x1 + 1))
    else
      some (.inl ())
def w_eqCellS (k : Nat) (a0 : List TCell) (a1 : List TCell) : Option Bool :=
  if (!decide ((a0.length : Int) = (a1.length : Int))) then
    some false
  else
    (w_eqCellS_u1 a0 a1 k 0 : Option (Unit ⊕ Bool)).bind fun
      | .inl _ => (
        some true)
      | .inr z5 => (
        some z5)
def w_eqNotebook (k : Nat) (a0 : TNotebook) (a1 : TNotebook) : Option Bool :=
  (w_eqCellS k a0.cells a1.cells).bind fun x1 =>
  if (!x1) then
    some false
  else
    some true
def w_eqFile (a0 : TFile) (a1 : TFile) : Option Bool :=
  if (!decide (a0.name = a1.name)) then
    some false
  else
    if (!decide (a0.n = a1.n)) then
      some false
    else
      some true
def w_eqFileS_u1 (a0 : List TFile) (a1 : List TFile) : Nat → Int → Option (Unit ⊕ Bool)
  | 0, _ => none
  | n_ + 1, x1 =>
    if (decide (x1 < (a0.length : Int))) then
      (at? a0 x1).bind fun x2 =>
      (at? a1 x1).bind fun x3 =>
      (w_eqFile x2 x3).bind fun x4 =>
      if (!x4) then
        some (.inr false)
      else
        w_eqFileS_u1 a0 a1 n_ (IntKind.i64.wrap (x1 + 1))
    else
      some (.inl ())
def w_eqFileS (k : Nat) (a0 : List TFile) (a1 : List TFile) : Option Bool :=
  if (!decide ((a0.length : Int) = (a1.length : Int))) then
    some false
  else
    (w_eqFileS_u1 a0 a1 k 0 : Option (Unit ⊕ Bool)).bind fun
      | .inl _ => (
        some true)
      | .inr z5 => (
        some z5)
def w_eqWorld (k : Nat) (a0 : TWorld) (a1 : TWorld) : Option Bool :=
  if (!decide (a0.clock = a1.clock)) then
    some false
  else
    if (!decide (a0.seed = a1.seed)) then
      some false
    else
      (w_eqFileS k a0.files a1.files).bind fun x1 =>
      if (!x1) then
        some false
      else
        some true
def w_eqStringS_u1 (a0 : List ByteArray) (a1 : List ByteArray) : Nat → Int → Option (Unit ⊕ Bool)
  | 0, _ => none
  | n_ + 1, x1 =>
    if (decide (x1 < (a0.length : Int))) then
      (at? a0 x1).bind fun x2 =>
      (at? a1 x1).bind fun x3 =>
      if (!decide (x2 = x3)) then
        some (.inr false)
      else
        w_eqStringS_u1 a0 a1 n_ (IntKind.i64.wrap (x1 + 1))
    else
      some (.inl ())
def w_eqStringS (k : Nat) (a0 : List ByteArray) (a1 : List ByteArray) : Option Bool :=
  if (!decide ((a0.length : Int) = (a1.length : Int))) then
    some false
  else
    (w_eqStringS_u1 a0 a1 k 0 : Option (Unit ⊕ Bool)).bind fun
      | .inl _ => (
        some true)
      | .inr z4 => (
        some z4)
def w_eqIntS_u1 (a0 : List Int) (a1 : List Int) : Nat → Int → Option (Unit ⊕ Bool)
  | 0, _ => none
  | n_ + 1, x1 =>
    if (decide (x1 < (a0.length : Int))) then
      (at? a0 x1).bind fun x2 =>
      (at? a1 x1).bind fun x3 =>
      if (!decide (x2 = x3)) then
        some (.inr false)
      else
        w_eqIntS_u1 a0 a1 n_ (IntKind.i64.wrap (x1 + 1))
    else
      some (.inl ())
def w_eqIntS (k : Nat) (a0 : List Int) (a1 : List Int) : Option Bool :=
  if (!decide ((a0.length : Int) = (a1.length : Int))) then
    some false
  else
    (w_eqIntS_u1 a0 a1 k 0 : Option (Unit ⊕ Bool)).bind fun
      | .inl _ => (
        some true)
      | .inr z4 => (
        some z4)
def w_eqOrigin (a0 : TOrigin) (a1 : TOrigin) : Option Bool :=
  if (!decide (a0.cell = a1.cell)) then
    some false
  else
    if (!decide (a0.row = a1.row)) then
      some false
    else
      some true
def w_eqOriginS_u1 (a0 : List TOrigin) (a1 : List TOrigin) : Nat → Int → Option (Unit ⊕ Bool)
  | 0, _ => none
  | n_ + 1, x1 =>
    if (decide (x1 < (a0.length : Int))) then
      (at? a0 x1).bind fun x2 =>
      (at? a1 x1).bind fun x3 =>
      (w_eqOrigin x2 x3).bind fun x4 =>
      if (!x4) then
        some (.inr false)
      else
        w_eqOriginS_u1 a0 a1 n_ (IntKind.i64.wrap (x1 + 1))
    else
      some (.inl ())
def w_eqOriginS (k : Nat) (a0 : List TOrigin) (a1 : List TOrigin) : Option Bool :=
  if (!decide ((a0.length : Int) = (a1.length : Int))) then
    some false
  else
    (w_eqOriginS_u1 a0 a1 k 0 : Option (Unit ⊕ Bool)).bind fun
      | .inl _ => (
        some true)
      | .inr z5 => (
        some z5)
def w_eqRow (k : Nat) (a0 : TRow) (a1 : TRow) : Option Bool :=
  (w_eqIntS k a0.cells a1.cells).bind fun x1 =>
  if (!x1) then
    some false
  else
    (w_eqOriginS k a0.from_ a1.from_).bind fun x2 =>
    if (!x2) then
      some false
    else
      some true
def w_eqRowS_u1 (k : Nat) (a0 : List TRow) (a1 : List TRow) : Nat → Int → Option (Unit ⊕ Bool)
  | 0, _ => none
  | n_ + 1, x1 =>
    if (decide (x1 < (a0.length : Int))) then
      (at? a0 x1).bind fun x2 =>
      (at? a1 x1).bind fun x3 =>
      (w_eqRow k x2 x3).bind fun x4 =>
      if (!x4) then
        some (.inr false)
      else
        w_eqRowS_u1 k a0 a1 n_ (IntKind.i64.wrap (x1 + 1))
    else
      some (.inl ())
def w_eqRowS (k : Nat) (a0 : List TRow) (a1 : List TRow) : Option Bool :=
  if (!decide ((a0.length : Int) = (a1.length : Int))) then
    some false
  else
    (w_eqRowS_u1 k a0 a1 k 0 : Option (Unit ⊕ Bool)).bind fun
      | .inl _ => (
        some true)
      | .inr z5 => (
        some z5)
def w_eqValueS_u1 (rec_w_eqValue : TValue → TValue → Option Bool) (a0 : List TValue) (a1 : List TValue) : Nat → Int → Option (Unit ⊕ Bool)
  | 0, _ => none
  | n_ + 1, x1 =>
    if (decide (x1 < (a0.length : Int))) then
      (at? a0 x1).bind fun x2 =>
      (at? a1 x1).bind fun x3 =>
      (rec_w_eqValue x2 x3).bind fun x4 =>
      if (!x4) then
        some (.inr false)
      else
        w_eqValueS_u1 rec_w_eqValue a0 a1 n_ (IntKind.i64.wrap (x1 + 1))
    else
      some (.inl ())
mutual
def w_eqValueS : Nat → (List TValue) → (List TValue) → Option Bool
  | 0, _, _ => none
  | k + 1, a0, a1 =>
    if (!decide ((a0.length : Int) = (a1.length : Int))) then
      some false
    else
      (w_eqValueS_u1 (w_eqValue k) a0 a1 k 0 : Option (Unit ⊕ Bool)).bind fun
        | .inl _ => (
          some true)
        | .inr z5 => (
          some z5)
def w_eqValue : Nat → TValue → TValue → Option Bool
  | 0, _, _ => none
  | k + 1, a0, a1 =>
    if (!decide (a0.kind = a1.kind)) then
      some false
    else
      if (!decide (a0.n = a1.n)) then
        some false
      else
        if (!decide (a0.step = a1.step)) then
          some false
        else
          if (!decide (a0.text = a1.text)) then
            some false
          else
            (w_eqValueS k a0.list a1.list).bind fun x1 =>
            if (!x1) then
              some false
            else
              (w_eqStringS k a0.columns a1.columns).bind fun x2 =>
              if (!x2) then
                some false
              else
                (w_eqRowS k a0.rows a1.rows).bind fun x3 =>
                if (!x3) then
                  some false
                else
                  some true
end
end Go.Proofs.YtbknilpmpjjfpaaGreat
