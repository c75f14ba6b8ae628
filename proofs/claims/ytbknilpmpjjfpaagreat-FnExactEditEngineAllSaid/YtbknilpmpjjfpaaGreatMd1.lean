/- Functions that mirror the program's own, one each. Written by a program of mine. -/
import Derived.Test.YtbknilpmpjjfpaaGreatSx
import Derived.Test.YtbknilpmpjjfpaaGreatMd0
set_option linter.unusedSimpArgs false
set_option linter.unusedVariables false
namespace Go.Proofs.YtbknilpmpjjfpaaGreat
open Go.RowKit Am
def s_l20Drop (a0 : List TCell) (a1 : Int) : Option (List TCell) :=
  (sub? a0 0 a1).bind fun x1 =>
  (app? 64 ([] : List TCell) x1).bind fun x2 =>
  (sub? a0 (IntKind.i64.wrap (a1 + 1)) (a0.length : Int)).bind fun x3 =>
  (app? 64 x2 x3).bind fun x4 =>
  some x4
def s_l20Cell (k : Nat) (a0 : TCell) (a1 : TEdit) : Option (TCell × Int) :=
  (if (decide (a1.kind = 4)) then
    if (decide (a0.kind = 3)) then
      some (.inr (a0, 5))
    else
      some (.inl (a1.cell.name, a1.cell.code, a0.n))
  else
    if (decide (a1.kind = 5)) then
      if (!decide (a0.kind = 3)) then
        some (.inr (a0, 5))
      else
        some (.inl (a0.name, a0.code, a1.cell.n))
    else
      if (!decide (a0.kind = 2)) then
        some (.inr (a0, 5))
      else
        some (.inl (a0.name, a0.code, a0.n)) : Option ((ByteArray × ByteArray × Int) ⊕ (TCell × Int))).bind fun
    | .inl (x1, x2, x3) => (
      (if (!decide (a1.kind = 5)) then
        if (decide (a0.version = 999)) then
          some (.inr ((TCell.mk a0.id a0.version a0.kind x1 x2 x3), 6))
        else
          some (.inl (IntKind.i64.wrap (a0.version + 1)))
      else
        some (.inl a0.version) : Option (Int ⊕ (TCell × Int))).bind fun
        | .inl x4 => (
          (s_IsValidCell k (TCell.mk a0.id x4 a0.kind x1 x2 x3)).bind fun x5 =>
          if (!x5) then
            some ((TCell.mk a0.id x4 a0.kind x1 x2 x3), 1)
          else
            some ((TCell.mk a0.id x4 a0.kind x1 x2 x3), 0))
        | .inr z6 => (
          some z6))
    | .inr z7 => (
      some z7)
def s_ApplyEdit (k : Nat) (a0 : TNotebook) (a1 : TEdit) : Option (TNotebook × Int) :=
  (s_l17Copy a0).bind fun x1 =>
  ((s_IsValidNotebook k a0).bind fun x3 =>
  if (!x3) then
    some true
  else
    (s_l1In a1.kind 1 6).bind fun x4 =>
    some (!x4)).bind fun x2 =>
  if x2 then
    some (x1, 1)
  else
    (s_CellIndex k a0 a1.cell.id).bind fun x5 =>
    if (decide (a1.kind = 1)) then
      (s_IsValidCell k a1.cell).bind fun x6 =>
      if (!x6) then
        some (x1, 1)
      else
        if (decide (0 ≤ x5)) then
          some (x1, 3)
        else
          if (decide ((a0.cells.length : Int) = 8)) then
            some (x1, 4)
          else
            (s_l20Put a0.cells a1.at_ a1.cell).bind fun x7 =>
            some ((TNotebook.mk x7), 0)
    else
      if (decide (x5 < 0)) then
        some (x1, 2)
      else
        if (decide (a1.kind = 2)) then
          (s_l20Drop a0.cells x5).bind fun x8 =>
          some ((TNotebook.mk x8), 0)
        else
          if (decide (a1.kind = 3)) then
            (s_l20Drop a0.cells x5).bind fun x9 =>
            (at? a0.cells x5).bind fun x10 =>
            (s_l20Put x9 a1.at_ x10).bind fun x11 =>
            some ((TNotebook.mk x11), 0)
          else
            (at? a0.cells x5).bind fun x12 =>
            (s_l20Cell k x12 a1).bind fun x13 =>
            (if (decide (x13.2 = 0)) then
              (at? x1.cells x5).bind fun x15 =>
              some (x1.cells.set x5.toNat x13.1)
            else
              some x1.cells).bind fun x14 =>
            some ((TNotebook.mk x14), x13.2)
def s_l14Copy (a0 : TWorld) : Option TWorld :=
  (app? 24 ([] : List TFile) a0.files).bind fun x1 =>
  some (TWorld.mk a0.clock a0.seed x1)
def s_l3Row (a0 : TRow) : Option TRow :=
  (app? 8 ([] : List Int) a0.cells).bind fun x1 =>
  (app? 16 ([] : List TOrigin) a0.from_).bind fun x2 =>
  some (TRow.mk x1 x2)
def s_l3Copy_u1 (rec_s_l3Copy : TValue → Option TValue) (a0 : TValue) : Nat → (List TValue) → Int → Option (List TValue)
  | 0, _, _ => none
  | n_ + 1, x3, x4 =>
    if (decide (x4 < (a0.list.length : Int))) then
      (at? a0.list x4).bind fun x5 =>
      (rec_s_l3Copy x5).bind fun x6 =>
      (app? 112 x3 [x6]).bind fun x7 =>
      s_l3Copy_u1 rec_s_l3Copy a0 n_ x7 (IntKind.i64.wrap (x4 + 1))
    else
      some x3
def s_l3Copy_u2 (a0 : TValue) : Nat → (List TRow) → Int → Option (List TRow)
  | 0, _, _ => none
  | n_ + 1, x9, x10 =>
    if (decide (x10 < (a0.rows.length : Int))) then
      (at? a0.rows x10).bind fun x11 =>
      (s_l3Row x11).bind fun x12 =>
      (app? 48 x9 [x12]).bind fun x13 =>
      s_l3Copy_u2 a0 n_ x13 (IntKind.i64.wrap (x10 + 1))
    else
      some x9
def s_l3Copy : Nat → TValue → Option TValue
  | 0, _ => none
  | k + 1, a0 =>
    (app? 16 ([] : List ByteArray) a0.columns).bind fun x1 =>
    (s_l3Copy_u1 (s_l3Copy k) a0 k [] 0).bind fun x2 =>
    (s_l3Copy_u2 a0 k [] 0).bind fun x8 =>
    some (TValue.mk a0.kind a0.n a0.step a0.text x2 x1 x8)
def s_l16Read (k : Nat) (a0 : TRead) : Option TRead :=
  (s_l3Copy k a0.result).bind fun x1 =>
  some (TRead.mk a0.kind a0.n a0.time a0.text x1)
def s_l16Reads_u1 (k : Nat) (a0 : List TRead) : Nat → (List TRead) → Int → Option (List TRead)
  | 0, _, _ => none
  | n_ + 1, x2, x3 =>
    if (decide (x3 < (a0.length : Int))) then
      (at? a0 x3).bind fun x4 =>
      (s_l16Read k x4).bind fun x5 =>
      (app? 152 x2 [x5]).bind fun x6 =>
      s_l16Reads_u1 k a0 n_ x6 (IntKind.i64.wrap (x3 + 1))
    else
      some x2
def s_l16Reads (k : Nat) (a0 : List TRead) : Option (List TRead) :=
  (s_l16Reads_u1 k a0 k ([] : List TRead) 0).bind fun x1 =>
  some x1
def s_l26Copy_u1 (k : Nat) (a0 : List TTape) : Nat → (List TTape) → Int → Option (List TTape)
  | 0, _, _ => none
  | n_ + 1, x2, x3 =>
    if (decide (x3 < (a0.length : Int))) then
      (at? a0 x3).bind fun x4 =>
      (s_l16Reads k x4.reads).bind fun x5 =>
      (app? 40 x2 [(TTape.mk x4.cell x4.version x5)]).bind fun x6 =>
      s_l26Copy_u1 k a0 n_ x6 (IntKind.i64.wrap (x3 + 1))
    else
      some x2
def s_l26Copy (k : Nat) (a0 : List TTape) : Option (List TTape) :=
  (s_l26Copy_u1 k a0 k ([] : List TTape) 0).bind fun x1 =>
  some x1
def s_l28Entry (k : Nat) (a0 : TEntry) : Option TEntry :=
  (app? 8 ([] : List Int) a0.inputs).bind fun x1 =>
  (s_l3Copy k a0.value).bind fun x2 =>
  some (TEntry.mk a0.cell a0.version a0.stamp x1 x2 a0.has)
def s_l28Copy_u1 (k : Nat) (a0 : TEngine) : Nat → (List TEntry) → Int → Option (List TEntry)
  | 0, _, _ => none
  | n_ + 1, x5, x6 =>
    if (decide (x6 < (a0.entries.length : Int))) then
      (at? a0.entries x6).bind fun x7 =>
      (s_l28Entry k x7).bind fun x8 =>
      (app? 168 x5 [x8]).bind fun x9 =>
      s_l28Copy_u1 k a0 n_ x9 (IntKind.i64.wrap (x6 + 1))
    else
      some x5
def s_l28Copy (k : Nat) (a0 : TEngine) : Option TEngine :=
  (s_l17Copy a0.notebook).bind fun x1 =>
  (s_l14Copy a0.world).bind fun x2 =>
  (s_l26Copy k a0.tapes).bind fun x3 =>
  (s_l28Copy_u1 k a0 k [] 0).bind fun x4 =>
  some (TEngine.mk x1 x2 x3 x4 a0.next a0.limit a0.work)
def s_EditEngine_u1 (k : Nat) (a0 : TEngine) (x1 : TNotebook × Int) : Nat → (List TEntry) → Int → Option (List TEntry)
  | 0, _, _ => none
  | n_ + 1, x4, x5 =>
    if (decide (x5 < (a0.entries.length : Int))) then
      ((at? a0.entries x5).bind fun x7 =>
      (s_CellIndex k x1.1 x7.cell).bind fun x8 =>
      if (decide (0 ≤ x8)) then
        (s_l28Entry k x7).bind fun x9 =>
        (app? 168 x4 [x9]).bind fun x10 =>
        some x10
      else
        some x4).bind fun x6 =>
      s_EditEngine_u1 k a0 x1 n_ x6 (IntKind.i64.wrap (x5 + 1))
    else
      some x4
def s_EditEngine (k : Nat) (a0 : TEngine) (a1 : TEdit) : Option (TEngine × Int) :=
  (s_ApplyEdit k a0.notebook a1).bind fun x1 =>
  (s_l28Copy k a0).bind fun x2 =>
  if (!decide (x1.2 = 0)) then
    some (x2, x1.2)
  else
    (s_EditEngine_u1 k a0 x1 k [] 0).bind fun x3 =>
    some ((TEngine.mk x1.1 x2.world x2.tapes x3 x2.next x2.limit x2.work), 0)
def i_copyNotebook (a0 : TNotebook) : Option TNotebook :=
  (app? 64 ([] : List TCell) a0.cells).bind fun x1 =>
  some (TNotebook.mk x1)
def i_copyWorld (a0 : TWorld) : Option TWorld :=
  (app? 24 ([] : List TFile) a0.files).bind fun x1 =>
  some (TWorld.mk a0.clock a0.seed x1)
end Go.Proofs.YtbknilpmpjjfpaaGreat
