/- Functions that mirror the program's own, one each. Written by a program of mine. -/
import Derived.Test.YtbknilpmpjjfpaaGreatSx
import Derived.Test.YtbknilpmpjjfpaaGreatMdA0
set_option linter.unusedSimpArgs false
set_option linter.unusedVariables false
namespace Go.Proofs.YtbknilpmpjjfpaaGreat
open Go.RowKit Am
def w_szReadS_u1 (k : Nat) (a0 : List TRead) : Nat → Int → Int → Option (Int ⊕ Int)
  | 0, _, _ => none
  | n_ + 1, x2, x3 =>
    if (decide (x3 < (a0.length : Int))) then
      (at? a0 x3).bind fun x4 =>
      (w_szRead k x4 x2).bind fun x5 =>
      if (decide (x5 < 0)) then
        some (.inr (-1))
      else
        w_szReadS_u1 k a0 n_ x5 (IntKind.i64.wrap (x3 + 1))
    else
      some (.inl x2)
def w_szReadS (k : Nat) (a0 : List TRead) (a1 : Int) : Option Int :=
  if (decide ((IntKind.i64.wrap (a1 - (a0.length : Int))) < 0)) then
    some (-1)
  else
    (w_szReadS_u1 k a0 k (IntKind.i64.wrap (a1 - (a0.length : Int))) 0 : Option (Int ⊕ Int)).bind fun
      | .inl x1 => (
        some x1)
      | .inr z6 => (
        some z6)
def w_szTape (k : Nat) (a0 : TTape) (a1 : Int) : Option Int :=
  (w_szReadS k a0.reads a1).bind fun x1 =>
  if (decide (x1 < 0)) then
    some (-1)
  else
    some x1
def w_szTapeS_u1 (k : Nat) (a0 : List TTape) : Nat → Int → Int → Option (Int ⊕ Int)
  | 0, _, _ => none
  | n_ + 1, x2, x3 =>
    if (decide (x3 < (a0.length : Int))) then
      (at? a0 x3).bind fun x4 =>
      (w_szTape k x4 x2).bind fun x5 =>
      if (decide (x5 < 0)) then
        some (.inr (-1))
      else
        w_szTapeS_u1 k a0 n_ x5 (IntKind.i64.wrap (x3 + 1))
    else
      some (.inl x2)
def w_szTapeS (k : Nat) (a0 : List TTape) (a1 : Int) : Option Int :=
  if (decide ((IntKind.i64.wrap (a1 - (a0.length : Int))) < 0)) then
    some (-1)
  else
    (w_szTapeS_u1 k a0 k (IntKind.i64.wrap (a1 - (a0.length : Int))) 0 : Option (Int ⊕ Int)).bind fun
      | .inl x1 => (
        some x1)
      | .inr z6 => (
        some z6)
def w_szEntry (k : Nat) (a0 : TEntry) (a1 : Int) : Option Int :=
  (w_szIntS a0.inputs a1).bind fun x1 =>
  if (decide (x1 < 0)) then
    some (-1)
  else
    (w_szValue k a0.value x1).bind fun x2 =>
    if (decide (x2 < 0)) then
      some (-1)
    else
      some x2
def w_szEntryS_u1 (k : Nat) (a0 : List TEntry) : Nat → Int → Int → Option (Int ⊕ Int)
  | 0, _, _ => none
  | n_ + 1, x2, x3 =>
    if (decide (x3 < (a0.length : Int))) then
      (at? a0 x3).bind fun x4 =>
      (w_szEntry k x4 x2).bind fun x5 =>
      if (decide (x5 < 0)) then
        some (.inr (-1))
      else
        w_szEntryS_u1 k a0 n_ x5 (IntKind.i64.wrap (x3 + 1))
    else
      some (.inl x2)
def w_szEntryS (k : Nat) (a0 : List TEntry) (a1 : Int) : Option Int :=
  if (decide ((IntKind.i64.wrap (a1 - (a0.length : Int))) < 0)) then
    some (-1)
  else
    (w_szEntryS_u1 k a0 k (IntKind.i64.wrap (a1 - (a0.length : Int))) 0 : Option (Int ⊕ Int)).bind fun
      | .inl x1 => (
        some x1)
      | .inr z6 => (
        some z6)
def w_szEngine (k : Nat) (a0 : TEngine) (a1 : Int) : Option Int :=
  (w_szNotebook k a0.notebook a1).bind fun x1 =>
  if (decide (x1 < 0)) then
    some (-1)
  else
    (w_szWorld k a0.world x1).bind fun x2 =>
    if (decide (x2 < 0)) then
      some (-1)
    else
      (w_szTapeS k a0.tapes x2).bind fun x3 =>
      if (decide (x3 < 0)) then
        some (-1)
      else
        (w_szEntryS k a0.entries x3).bind fun x4 =>
        if (decide (x4 < 0)) then
          some (-1)
        else
          some x4
def w_szEdit (a0 : TEdit) (a1 : Int) : Option Int :=
  (w_szCell a0.cell a1).bind fun x1 =>
  if (decide (x1 < 0)) then
    some (-1)
  else
    some x1
def w_toCell (a0 : TCell) : Option TCell :=
  some a0
def w_toCellS_u1 (a0 : List TCell) : Nat → (List TCell) → Int → Option (List TCell)
  | 0, _, _ => none
  | n_ + 1, x3, x4 =>
    if (decide (x4 < (a0.length : Int))) then
      (at? a0 x4).bind fun x5 =>
      (w_toCell x5).bind fun x6 =>
      (at? x3 x4).bind fun x7 =>
      w_toCellS_u1 a0 n_ (x3.set x4.toNat x6) (IntKind.i64.wrap (x4 + 1))
    else
      some x3
def w_toCellS (k : Nat) (a0 : List TCell) : Option (List TCell) :=
  (mk? 64 (a0.length : Int)).bind fun x1 =>
  (w_toCellS_u1 a0 k (List.replicate x1 (TCell.mk 0 0 0 (⟨#[]⟩ : ByteArray) (⟨#[]⟩ : ByteArray) 0)) 0).bind fun x2 =>
  some x2
def w_toNotebook (k : Nat) (a0 : TNotebook) : Option TNotebook :=
  (w_toCellS k a0.cells).bind fun x1 =>
  some (TNotebook.mk x1)
def w_toFile (a0 : TFile) : Option TFile :=
  some a0
def w_toFileS_u1 (a0 : List TFile) : Nat → (List TFile) → Int → Option (List TFile)
  | 0, _, _ => none
  | n_ + 1, x3, x4 =>
    if (decide (x4 < (a0.length : Int))) then
      (at? a0 x4).bind fun x5 =>
      (w_toFile x5).bind fun x6 =>
      (at? x3 x4).bind fun x7 =>
      w_toFileS_u1 a0 n_ (x3.set x4.toNat x6) (IntKind.i64.wrap (x4 + 1))
    else
      some x3
def w_toFileS (k : Nat) (a0 : List TFile) : Option (List TFile) :=
  (mk? 24 (a0.length : Int)).bind fun x1 =>
  (w_toFileS_u1 a0 k (List.replicate x1 (TFile.mk (⟨#[]⟩ : ByteArray) 0)) 0).bind fun x2 =>
  some x2
def w_toWorld (k : Nat) (a0 : TWorld) : Option TWorld :=
  (w_toFileS k a0.files).bind fun x1 =>
  some (TWorld.mk a0.clock a0.seed x1)
def w_toStringS_u1 (a0 : List ByteArray) : Nat → (List ByteArray) → Int → Option (List ByteArray)
  | 0, _, _ => none
  | n_ + 1, x3, x4 =>
    if (decide (x4 < (a0.length : Int))) then
      (at? a0 x4).bind fun x5 =>
      (at? x3 x4).bind fun x6 =>
      w_toStringS_u1 a0 n_ (x3.set x4.toNat x5) (IntKind.i64.wrap (x4 + 1))
    else
      some x3
def w_toStringS (k : Nat) (a0 : List ByteArray) : Option (List ByteArray) :=
  (mk? 16 (a0.length : Int)).bind fun x1 =>
  (w_toStringS_u1 a0 k (List.replicate x1 (⟨#[]⟩ : ByteArray)) 0).bind fun x2 =>
  some x2
end Go.Proofs.YtbknilpmpjjfpaaGreat
