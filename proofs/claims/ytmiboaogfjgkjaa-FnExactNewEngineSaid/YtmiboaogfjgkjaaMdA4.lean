/- Functions that mirror the program's own, one each. Written by a program of mine. -/
import Derived.Test.YtmiboaogfjgkjaaSx
import Derived.Test.YtmiboaogfjgkjaaMdA0
import Derived.Test.YtmiboaogfjgkjaaMdA1
import Derived.Test.YtmiboaogfjgkjaaMdA2
import Derived.Test.YtmiboaogfjgkjaaMdA3
set_option linter.unusedSimpArgs false
set_option linter.unusedVariables false
namespace Go.Proofs.Ytmiboaogfjgkjaa
open Go.RowKit Am

def w_eqRead (k : Nat) (a0 : TRead) (a1 : TRead) : Option Bool :=
  if (!decide (a0.kind = a1.kind)) then
    some false
  else
    if (!decide (a0.n = a1.n)) then
      some false
    else
      if (!decide (a0.time = a1.time)) then
        some false
      else
        if (!decide (a0.text = a1.text)) then
          some false
        else
          (w_eqValue k a0.result a1.result).bind fun x1 =>
          if (!x1) then
            some false
          else
            some true
def w_eqReadS_u1 (k : Nat) (a0 : List TRead) (a1 : List TRead) : Nat → Int → Option (Unit ⊕ Bool)
  | 0, _ => none
  | n_ + 1, x1 =>
    if (decide (x1 < (a0.length : Int))) then
      (at? a0 x1).bind fun x2 =>
      (at? a1 x1).bind fun x3 =>
      (w_eqRead k x2 x3).bind fun x4 =>
      if (!x4) then
        some (.inr false)
      else
        w_eqReadS_u1 k a0 a1 n_ (IntKind.i64.wrap (x1 + 1))
    else
      some (.inl ())
def w_eqReadS (k : Nat) (a0 : List TRead) (a1 : List TRead) : Option Bool :=
  if (!decide ((a0.length : Int) = (a1.length : Int))) then
    some false
  else
    (w_eqReadS_u1 k a0 a1 k 0 : Option (Unit ⊕ Bool)).bind fun
      | .inl _ => (
        some true)
      | .inr z5 => (
        some z5)
def w_eqTape (k : Nat) (a0 : TTape) (a1 : TTape) : Option Bool :=
  if (!decide (a0.cell = a1.cell)) then
    some false
  else
    if (!decide (a0.version = a1.version)) then
      some false
    else
      (w_eqReadS k a0.reads a1.reads).bind fun x1 =>
      if (!x1) then
        some false
      else
        some true
def w_eqTapeS_u1 (k : Nat) (a0 : List TTape) (a1 : List TTape) : Nat → Int → Option (Unit ⊕ Bool)
  | 0, _ => none
  | n_ + 1, x1 =>
    if (decide (x1 < (a0.length : Int))) then
      (at? a0 x1).bind fun x2 =>
      (at? a1 x1).bind fun x3 =>
      (w_eqTape k x2 x3).bind fun x4 =>
      if (!x4) then
        some (.inr false)
      else
        w_eqTapeS_u1 k a0 a1 n_ (IntKind.i64.wrap (x1 + 1))
    else
      some (.inl ())
def w_eqTapeS (k : Nat) (a0 : List TTape) (a1 : List TTape) : Option Bool :=
  if (!decide ((a0.length : Int) = (a1.length : Int))) then
    some false
  else
    (w_eqTapeS_u1 k a0 a1 k 0 : Option (Unit ⊕ Bool)).bind fun
      | .inl _ => (
        some true)
      | .inr z5 => (
        some z5)
def w_eqRun (k : Nat) (a0 : TRun) (a1 : TRun) : Option Bool :=
  (w_eqValueS k a0.values a1.values).bind fun x1 =>
  if (!x1) then
    some false
  else
    (w_eqTapeS k a0.tapes a1.tapes).bind fun x2 =>
    if (!x2) then
      some false
    else
      if (!decide (a0.steps = a1.steps)) then
        some false
      else
        some true
def w_szFile (a0 : TFile) (a1 : Int) : Option Int :=
  if (decide ((IntKind.i64.wrap (a1 - (a0.name.size : Int))) < 0)) then
    some (-1)
  else
    some (IntKind.i64.wrap (a1 - (a0.name.size : Int)))
def w_szFileS_u1 (a0 : List TFile) : Nat → Int → Int → Option (Int ⊕ Int)
  | 0, _, _ => none
  | n_ + 1, x2, x3 =>
    if (decide (x3 < (a0.length : Int))) then
      (at? a0 x3).bind fun x4 =>
      (w_szFile x4 x2).bind fun x5 =>
      if (decide (x5 < 0)) then
        some (.inr (-1))
      else
        w_szFileS_u1 a0 n_ x5 (IntKind.i64.wrap (x3 + 1))
    else
      some (.inl x2)
def w_szFileS (k : Nat) (a0 : List TFile) (a1 : Int) : Option Int :=
  if (decide ((IntKind.i64.wrap (a1 - (a0.length : Int))) < 0)) then
    some (-1)
  else
    (w_szFileS_u1 a0 k (IntKind.i64.wrap (a1 - (a0.length : Int))) 0 : Option (Int ⊕ Int)).bind fun
      | .inl x1 => (
        some x1)
      | .inr z6 => (
        some z6)
def w_szWorld (k : Nat) (a0 : TWorld) (a1 : Int) : Option Int :=
  (w_szFileS k a0.files a1).bind fun x1 =>
  if (decide (x1 < 0)) then
    some (-1)
  else
    some x1
def w_szEntry (k : Nat) (a0 : TEntry) (a1 : Int) : Option Int :=
  (w_szIntS a0.inputs a1).bind fun x1 =>
  if (decide (x1 < 0)) then
    some (-1)
  else
    (w_szValue k a0.value x1).bind fun x2 =>
    if (decide (x2 < 0)) then
      some (-1)
    else
      some x2
def w_szEntryS_u1 (k : Nat) (a0 : List TEntry) : Nat → Int → Int → Option (Int ⊕ Int)
  | 0, _, _ => none
  | n_ + 1, x2, x3 =>
    if (decide (x3 < (a0.length : Int))) then
      (at? a0 x3).bind fun x4 =>
      (w_szEntry k x4 x2).bind fun x5 =>
      if (decide (x5 < 0)) then
        some (.inr (-1))
      else
        w_szEntryS_u1 k a0 n_ x5 (IntKind.i64.wrap (x3 + 1))
    else
      some (.inl x2)
def w_szEntryS (k : Nat) (a0 : List TEntry) (a1 : Int) : Option Int :=
  if (decide ((IntKind.i64.wrap (a1 - (a0.length : Int))) < 0)) then
    some (-1)
  else
    (w_szEntryS_u1 k a0 k (IntKind.i64.wrap (a1 - (a0.length : Int))) 0 : Option (Int ⊕ Int)).bind fun
      | .inl x1 => (
        some x1)
      | .inr z6 => (
        some z6)
def w_szEngine (k : Nat) (a0 : TEngine) (a1 : Int) : Option Int :=
  (w_szNotebook k a0.notebook a1).bind fun x1 =>
  if (decide (x1 < 0)) then
    some (-1)
  else
    (w_szWorld k a0.world x1).bind fun x2 =>
    if (decide (x2 < 0)) then
      some (-1)
    else
      (w_szTapeS k a0.tapes x2).bind fun x3 =>
      if (decide (x3 < 0)) then
        some (-1)
      else
        (w_szEntryS k a0.entries x3).bind fun x4 =>
        if (decide (x4 < 0)) then
          some (-1)
        else
          some x4
def w_toFile (a0 : TFile) : Option TFile :=
  some a0
def w_toFileS_u1 (a0 : List TFile) : Nat → (List TFile) → Int → Option (List TFile)
  | 0, _, _ => none
  | n_ + 1, x3, x4 =>
    if (decide (x4 < (a0.length : Int))) then
      (at? a0 x4).bind fun x5 =>
      (w_toFile x5).bind fun x6 =>
      (at? x3 x4).bind fun x7 =>
      w_toFileS_u1 a0 n_ (x3.set x4.toNat x6) (IntKind.i64.wrap (x4 + 1))
    else
      some x3
def w_toFileS (k : Nat) (a0 : List TFile) : Option (List TFile) :=
  (mk? 24 (a0.length : Int)).bind fun x1 =>
  (w_toFileS_u1 a0 k (List.replicate x1 (TFile.mk (⟨#[]⟩ : ByteArray) 0)) 0).bind fun x2 =>
  some x2
def w_toWorld (k : Nat) (a0 : TWorld) : Option TWorld :=
  (w_toFileS k a0.files).bind fun x1 =>
  some (TWorld.mk a0.clock a0.seed x1)
end Go.Proofs.Ytmiboaogfjgkjaa
