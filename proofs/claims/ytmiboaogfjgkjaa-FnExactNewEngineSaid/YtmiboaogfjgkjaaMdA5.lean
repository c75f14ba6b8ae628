/- Functions that mirror the program's own, one each. Written by a program of mine. -/
import Derived.Test.YtmiboaogfjgkjaaSx
import Derived.Test.YtmiboaogfjgkjaaMdA0
import Derived.Test.YtmiboaogfjgkjaaMdA2
import Derived.Test.YtmiboaogfjgkjaaMdA3
import Derived.Test.YtmiboaogfjgkjaaMdA4
set_option linter.unusedSimpArgs false
set_option linter.unusedVariables false
namespace Go.Proofs.Ytmiboaogfjgkjaa
open Go.RowKit Am

def w_toEntry (k : Nat) (a0 : TEntry) : Option TEntry :=
  (w_toIntS k a0.inputs).bind fun x1 =>
  (w_toValue k a0.value).bind fun x2 =>
  some (TEntry.mk a0.cell a0.version a0.stamp x1 x2 a0.has)
def w_toEntryS_u1 (k : Nat) (a0 : List TEntry) : Nat → (List TEntry) → Int → Option (List TEntry)
  | 0, _, _ => none
  | n_ + 1, x3, x4 =>
    if (decide (x4 < (a0.length : Int))) then
      (at? a0 x4).bind fun x5 =>
      (w_toEntry k x5).bind fun x6 =>
      (at? x3 x4).bind fun x7 =>
      w_toEntryS_u1 k a0 n_ (x3.set x4.toNat x6) (IntKind.i64.wrap (x4 + 1))
    else
      some x3
def w_toEntryS (k : Nat) (a0 : List TEntry) : Option (List TEntry) :=
  (mk? 168 (a0.length : Int)).bind fun x1 =>
  (w_toEntryS_u1 k a0 k (List.replicate x1 (TEntry.mk 0 0 0 [] (TValue.mk 0 0 0 (⟨#[]⟩ : ByteArray) [] [] []) false)) 0).bind fun x2 =>
  some x2
def w_toEngine (k : Nat) (a0 : TEngine) : Option TEngine :=
  (w_toNotebook k a0.notebook).bind fun x1 =>
  (w_toWorld k a0.world).bind fun x2 =>
  (w_toTapeS k a0.tapes).bind fun x3 =>
  (w_toEntryS k a0.entries).bind fun x4 =>
  some (TEngine.mk x1 x2 x3 x4 a0.next a0.limit a0.work)
def w_eqFile (a0 : TFile) (a1 : TFile) : Option Bool :=
  if (!decide (a0.name = a1.name)) then
    some false
  else
    if (!decide (a0.n = a1.n)) then
      some false
    else
      some true
def w_eqFileS_u1 (a0 : List TFile) (a1 : List TFile) : Nat → Int → Option (Unit ⊕ Bool)
  | 0, _ => none
  | n_ + 1, x1 =>
    if (decide (x1 < (a0.length : Int))) then
      (at? a0 x1).bind fun x2 =>
      (at? a1 x1).bind fun x3 =>
      (w_eqFile x2 x3).bind fun x4 =>
      if (!x4) then
        some (.inr false)
      else
        w_eqFileS_u1 a0 a1 n_ (IntKind.i64.wrap (x1 + 1))
    else
      some (.inl ())
def w_eqFileS (k : Nat) (a0 : List TFile) (a1 : List TFile) : Option Bool :=
  if (!decide ((a0.length : Int) = (a1.length : Int))) then
    some false
  else
    (w_eqFileS_u1 a0 a1 k 0 : Option (Unit ⊕ Bool)).bind fun
      | .inl _ => (
        some true)
      | .inr z5 => (
        some z5)
def w_eqWorld (k : Nat) (a0 : TWorld) (a1 : TWorld) : Option Bool :=
  if (!decide (a0.clock = a1.clock)) then
    some false
  else
    if (!decide (a0.seed = a1.seed)) then
      some false
    else
      (w_eqFileS k a0.files a1.files).bind fun x1 =>
      if (!x1) then
        some false
      else
        some true
def w_eqEntry (k : Nat) (a0 : TEntry) (a1 : TEntry) : Option Bool :=
  if (!decide (a0.cell = a1.cell)) then
    some false
  else
    if (!decide (a0.version = a1.version)) then
      some false
    else
      if (!decide (a0.stamp = a1.stamp)) then
        some false
      else
        (w_eqIntS k a0.inputs a1.inputs).bind fun x1 =>
        if (!x1) then
          some false
        else
          (w_eqValue k a0.value a1.value).bind fun x2 =>
          if (!x2) then
            some false
          else
            if (!(a0.has == a1.has)) then
              some false
            else
              some true
def w_eqEntryS_u1 (k : Nat) (a0 : List TEntry) (a1 : List TEntry) : Nat → Int → Option (Unit ⊕ Bool)
  | 0, _ => none
  | n_ + 1, x1 =>
    if (decide (x1 < (a0.length : Int))) then
      (at? a0 x1).bind fun x2 =>
      (at? a1 x1).bind fun x3 =>
      (w_eqEntry k x2 x3).bind fun x4 =>
      if (!x4) then
        some (.inr false)
      else
        w_eqEntryS_u1 k a0 a1 n_ (IntKind.i64.wrap (x1 + 1))
    else
      some (.inl ())
def w_eqEntryS (k : Nat) (a0 : List TEntry) (a1 : List TEntry) : Option Bool :=
  if (!decide ((a0.length : Int) = (a1.length : Int))) then
    some false
  else
    (w_eqEntryS_u1 k a0 a1 k 0 : Option (Unit ⊕ Bool)).bind fun
      | .inl _ => (
        some true)
      | .inr z5 => (
        some z5)
def w_eqEngine (k : Nat) (a0 : TEngine) (a1 : TEngine) : Option Bool :=
  (w_eqNotebook k a0.notebook a1.notebook).bind fun x1 =>
  if (!x1) then
    some false
  else
    (w_eqWorld k a0.world a1.world).bind fun x2 =>
    if (!x2) then
      some false
    else
      (w_eqTapeS k a0.tapes a1.tapes).bind fun x3 =>
      if (!x3) then
        some false
      else
        (w_eqEntryS k a0.entries a1.entries).bind fun x4 =>
        if (!x4) then
          some false
        else
          if (!decide (a0.next = a1.next)) then
            some false
          else
            if (!decide (a0.limit = a1.limit)) then
              some false
            else
              if (!decide (a0.work = a1.work)) then
                some false
              else
                some true
def w_eqMark (a0 : TMark) (a1 : TMark) : Option Bool :=
  if (!decide (a0.x = a1.x)) then
    some false
  else
    if (!decide (a0.y = a1.y)) then
      some false
    else
      if (!decide (a0.w = a1.w)) then
        some false
      else
        if (!decide (a0.h = a1.h)) then
          some false
        else
          some true
def w_eqMarkS_u1 (a0 : List TMark) (a1 : List TMark) : Nat → Int → Option (Unit ⊕ Bool)
  | 0, _ => none
  | n_ + 1, x1 =>
    if (decide (x1 < (a0.length : Int))) then
      (at? a0 x1).bind fun x2 =>
      (at? a1 x1).bind fun x3 =>
      (w_eqMark x2 x3).bind fun x4 =>
      if (!x4) then
        some (.inr false)
      else
        w_eqMarkS_u1 a0 a1 n_ (IntKind.i64.wrap (x1 + 1))
    else
      some (.inl ())
def w_eqMarkS (k : Nat) (a0 : List TMark) (a1 : List TMark) : Option Bool :=
  if (!decide ((a0.length : Int) = (a1.length : Int))) then
    some false
  else
    (w_eqMarkS_u1 a0 a1 k 0 : Option (Unit ⊕ Bool)).bind fun
      | .inl _ => (
        some true)
      | .inr z5 => (
        some z5)
def w_eqScene (k : Nat) (a0 : TScene) (a1 : TScene) : Option Bool :=
  if (!decide (a0.w = a1.w)) then
    some false
  else
    if (!decide (a0.h = a1.h)) then
      some false
    else
      (w_eqMarkS k a0.marks a1.marks).bind fun x1 =>
      if (!x1) then
        some false
      else
        some true
end Go.Proofs.Ytmiboaogfjgkjaa
