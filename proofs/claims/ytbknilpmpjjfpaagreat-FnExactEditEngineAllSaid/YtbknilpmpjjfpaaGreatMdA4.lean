/- Functions that mirror the program's own, one each. Written by a program of mine. -/
import Derived.Test.YtbknilpmpjjfpaaGreatSx
import Derived.Test.YtbknilpmpjjfpaaGreatMdA1
import Derived.Test.YtbknilpmpjjfpaaGreatMdA3
set_option linter.unusedSimpArgs false
set_option linter.unusedVariables false
namespace Go.Proofs.YtbknilpmpjjfpaaGreat
open Go.RowKit Am
def w_eqRead (k : Nat) (a0 : TRead) (a1 : TRead) : Option Bool :=
  if (!decide (a0.kind = a1.kind)) then
    some false
  else
    if (!decide (a0.n = a1.n)) then
      some false
    else
      if (!decide (a0.time = a1.time)) then
        some false
      else
        if (!decide (a0.text = a1.text)) then
          some false
        else
          (w_eqValue k a0.result a1.result).bind fun x1 =>
          if (!x1) then
            some false
          else
            some true
def w_eqReadS_u1 (k : Nat) (a0 : List TRead) (a1 : List TRead) : Nat → Int → Option (Unit ⊕ Bool)
  | 0, _ => none
  | n_ + 1, x1 =>
    if (decide (x1 < (a0.length : Int))) then
      (at? a0 x1).bind fun x2 =>
      (at? a1 x1).bind fun x3 =>
      (w_eqRead k x2 x3).bind fun x4 =>
      if (!x4) then
        some (.inr false)
      else
        w_eqReadS_u1 k a0 a1 n_ (IntKind.i64.wrap (x1 + 1))
    else
      some (.inl ())
def w_eqReadS (k : Nat) (a0 : List TRead) (a1 : List TRead) : Option Bool :=
  if (!decide ((a0.length : Int) = (a1.length : Int))) then
    some false
  else
    (w_eqReadS_u1 k a0 a1 k 0 : Option (Unit ⊕ Bool)).bind fun
      | .inl _ => (
        some true)
      | .inr z5 => (
        some z5)
def w_eqTape (k : Nat) (a0 : TTape) (a1 : TTape) : Option Bool :=
  if (!decide (a0.cell = a1.cell)) then
    some false
  else
    if (!decide (a0.version = a1.version)) then
      some false
    else
      (w_eqReadS k a0.reads a1.reads).bind fun x1 =>
      if (!x1) then
        some false
      else
        some true
def w_eqTapeS_u1 (k : Nat) (a0 : List TTape) (a1 : List TTape) : Nat → Int → Option (Unit ⊕ Bool)
  | 0, _ => none
  | n_ + 1, x1 =>
    if (decide (x1 < (a0.length : Int))) then
      (at? a0 x1).bind fun x2 =>
      (at? a1 x1).bind fun x3 =>
      (w_eqTape k x2 x3).bind fun x4 =>
      if (!x4) then
        some (.inr false)
      else
        w_eqTapeS_u1 k a0 a1 n_ (IntKind.i64.wrap (x1 + 1))
    else
      some (.inl ())
def w_eqTapeS (k : Nat) (a0 : List TTape) (a1 : List TTape) : Option Bool :=
  if (!decide ((a0.length : Int) = (a1.length : Int))) then
    some false
  else
    (w_eqTapeS_u1 k a0 a1 k 0 : Option (Unit ⊕ Bool)).bind fun
      | .inl _ => (
        some true)
      | .inr z5 => (
        some z5)
def w_eqEntry (k : Nat) (a0 : TEntry) (a1 : TEntry) : Option Bool :=
  if (!decide (a0.cell = a1.cell)) then
    some false
  else
    if (!decide (a0.version = a1.version)) then
      some false
    else
      if (!decide (a0.stamp = a1.stamp)) then
        some false
      else
        (w_eqIntS k a0.inputs a1.inputs).bind fun x1 =>
        if (!x1) then
          some false
        else
          (w_eqValue k a0.value a1.value).bind fun x2 =>
          if (!x2) then
            some false
          else
            if (!(a0.has == a1.has)) then
              some false
            else
              some true
def w_eqEntryS_u1 (k : Nat) (a0 : List TEntry) (a1 : List TEntry) : Nat → Int → Option (Unit ⊕ Bool)
  | 0, _ => none
  | n_ + 1, x1 =>
    if (decide (x1 < (a0.length : Int))) then
      (at? a0 x1).bind fun x2 =>
      (at? a1 x1).bind fun x3 =>
      (w_eqEntry k x2 x3).bind fun x4 =>
      if (!x4) then
        some (.inr false)
      else
        w_eqEntryS_u1 k a0 a1 n_ (IntKind.i64.wrap (x1 + 1))
    else
      some (.inl ())
def w_eqEntryS (k : Nat) (a0 : List TEntry) (a1 : List TEntry) : Option Bool :=
  if (!decide ((a0.length : Int) = (a1.length : Int))) then
    some false
  else
    (w_eqEntryS_u1 k a0 a1 k 0 : Option (Unit ⊕ Bool)).bind fun
      | .inl _ => (
        some true)
      | .inr z5 => (
        some z5)
def w_eqEngine (k : Nat) (a0 : TEngine) (a1 : TEngine) : Option Bool :=
  (w_eqNotebook k a0.notebook a1.notebook).bind fun x1 =>
  if (!x1) then
    some false
  else
    (w_eqWorld k a0.world a1.world).bind fun x2 =>
    if (!x2) then
      some false
    else
      (w_eqTapeS k a0.tapes a1.tapes).bind fun x3 =>
      if (!x3) then
        some false
      else
        (w_eqEntryS k a0.entries a1.entries).bind fun x4 =>
        if (!x4) then
          some false
        else
          if (!decide (a0.next = a1.next)) then
            some false
          else
            if (!decide (a0.limit = a1.limit)) then
              some false
            else
              if (!decide (a0.work = a1.work)) then
                some false
              else
                some true
def w_szEditS_u1 (a0 : List TEdit) : Nat → Int → Int → Option (Int ⊕ Int)
  | 0, _, _ => none
  | n_ + 1, x2, x3 =>
    if (decide (x3 < (a0.length : Int))) then
      (at? a0 x3).bind fun x4 =>
      (w_szEdit x4 x2).bind fun x5 =>
      if (decide (x5 < 0)) then
        some (.inr (-1))
      else
        w_szEditS_u1 a0 n_ x5 (IntKind.i64.wrap (x3 + 1))
    else
      some (.inl x2)
def w_szEditS (k : Nat) (a0 : List TEdit) (a1 : Int) : Option Int :=
  if (decide ((IntKind.i64.wrap (a1 - (a0.length : Int))) < 0)) then
    some (-1)
  else
    (w_szEditS_u1 a0 k (IntKind.i64.wrap (a1 - (a0.length : Int))) 0 : Option (Int ⊕ Int)).bind fun
      | .inl x1 => (
        some x1)
      | .inr z6 => (
        some z6)
def w_toEditS_u1 (a0 : List TEdit) : Nat → (List TEdit) → Int → Option (List TEdit)
  | 0, _, _ => none
  | n_ + 1, x3, x4 =>
    if (decide (x4 < (a0.length : Int))) then
      (at? a0 x4).bind fun x5 =>
      (w_toEdit x5).bind fun x6 =>
      (at? x3 x4).bind fun x7 =>
      w_toEditS_u1 a0 n_ (x3.set x4.toNat x6) (IntKind.i64.wrap (x4 + 1))
    else
      some x3
def w_toEditS (k : Nat) (a0 : List TEdit) : Option (List TEdit) :=
  (mk? 80 (a0.length : Int)).bind fun x1 =>
  (w_toEditS_u1 a0 k (List.replicate x1 (TEdit.mk 0 0 (TCell.mk 0 0 0 (⟨#[]⟩ : ByteArray) (⟨#[]⟩ : ByteArray) 0))) 0).bind fun x2 =>
  some x2
def w_eqEdit (a0 : TEdit) (a1 : TEdit) : Option Bool :=
  if (!decide (a0.kind = a1.kind)) then
    some false
  else
    if (!decide (a0.at_ = a1.at_)) then
      some false
    else
      (w_eqCell a0.cell a1.cell).bind fun x1 =>
      if (!x1) then
        some false
      else
        some true
def w_eqEditS_u1 (a0 : List TEdit) (a1 : List TEdit) : Nat → Int → Option (Unit ⊕ Bool)
  | 0, _ => none
  | n_ + 1, x1 =>
    if (decide (x1 < (a0.length : Int))) then
      (at? a0 x1).bind fun x2 =>
      (at? a1 x1).bind fun x3 =>
      (w_eqEdit x2 x3).bind fun x4 =>
      if (!x4) then
        some (.inr false)
      else
        w_eqEditS_u1 a0 a1 n_ (IntKind.i64.wrap (x1 + 1))
    else
      some (.inl ())
def w_eqEditS (k : Nat) (a0 : List TEdit) (a1 : List TEdit) : Option Bool :=
  if (!decide ((a0.length : Int) = (a1.length : Int))) then
    some false
  else
    (w_eqEditS_u1 a0 a1 k 0 : Option (Unit ⊕ Bool)).bind fun
      | .inl _ => (
        some true)
      | .inr z5 => (
        some z5)
end Go.Proofs.YtbknilpmpjjfpaaGreat
