/- Functions that mirror the program's own, one each. Written by a program of mine. -/
import Derived.Test.YtbknilpmpjjfpaaGreatSx
import Derived.Test.YtbknilpmpjjfpaaGreatMdA1
set_option linter.unusedSimpArgs false
set_option linter.unusedVariables false
namespace Go.Proofs.YtbknilpmpjjfpaaGreat
open Go.RowKit Am
def w_toIntS_u1 (a0 : List Int) : Nat → (List Int) → Int → Option (List Int)
  | 0, _, _ => none
  | n_ + 1, x3, x4 =>
    if (decide (x4 < (a0.length : Int))) then
      (at? a0 x4).bind fun x5 =>
      (at? x3 x4).bind fun x6 =>
      w_toIntS_u1 a0 n_ (x3.set x4.toNat x5) (IntKind.i64.wrap (x4 + 1))
    else
      some x3
def w_toIntS (k : Nat) (a0 : List Int) : Option (List Int) :=
  (mk? 8 (a0.length : Int)).bind fun x1 =>
  (w_toIntS_u1 a0 k (List.replicate x1 0) 0).bind fun x2 =>
  some x2
def w_toOrigin (a0 : TOrigin) : Option TOrigin :=
  some a0
def w_toOriginS_u1 (a0 : List TOrigin) : Nat → (List TOrigin) → Int → Option (List TOrigin)
  | 0, _, _ => none
  | n_ + 1, x3, x4 =>
    if (decide (x4 < (a0.length : Int))) then
      (at? a0 x4).bind fun x5 =>
      (w_toOrigin x5).bind fun x6 =>
      (at? x3 x4).bind fun x7 =>
      w_toOriginS_u1 a0 n_ (x3.set x4.toNat x6) (IntKind.i64.wrap (x4 + 1))
    else
      some x3
def w_toOriginS (k : Nat) (a0 : List TOrigin) : Option (List TOrigin) :=
  (mk? 16 (a0.length : Int)).bind fun x1 =>
  (w_toOriginS_u1 a0 k (List.replicate x1 (TOrigin.mk 0 0)) 0).bind fun x2 =>
  some x2
def w_toRow (k : Nat) (a0 : TRow) : Option TRow :=
  (w_toIntS k a0.cells).bind fun x1 =>
  (w_toOriginS k a0.from_).bind fun x2 =>
  some (TRow.mk x1 x2)
def w_toRowS_u1 (k : Nat) (a0 : List TRow) : Nat → (List TRow) → Int → Option (List TRow)
  | 0, _, _ => none
  | n_ + 1, x3, x4 =>
    if (decide (x4 < (a0.length : Int))) then
      (at? a0 x4).bind fun x5 =>
      (w_toRow k x5).bind fun x6 =>
      (at? x3 x4).bind fun x7 =>
      w_toRowS_u1 k a0 n_ (x3.set x4.toNat x6) (IntKind.i64.wrap (x4 + 1))
    else
      some x3
def w_toRowS (k : Nat) (a0 : List TRow) : Option (List TRow) :=
  (mk? 48 (a0.length : Int)).bind fun x1 =>
  (w_toRowS_u1 k a0 k (List.replicate x1 (TRow.mk [] [])) 0).bind fun x2 =>
  some x2
def w_toValueS_u1 (rec_w_toValue : TValue → Option TValue) (a0 : List TValue) : Nat → (List TValue) → Int → Option (List TValue)
  | 0, _, _ => none
  | n_ + 1, x3, x4 =>
    if (decide (x4 < (a0.length : Int))) then
      (at? a0 x4).bind fun x5 =>
      (rec_w_toValue x5).bind fun x6 =>
      (at? x3 x4).bind fun x7 =>
      w_toValueS_u1 rec_w_toValue a0 n_ (x3.set x4.toNat x6) (IntKind.i64.wrap (x4 + 1))
    else
      some x3
mutual
def w_toValueS : Nat → (List TValue) → Option (List TValue)
  | 0, _ => none
  | k + 1, a0 =>
    (mk? 112 (a0.length : Int)).bind fun x1 =>
    (w_toValueS_u1 (w_toValue k) a0 k (List.replicate x1 (TValue.mk 0 0 0 (⟨#[]⟩ : ByteArray) [] [] [])) 0).bind fun x2 =>
    some x2
def w_toValue : Nat → TValue → Option TValue
  | 0, _ => none
  | k + 1, a0 =>
    (w_toValueS k a0.list).bind fun x1 =>
    (w_toStringS k a0.columns).bind fun x2 =>
    (w_toRowS k a0.rows).bind fun x3 =>
    some (TValue.mk a0.kind a0.n a0.step a0.text x1 x2 x3)
end
def w_toRead (k : Nat) (a0 : TRead) : Option TRead :=
  (w_toValue k a0.result).bind fun x1 =>
  some (TRead.mk a0.kind a0.n a0.time a0.text x1)
def w_toReadS_u1 (k : Nat) (a0 : List TRead) : Nat → (List TRead) → Int → Option (List TRead)
  | 0, _, _ => none
  | n_ + 1, x3, x4 =>
    if (decide (x4 < (a0.length : Int))) then
      (at? a0 x4).bind fun x5 =>
      (w_toRead k x5).bind fun x6 =>
      (at? x3 x4).bind fun x7 =>
      w_toReadS_u1 k a0 n_ (x3.set x4.toNat x6) (IntKind.i64.wrap (x4 + 1))
    else
      some x3
def w_toReadS (k : Nat) (a0 : List TRead) : Option (List TRead) :=
  (mk? 152 (a0.length : Int)).bind fun x1 =>
  (w_toReadS_u1 k a0 k (List.replicate x1 (TRead.mk 0 0 0 (⟨#[]⟩ : ByteArray) (TValue.mk 0 0 0 (⟨#[]⟩ : ByteArray) [] [] []))) 0).bind fun x2 =>
  some x2
def w_toTape (k : Nat) (a0 : TTape) : Option TTape :=
  (w_toReadS k a0.reads).bind fun x1 =>
  some (TTape.mk a0.cell a0.version x1)
def w_toTapeS_u1 (k : Nat) (a0 : List TTape) : Nat → (List TTape) → Int → Option (List TTape)
  | 0, _, _ => none
  | n_ + 1, x3, x4 =>
    if (decide (x4 < (a0.length : Int))) then
      (at? a0 x4).bind fun x5 =>
      (w_toTape k x5).bind fun x6 =>
      (at? x3 x4).bind fun x7 =>
      w_toTapeS_u1 k a0 n_ (x3.set x4.toNat x6) (IntKind.i64.wrap (x4 + 1))
    else
      some x3
def w_toTapeS (k : Nat) (a0 : List TTape) : Option (List TTape) :=
  (mk? 40 (a0.length : Int)).bind fun x1 =>
  (w_toTapeS_u1 k a0 k (List.replicate x1 (TTape.mk 0 0 [])) 0).bind fun x2 =>
  some x2
def w_toEntry (k : Nat) (a0 : TEntry) : Option TEntry :=
  (w_toIntS k a0.inputs).bind fun x1 =>
  (w_toValue k a0.value).bind fun x2 =>
  some (TEntry.mk a0.cell a0.version a0.stamp x1 x2 a0.has)
def w_toEntryS_u1 (k : Nat) (a0 : List TEntry) : Nat → (List TEntry) → Int → Option (List TEntry)
  | 0, _, _ => none
  | n_ + 1, x3, x4 =>
    if (decide (x4 < (a0.length : Int))) then
      (at? a0 x4).bind fun x5 =>
      (w_toEntry k x5).bind fun x6 =>
      (at? x3 x4).bind fun x7 =>
      w_toEntryS_u1 k a0 n_ (x3.set x4.toNat x6) (IntKind.i64.wrap (x4 + 1))
    else
      some x3
def w_toEntryS (k : Nat) (a0 : List TEntry) : Option (List TEntry) :=
  (mk? 168 (a0.length : Int)).bind fun x1 =>
  (w_toEntryS_u1 k a0 k (List.replicate x1 (TEntry.mk 0 0 0 [] (TValue.mk 0 0 0 (⟨#[]⟩ : ByteArray) [] [] []) false)) 0).bind fun x2 =>
  some x2
def w_toEngine (k : Nat) (a0 : TEngine) : Option TEngine :=
  (w_toNotebook k a0.notebook).bind fun x1 =>
  (w_toWorld k a0.world).bind fun x2 =>
  (w_toTapeS k a0.tapes).bind fun x3 =>
  (w_toEntryS k a0.entries).bind fun x4 =>
  some (TEngine.mk x1 x2 x3 x4 a0.next a0.limit a0.work)
end Go.Proofs.YtbknilpmpjjfpaaGreat
