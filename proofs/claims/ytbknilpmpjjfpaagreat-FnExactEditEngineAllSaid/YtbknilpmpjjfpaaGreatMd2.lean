/- Functions that mirror the program's own, one each. Written by a program of mine. -/
import Derived.Test.YtbknilpmpjjfpaaGreatSx
import Derived.Test.YtbknilpmpjjfpaaGreatMd1
set_option linter.unusedSimpArgs false
set_option linter.unusedVariables false
namespace Go.Proofs.YtbknilpmpjjfpaaGreat
open Go.RowKit Am
def i_copyRow (a0 : TRow) : Option TRow :=
  (app? 8 ([] : List Int) a0.cells).bind fun x1 =>
  (app? 16 ([] : List TOrigin) a0.from_).bind fun x2 =>
  some (TRow.mk x1 x2)
def i_copyValues_u1 (rec_i_copyValue : TValue → Option TValue) (a0 : List TValue) : Nat → (List TValue) → Int → Option (List TValue)
  | 0, _, _ => none
  | n_ + 1, x2, x3 =>
    if (decide (x3 < (a0.length : Int))) then
      (at? a0 x3).bind fun x4 =>
      (rec_i_copyValue x4).bind fun x5 =>
      (app? 112 x2 [x5]).bind fun x6 =>
      i_copyValues_u1 rec_i_copyValue a0 n_ x6 (IntKind.i64.wrap (x3 + 1))
    else
      some x2
def i_copyValue_u1 (a0 : TValue) : Nat → (List TRow) → Int → Option (List TRow)
  | 0, _, _ => none
  | n_ + 1, x4, x5 =>
    if (decide (x5 < (a0.rows.length : Int))) then
      (at? a0.rows x5).bind fun x6 =>
      (i_copyRow x6).bind fun x7 =>
      (app? 48 x4 [x7]).bind fun x8 =>
      i_copyValue_u1 a0 n_ x8 (IntKind.i64.wrap (x5 + 1))
    else
      some x4
mutual
def i_copyValues : Nat → (List TValue) → Option (List TValue)
  | 0, _ => none
  | k + 1, a0 =>
    (i_copyValues_u1 (i_copyValue k) a0 k ([] : List TValue) 0).bind fun x1 =>
    some x1
def i_copyValue : Nat → TValue → Option TValue
  | 0, _ => none
  | k + 1, a0 =>
    (i_copyValues k a0.list).bind fun x1 =>
    (app? 16 ([] : List ByteArray) a0.columns).bind fun x2 =>
    (i_copyValue_u1 a0 k [] 0).bind fun x3 =>
    some (TValue.mk a0.kind a0.n a0.step a0.text x1 x2 x3)
end
def i_copyReads_u1 (k : Nat) (a0 : List TRead) : Nat → (List TRead) → Int → Option (List TRead)
  | 0, _, _ => none
  | n_ + 1, x2, x3 =>
    if (decide (x3 < (a0.length : Int))) then
      (at? a0 x3).bind fun x4 =>
      (i_copyValue k x4.result).bind fun x5 =>
      (app? 152 x2 [(TRead.mk x4.kind x4.n x4.time x4.text x5)]).bind fun x6 =>
      i_copyReads_u1 k a0 n_ x6 (IntKind.i64.wrap (x3 + 1))
    else
      some x2
def i_copyReads (k : Nat) (a0 : List TRead) : Option (List TRead) :=
  (i_copyReads_u1 k a0 k ([] : List TRead) 0).bind fun x1 =>
  some x1
def i_copyTapes_u1 (k : Nat) (a0 : List TTape) : Nat → (List TTape) → Int → Option (List TTape)
  | 0, _, _ => none
  | n_ + 1, x2, x3 =>
    if (decide (x3 < (a0.length : Int))) then
      (at? a0 x3).bind fun x4 =>
      (i_copyReads k x4.reads).bind fun x5 =>
      (app? 40 x2 [(TTape.mk x4.cell x4.version x5)]).bind fun x6 =>
      i_copyTapes_u1 k a0 n_ x6 (IntKind.i64.wrap (x3 + 1))
    else
      some x2
def i_copyTapes (k : Nat) (a0 : List TTape) : Option (List TTape) :=
  (i_copyTapes_u1 k a0 k ([] : List TTape) 0).bind fun x1 =>
  some x1
def i_copyEngine_u1 (k : Nat) (a0 : TEngine) : Nat → (List TEntry) → Int → Option (List TEntry)
  | 0, _, _ => none
  | n_ + 1, x5, x6 =>
    if (decide (x6 < (a0.entries.length : Int))) then
      (at? a0.entries x6).bind fun x7 =>
      (app? 8 ([] : List Int) x7.inputs).bind fun x8 =>
      (i_copyValue k x7.value).bind fun x9 =>
      (app? 168 x5 [(TEntry.mk x7.cell x7.version x7.stamp x8 x9 x7.has)]).bind fun x10 =>
      i_copyEngine_u1 k a0 n_ x10 (IntKind.i64.wrap (x6 + 1))
    else
      some x5
def i_copyEngine (k : Nat) (a0 : TEngine) : Option TEngine :=
  (i_copyNotebook a0.notebook).bind fun x1 =>
  (i_copyWorld a0.world).bind fun x2 =>
  (i_copyTapes k a0.tapes).bind fun x3 =>
  (i_copyEngine_u1 k a0 k [] 0).bind fun x4 =>
  some (TEngine.mk x1 x2 x3 x4 a0.next a0.limit a0.work)
def i_within (a0 : Int) (a1 : Int) (a2 : Int) : Option Bool :=
  (if (decide (a1 ≤ a0)) then
    some (decide (a0 ≤ a2))
  else
    some false).bind fun x1 =>
  some x1
def i_IsPrintable_u1 (a0 : ByteArray) : Nat → Int → Option (Unit ⊕ Bool)
  | 0, _ => none
  | n_ + 1, x1 =>
    if (decide (x1 < (a0.size : Int))) then
      ((at? a0.data.toList x1).bind fun x3 =>
      if (decide ((x3.toNat : Int) < 32)) then
        some true
      else
        some (decide (126 < (x3.toNat : Int)))).bind fun x2 =>
      if x2 then
        some (.inr false)
      else
        i_IsPrintable_u1 a0 n_ (IntKind.i64.wrap (x1 + 1))
    else
      some (.inl ())
def i_IsPrintable (k : Nat) (a0 : ByteArray) : Option Bool :=
  (i_IsPrintable_u1 a0 k 0 : Option (Unit ⊕ Bool)).bind fun
    | .inl _ => (
      some (decide ((a0.size : Int) ≤ 120)))
    | .inr z4 => (
      some z4)
def i_isWord_u1 (a0 : ByteArray) : Nat → Int → Option (Unit ⊕ Bool)
  | 0, _ => none
  | n_ + 1, x1 =>
    if (decide (x1 < (a0.size : Int))) then
      ((at? a0.data.toList x1).bind fun x3 =>
      if (decide (97 ≤ (x3.toNat : Int))) then
        some (decide ((x3.toNat : Int) ≤ 122))
      else
        some false).bind fun x2 =>
      (if (!x2) then
        if (decide (x1 = 0)) then
          some true
        else
          (at? a0.data.toList x1).bind fun x5 =>
          if (decide ((x5.toNat : Int) < 48)) then
            some true
          else
            some (decide (57 < (x5.toNat : Int)))
      else
        some false).bind fun x4 =>
      if x4 then
        some (.inr false)
      else
        i_isWord_u1 a0 n_ (IntKind.i64.wrap (x1 + 1))
    else
      some (.inl ())
def i_isWord (k : Nat) (a0 : ByteArray) : Option Bool :=
  (i_isWord_u1 a0 k 0 : Option (Unit ⊕ Bool)).bind fun
    | .inl _ => (
      (i_within (a0.size : Int) 1 8).bind fun x6 =>
      some x6)
    | .inr z7 => (
      some z7)
def i_ArgumentCount (a0 : ByteArray) : Option Int :=
  if (decide (a0 = (⟨#[99, 108, 111, 99, 107]⟩ : ByteArray))) then
    some 0
  else
    (if (decide (a0 = (⟨#[108, 101, 110]⟩ : ByteArray))) then
      some true
    else
      if (decide (a0 = (⟨#[115, 117, 109]⟩ : ByteArray))) then
        some true
      else
        if (decide (a0 = (⟨#[114, 111, 119, 115]⟩ : ByteArray))) then
          some true
        else
          if (decide (a0 = (⟨#[99, 104, 97, 110, 99, 101]⟩ : ByteArray))) then
            some true
          else
            some (decide (a0 = (⟨#[102, 105, 108, 101]⟩ : ByteArray)))).bind fun x1 =>
    if x1 then
      some 1
    else
      (if (decide (a0 = (⟨#[116, 97, 107, 101]⟩ : ByteArray))) then
        some true
      else
        if (decide (a0 = (⟨#[115, 107, 105, 112]⟩ : ByteArray))) then
          some true
        else
          if (decide (a0 = (⟨#[114, 97, 110, 103, 101]⟩ : ByteArray))) then
            some true
          else
            if (decide (a0 = (⟨#[110, 116, 104]⟩ : ByteArray))) then
              some true
            else
              if (decide (a0 = (⟨#[107, 101, 101, 112]⟩ : ByteArray))) then
                some true
              else
                if (decide (a0 = (⟨#[99, 111, 108, 117, 109, 110]⟩ : ByteArray))) then
                  some true
                else
                  some (decide (a0 = (⟨#[116, 97, 98, 108, 101]⟩ : ByteArray)))).bind fun x2 =>
      if x2 then
        some 2
      else
        (if (decide (a0 = (⟨#[119, 104, 101, 114, 101]⟩ : ByteArray))) then
          some true
        else
          if (decide (a0 = (⟨#[103, 114, 111, 117, 112]⟩ : ByteArray))) then
            some true
          else
            some (decide (a0 = (⟨#[106, 111, 105, 110]⟩ : ByteArray)))).bind fun x3 =>
        if x3 then
          some 3
        else
          if (decide (a0 = (⟨#[97, 100, 100]⟩ : ByteArray))) then
            some 4
          else
            some (-1)
def i_IsReserved (a0 : ByteArray) : Option Bool :=
  (if (decide (a0 = (⟨#[108, 101, 116]⟩ : ByteArray))) then
    some true
  else
    if (decide (a0 = (⟨#[105, 110]⟩ : ByteArray))) then
      some true
    else
      if (decide (a0 = (⟨#[105, 102]⟩ : ByteArray))) then
        some true
      else
        if (decide (a0 = (⟨#[116, 104, 101, 110]⟩ : ByteArray))) then
          some true
        else
          if (decide (a0 = (⟨#[101, 108, 115, 101]⟩ : ByteArray))) then
            some true
          else
            if (decide (a0 = (⟨#[102, 111, 114]⟩ : ByteArray))) then
              some true
            else
              some (decide (a0 = (⟨#[100, 111]⟩ : ByteArray)))).bind fun x1 =>
  if x1 then
    some true
  else
    (i_ArgumentCount a0).bind fun x2 =>
    some (decide (0 ≤ x2))
def i_IsValidName (k : Nat) (a0 : ByteArray) : Option Bool :=
  ((i_isWord k a0).bind fun x2 =>
  if x2 then
    (i_IsReserved a0).bind fun x3 =>
    some (!x3)
  else
    some false).bind fun x1 =>
  some x1
def i_IsValidCell (k : Nat) (a0 : TCell) : Option Bool :=
  ((i_within a0.id 1 999).bind fun x2 =>
  if (!x2) then
    some true
  else
    (i_within a0.version 1 999).bind fun x3 =>
    if (!x3) then
      some true
    else
      (i_IsPrintable k a0.code).bind fun x4 =>
      some (!x4)).bind fun x1 =>
  if x1 then
    some false
  else
    if (decide (a0.kind = 1)) then
      (if (decide (a0.name = (⟨#[]⟩ : ByteArray))) then
        some (decide (a0.n = 0))
      else
        some false).bind fun x5 =>
      some x5
    else
      (if (decide (a0.kind = 2)) then
        some true
      else
        some (decide (a0.kind = 4))).bind fun x6 =>
      if x6 then
        ((i_IsValidName k a0.name).bind fun x8 =>
        if x8 then
          some (decide (a0.n = 0))
        else
          some false).bind fun x7 =>
        some x7
      else
        if (decide (a0.kind = 3)) then
          ((i_IsValidName k a0.name).bind fun x10 =>
          if x10 then
            if (decide (a0.code = (⟨#[]⟩ : ByteArray))) then
              (i_within a0.n 0 100).bind fun x11 =>
              some x11
            else
              some false
          else
            some false).bind fun x9 =>
          some x9
        else
          some false
def i_CellIndex_u1 (a0 : TNotebook) (a1 : Int) : Nat → Int → Option (Unit ⊕ Int)
  | 0, _ => none
  | n_ + 1, x1 =>
    if (decide (x1 < (a0.cells.length : Int))) then
      (at? a0.cells x1).bind fun x2 =>
      if (decide (x2.id = a1)) then
        some (.inr x1)
      else
        i_CellIndex_u1 a0 a1 n_ (IntKind.i64.wrap (x1 + 1))
    else
      some (.inl ())
def i_CellIndex (k : Nat) (a0 : TNotebook) (a1 : Int) : Option Int :=
  (i_CellIndex_u1 a0 a1 k 0 : Option (Unit ⊕ Int)).bind fun
    | .inl _ => (
      some (-1))
    | .inr z3 => (
      some z3)
end Go.Proofs.YtbknilpmpjjfpaaGreat
