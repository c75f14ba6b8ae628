/- Functions that mirror the program's own, one each. Written by a program of mine. -/
import Derived.Test.YtmiboaogfjgkjaaGreatSx
set_option linter.unusedSimpArgs false
set_option linter.unusedVariables false
namespace Go.Proofs.YtmiboaogfjgkjaaGreat
open Go.RowKit Am

def s_l17Copy (a0 : TNotebook) : Option TNotebook :=
  (app? 64 ([] : List TCell) a0.cells).bind fun x1 =>
  some (TNotebook.mk x1)
def s_l14Copy (a0 : TWorld) : Option TWorld :=
  (app? 24 ([] : List TFile) a0.files).bind fun x1 =>
  some (TWorld.mk a0.clock a0.seed x1)
def s_l3Row (a0 : TRow) : Option TRow :=
  (app? 8 ([] : List Int) a0.cells).bind fun x1 =>
  (app? 16 ([] : List TOrigin) a0.from_).bind fun x2 =>
  some (TRow.mk x1 x2)
def s_l3Copy_u1 (rec_s_l3Copy : TValue → Option TValue) (a0 : TValue) : Nat → (List TValue) → Int → Option (List TValue)
  | 0, _, _ => none
  | n_ + 1, x3, x4 =>
    if (decide (x4 < (a0.list.length : Int))) then
      (at? a0.list x4).bind fun x5 =>
      (rec_s_l3Copy x5).bind fun x6 =>
      (app? 112 x3 [x6]).bind fun x7 =>
      s_l3Copy_u1 rec_s_l3Copy a0 n_ x7 (IntKind.i64.wrap (x4 + 1))
    else
      some x3
def s_l3Copy_u2 (a0 : TValue) : Nat → (List TRow) → Int → Option (List TRow)
  | 0, _, _ => none
  | n_ + 1, x9, x10 =>
    if (decide (x10 < (a0.rows.length : Int))) then
      (at? a0.rows x10).bind fun x11 =>
      (s_l3Row x11).bind fun x12 =>
      (app? 48 x9 [x12]).bind fun x13 =>
      s_l3Copy_u2 a0 n_ x13 (IntKind.i64.wrap (x10 + 1))
    else
      some x9
def s_l3Copy : Nat → TValue → Option TValue
  | 0, _ => none
  | k + 1, a0 =>
    (app? 16 ([] : List ByteArray) a0.columns).bind fun x1 =>
    (s_l3Copy_u1 (s_l3Copy k) a0 k [] 0).bind fun x2 =>
    (s_l3Copy_u2 a0 k [] 0).bind fun x8 =>
    some (TValue.mk a0.kind a0.n a0.step a0.text x2 x1 x8)
def s_l16Read (k : Nat) (a0 : TRead) : Option TRead :=
  (s_l3Copy k a0.result).bind fun x1 =>
  some (TRead.mk a0.kind a0.n a0.time a0.text x1)
def s_l16Reads_u1 (k : Nat) (a0 : List TRead) : Nat → (List TRead) → Int → Option (List TRead)
  | 0, _, _ => none
  | n_ + 1, x2, x3 =>
    if (decide (x3 < (a0.length : Int))) then
      (at? a0 x3).bind fun x4 =>
      (s_l16Read k x4).bind fun x5 =>
      (app? 152 x2 [x5]).bind fun x6 =>
      s_l16Reads_u1 k a0 n_ x6 (IntKind.i64.wrap (x3 + 1))
    else
      some x2
def s_l16Reads (k : Nat) (a0 : List TRead) : Option (List TRead) :=
  (s_l16Reads_u1 k a0 k ([] : List TRead) 0).bind fun x1 =>
  some x1
def s_l26Copy_u1 (k : Nat) (a0 : List TTape) : Nat → (List TTape) → Int → Option (List TTape)
  | 0, _, _ => none
  | n_ + 1, x2, x3 =>
    if (decide (x3 < (a0.length : Int))) then
      (at? a0 x3).bind fun x4 =>
      (s_l16Reads k x4.reads).bind fun x5 =>
      (app? 40 x2 [(TTape.mk x4.cell x4.version x5)]).bind fun x6 =>
      s_l26Copy_u1 k a0 n_ x6 (IntKind.i64.wrap (x3 + 1))
    else
      some x2
def s_l26Copy (k : Nat) (a0 : List TTape) : Option (List TTape) :=
  (s_l26Copy_u1 k a0 k ([] : List TTape) 0).bind fun x1 =>
  some x1
def s_l28Entry (k : Nat) (a0 : TEntry) : Option TEntry :=
  (app? 8 ([] : List Int) a0.inputs).bind fun x1 =>
  (s_l3Copy k a0.value).bind fun x2 =>
  some (TEntry.mk a0.cell a0.version a0.stamp x1 x2 a0.has)
def s_l28Copy_u1 (k : Nat) (a0 : TEngine) : Nat → (List TEntry) → Int → Option (List TEntry)
  | 0, _, _ => none
  | n_ + 1, x5, x6 =>
    if (decide (x6 < (a0.entries.length : Int))) then
      (at? a0.entries x6).bind fun x7 =>
      (s_l28Entry k x7).bind fun x8 =>
      (app? 168 x5 [x8]).bind fun x9 =>
      s_l28Copy_u1 k a0 n_ x9 (IntKind.i64.wrap (x6 + 1))
    else
      some x5
def s_l28Copy (k : Nat) (a0 : TEngine) : Option TEngine :=
  (s_l17Copy a0.notebook).bind fun x1 =>
  (s_l14Copy a0.world).bind fun x2 =>
  (s_l26Copy k a0.tapes).bind fun x3 =>
  (s_l28Copy_u1 k a0 k [] 0).bind fun x4 =>
  some (TEngine.mk x1 x2 x3 x4 a0.next a0.limit a0.work)
def s_l1In (a0 : Int) (a1 : Int) (a2 : Int) : Option Bool :=
  (if (decide (a1 ≤ a0)) then
    some (decide (a0 ≤ a2))
  else
    some false).bind fun x1 =>
  some x1
def s_l2Shape_u1 (a0 : ByteArray) : Nat → Int → Option (Unit ⊕ Bool)
  | 0, _ => none
  | n_ + 1, x1 =>
    if (decide (x1 < (a0.size : Int))) then
      ((at? a0.data.toList x1).bind fun x3 =>
      if (decide (97 ≤ (x3.toNat : Int))) then
        some (decide ((x3.toNat : Int) ≤ 122))
      else
        some false).bind fun x2 =>
      ((at? a0.data.toList x1).bind fun x5 =>
      if (decide (48 ≤ (x5.toNat : Int))) then
        some (decide ((x5.toNat : Int) ≤ 57))
      else
        some false).bind fun x4 =>
      (if (!x2) then
        if (decide (x1 = 0)) then
          some true
        else
          some (!x4)
      else
        some false).bind fun x6 =>
      if x6 then
        some (.inr false)
      else
        s_l2Shape_u1 a0 n_ (IntKind.i64.wrap (x1 + 1))
    else
      some (.inl ())
def s_l2Shape (k : Nat) (a0 : ByteArray) : Option Bool :=
  (s_l2Shape_u1 a0 k 0 : Option (Unit ⊕ Bool)).bind fun
    | .inl _ => (
      some (decide (0 < (a0.size : Int))))
    | .inr z7 => (
      some z7)
def s_l2Reserved : Option (List ByteArray) :=
  some [(⟨#[108, 101, 116]⟩ : ByteArray), (⟨#[105, 110]⟩ : ByteArray), (⟨#[105, 102]⟩ : ByteArray), (⟨#[116, 104, 101, 110]⟩ : ByteArray), (⟨#[101, 108, 115, 101]⟩ : ByteArray), (⟨#[102, 111, 114]⟩ : ByteArray), (⟨#[100, 111]⟩ : ByteArray), (⟨#[108, 101, 110]⟩ : ByteArray), (⟨#[115, 117, 109]⟩ : ByteArray), (⟨#[116, 97, 107, 101]⟩ : ByteArray), (⟨#[115, 107, 105, 112]⟩ : ByteArray), (⟨#[114, 97, 110, 103, 101]⟩ : ByteArray), (⟨#[110, 116, 104]⟩ : ByteArray), (⟨#[119, 104, 101, 114, 101]⟩ : ByteArray), (⟨#[107, 101, 101, 112]⟩ : ByteArray), (⟨#[97, 100, 100]⟩ : ByteArray), (⟨#[103, 114, 111, 117, 112]⟩ : ByteArray), (⟨#[106, 111, 105, 110]⟩ : ByteArray), (⟨#[99, 111, 108, 117, 109, 110]⟩ : ByteArray), (⟨#[114, 111, 119, 115]⟩ : ByteArray), (⟨#[99, 108, 111, 99, 107]⟩ : ByteArray), (⟨#[99, 104, 97, 110, 99, 101]⟩ : ByteArray), (⟨#[102, 105, 108, 101]⟩ : ByteArray), (⟨#[116, 97, 98, 108, 101]⟩ : ByteArray)]
def s_l1Has_u1 (a0 : List ByteArray) (a1 : ByteArray) : Nat → Int → Option (Unit ⊕ Bool)
  | 0, _ => none
  | n_ + 1, x1 =>
    if (decide (x1 < (a0.length : Int))) then
      (at? a0 x1).bind fun x2 =>
      if (decide (x2 = a1)) then
        some (.inr true)
      else
        s_l1Has_u1 a0 a1 n_ (IntKind.i64.wrap (x1 + 1))
    else
      some (.inl ())
def s_l1Has (k : Nat) (a0 : List ByteArray) (a1 : ByteArray) : Option Bool :=
  (s_l1Has_u1 a0 a1 k 0 : Option (Unit ⊕ Bool)).bind fun
    | .inl _ => (
      some false)
    | .inr z3 => (
      some z3)
def s_IsReserved (k : Nat) (a0 : ByteArray) : Option Bool :=
  (s_l2Reserved).bind fun x1 =>
  (s_l1Has k x1 a0).bind fun x2 =>
  some x2
end Go.Proofs.YtmiboaogfjgkjaaGreat
