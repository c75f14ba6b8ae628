/- Functions that mirror the program's own, one each. Written by a program of mine. -/
import Derived.Test.YtmiboaogfjgkjaaGreatSx
import Derived.Test.YtmiboaogfjgkjaaGreatMd0
set_option linter.unusedSimpArgs false
set_option linter.unusedVariables false
namespace Go.Proofs.YtmiboaogfjgkjaaGreat
open Go.RowKit Am

def s_IsValidName (k : Nat) (a0 : ByteArray) : Option Bool :=
  ((s_l2Shape k a0).bind fun x2 =>
  if x2 then
    if (decide ((a0.size : Int) ≤ 8)) then
      (s_IsReserved k a0).bind fun x3 =>
      some (!x3)
    else
      some false
  else
    some false).bind fun x1 =>
  some x1
def s_l3Number (a0 : Int) : Option Bool :=
  (s_l1In a0 (-1000000000) 1000000000).bind fun x1 =>
  some x1
def s_l14Files_u1 (k : Nat) (a0 : List TFile) : Nat → Int → Option (Unit ⊕ Bool)
  | 0, _ => none
  | n_ + 1, x1 =>
    if (decide (x1 < (a0.length : Int))) then
      ((at? a0 x1).bind fun x3 =>
      (s_IsValidName k x3.name).bind fun x4 =>
      if (!x4) then
        some true
      else
        (s_l3Number x3.n).bind fun x5 =>
        if (!x5) then
          some true
        else
          if (decide (0 < x1)) then
            (at? a0 (IntKind.i64.wrap (x1 - 1))).bind fun x6 =>
            some (!sLess x6.name x3.name)
          else
            some false).bind fun x2 =>
      if x2 then
        some (.inr false)
      else
        s_l14Files_u1 k a0 n_ (IntKind.i64.wrap (x1 + 1))
    else
      some (.inl ())
def s_l14Files (k : Nat) (a0 : List TFile) : Option Bool :=
  (s_l14Files_u1 k a0 k 0 : Option (Unit ⊕ Bool)).bind fun
    | .inl _ => (
      some (decide ((a0.length : Int) ≤ 4)))
    | .inr z7 => (
      some z7)
def s_IsValidWorld (k : Nat) (a0 : TWorld) : Option Bool :=
  ((s_l1In a0.clock 0 1000).bind fun x2 =>
  if x2 then
    (s_l1In a0.seed 0 1000000).bind fun x3 =>
    if x3 then
      (s_l14Files k a0.files).bind fun x4 =>
      some x4
    else
      some false
  else
    some false).bind fun x1 =>
  some x1
def s_AdvanceWorld (k : Nat) (a0 : TEngine) (a1 : TWorld) : Option (TEngine × Bool) :=
  (s_l28Copy k a0).bind fun x1 =>
  (s_IsValidWorld k a1).bind fun x2 =>
  if (!x2) then
    some (x1, false)
  else
    (s_l14Copy a1).bind fun x3 =>
    some ((TEngine.mk x1.notebook x3 x1.tapes x1.entries x1.next x1.limit x1.work), true)
def i_copyNotebook (a0 : TNotebook) : Option TNotebook :=
  (app? 64 ([] : List TCell) a0.cells).bind fun x1 =>
  some (TNotebook.mk x1)
def i_copyWorld (a0 : TWorld) : Option TWorld :=
  (app? 24 ([] : List TFile) a0.files).bind fun x1 =>
  some (TWorld.mk a0.clock a0.seed x1)
def i_copyRow (a0 : TRow) : Option TRow :=
  (app? 8 ([] : List Int) a0.cells).bind fun x1 =>
  (app? 16 ([] : List TOrigin) a0.from_).bind fun x2 =>
  some (TRow.mk x1 x2)
def i_copyValues_u1 (rec_i_copyValue : TValue → Option TValue) (a0 : List TValue) : Nat → (List TValue) → Int → Option (List TValue)
  | 0, _, _ => none
  | n_ + 1, x2, x3 =>
    if (decide (x3 < (a0.length : Int))) then
      (at? a0 x3).bind fun x4 =>
      (rec_i_copyValue x4).bind fun x5 =>
      (app? 112 x2 [x5]).bind fun x6 =>
      i_copyValues_u1 rec_i_copyValue a0 n_ x6 (IntKind.i64.wrap (x3 + 1))
    else
      some x2
def i_copyValue_u1 (a0 : TValue) : Nat → (List TRow) → Int → Option (List TRow)
  | 0, _, _ => none
  | n_ + 1, x4, x5 =>
    if (decide (x5 < (a0.rows.length : Int))) then
      (at? a0.rows x5).bind fun x6 =>
      (i_copyRow x6).bind fun x7 =>
      (app? 48 x4 [x7]).bind fun x8 =>
      i_copyValue_u1 a0 n_ x8 (IntKind.i64.wrap (x5 + 1))
    else
      some x4
mutual
def i_copyValues : Nat → (List TValue) → Option (List TValue)
  | 0, _ => none
  | k + 1, a0 =>
    (i_copyValues_u1 (i_copyValue k) a0 k ([] : List TValue) 0).bind fun x1 =>
    some x1
def i_copyValue : Nat → TValue → Option TValue
  | 0, _ => none
  | k + 1, a0 =>
    (i_copyValues k a0.list).bind fun x1 =>
    (app? 16 ([] : List ByteArray) a0.columns).bind fun x2 =>
    (i_copyValue_u1 a0 k [] 0).bind fun x3 =>
    some (TValue.mk a0.kind a0.n a0.step a0.text x1 x2 x3)
end

def i_copyReads_u1 (k : Nat) (a0 : List TRead) : Nat → (List TRead) → Int → Option (List TRead)
  | 0, _, _ => none
  | n_ + 1, x2, x3 =>
    if (decide (x3 < (a0.length : Int))) then
      (at? a0 x3).bind fun x4 =>
      (i_copyValue k x4.result).bind fun x5 =>
      (app? 152 x2 [(TRead.mk x4.kind x4.n x4.time x4.text x5)]).bind fun x6 =>
      i_copyReads_u1 k a0 n_ x6 (IntKind.i64.wrap (x3 + 1))
    else
      some x2
def i_copyReads (k : Nat) (a0 : List TRead) : Option (List TRead) :=
  (i_copyReads_u1 k a0 k ([] : List TRead) 0).bind fun x1 =>
  some x1
def i_copyTapes_u1 (k : Nat) (a0 : List TTape) : Nat → (List TTape) → Int → Option (List TTape)
  | 0, _, _ => none
  | n_ + 1, x2, x3 =>
    if (decide (x3 < (a0.length : Int))) then
      (at? a0 x3).bind fun x4 =>
      (i_copyReads k x4.reads).bind fun x5 =>
      (app? 40 x2 [(TTape.mk x4.cell x4.version x5)]).bind fun x6 =>
      i_copyTapes_u1 k a0 n_ x6 (IntKind.i64.wrap (x3 + 1))
    else
      some x2
def i_copyTapes (k : Nat) (a0 : List TTape) : Option (List TTape) :=
  (i_copyTapes_u1 k a0 k ([] : List TTape) 0).bind fun x1 =>
  some x1
def i_copyEngine_u1 (k : Nat) (a0 : TEngine) : Nat → (List TEntry) → Int → Option (List TEntry)
  | 0, _, _ => none
  | n_ + 1, x5, x6 =>
    if (decide (x6 < (a0.entries.length : Int))) then
      (at? a0.entries x6).bind fun x7 =>
      (app? 8 ([] : List Int) x7.inputs).bind fun x8 =>
      (i_copyValue k x7.value).bind fun x9 =>
      (app? 168 x5 [(TEntry.mk x7.cell x7.version x7.stamp x8 x9 x7.has)]).bind fun x10 =>
      i_copyEngine_u1 k a0 n_ x10 (IntKind.i64.wrap (x6 + 1))
    else
      some x5
def i_copyEngine (k : Nat) (a0 : TEngine) : Option TEngine :=
  (i_copyNotebook a0.notebook).bind fun x1 =>
  (i_copyWorld a0.world).bind fun x2 =>
  (i_copyTapes k a0.tapes).bind fun x3 =>
  (i_copyEngine_u1 k a0 k [] 0).bind fun x4 =>
  some (TEngine.mk x1 x2 x3 x4 a0.next a0.limit a0.work)
def i_within (a0 : Int) (a1 : Int) (a2 : Int) : Option Bool :=
  (if (decide (a1 ≤ a0)) then
    some (decide (a0 ≤ a2))
  else
    some false).bind fun x1 =>
  some x1
end Go.Proofs.YtmiboaogfjgkjaaGreat
