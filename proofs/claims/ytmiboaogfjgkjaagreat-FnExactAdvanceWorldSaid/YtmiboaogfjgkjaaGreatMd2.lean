/- Functions that mirror the program's own, one each. Written by a program of mine. -/
import Derived.Test.YtmiboaogfjgkjaaGreatSx
import Derived.Test.YtmiboaogfjgkjaaGreatMd1
set_option linter.unusedSimpArgs false
set_option linter.unusedVariables false
namespace Go.Proofs.YtmiboaogfjgkjaaGreat
open Go.RowKit Am

def i_isWord_u1 (a0 : ByteArray) : Nat → Int → Option (Unit ⊕ Bool)
  | 0, _ => none
  | n_ + 1, x1 =>
    if (decide (x1 < (a0.size : Int))) then
      ((at? a0.data.toList x1).bind fun x3 =>
      if (decide (97 ≤ (x3.toNat : Int))) then
        some (decide ((x3.toNat : Int) ≤ 122))
      else
        some false).bind fun x2 =>
      (if (!x2) then
        if (decide (x1 = 0)) then
          some true
        else
          (at? a0.data.toList x1).bind fun x5 =>
          if (decide ((x5.toNat : Int) < 48)) then
            some true
          else
            some (decide (57 < (x5.toNat : Int)))
      else
        some false).bind fun x4 =>
      if x4 then
        some (.inr false)
      else
        i_isWord_u1 a0 n_ (IntKind.i64.wrap (x1 + 1))
    else
      some (.inl ())
def i_isWord (k : Nat) (a0 : ByteArray) : Option Bool :=
  (i_isWord_u1 a0 k 0 : Option (Unit ⊕ Bool)).bind fun
    | .inl _ => (
      (i_within (a0.size : Int) 1 8).bind fun x6 =>
      some x6)
    | .inr z7 => (
      some z7)
def i_ArgumentCount (a0 : ByteArray) : Option Int :=
  if (decide (a0 = (⟨#[99, 108, 111, 99, 107]⟩ : ByteArray))) then
    some 0
  else
    (if (decide (a0 = (⟨#[108, 101, 110]⟩ : ByteArray))) then
      some true
    else
      if (decide (a0 = (⟨#[115, 117, 109]⟩ : ByteArray))) then
        some true
      else
        if (decide (a0 = (⟨#[114, 111, 119, 115]⟩ : ByteArray))) then
          some true
        else
          if (decide (a0 = (⟨#[99, 104, 97, 110, 99, 101]⟩ : ByteArray))) then
            some true
          else
            some (decide (a0 = (⟨#[102, 105, 108, 101]⟩ : ByteArray)))).bind fun x1 =>
    if x1 then
      some 1
    else
      (if (decide (a0 = (⟨#[116, 97, 107, 101]⟩ : ByteArray))) then
        some true
      else
        if (decide (a0 = (⟨#[115, 107, 105, 112]⟩ : ByteArray))) then
          some true
        else
          if (decide (a0 = (⟨#[114, 97, 110, 103, 101]⟩ : ByteArray))) then
            some true
          else
            if (decide (a0 = (⟨#[110, 116, 104]⟩ : ByteArray))) then
              some true
            else
              if (decide (a0 = (⟨#[107, 101, 101, 112]⟩ : ByteArray))) then
                some true
              else
                if (decide (a0 = (⟨#[99, 111, 108, 117, 109, 110]⟩ : ByteArray))) then
                  some true
                else
                  some (decide (a0 = (⟨#[116, 97, 98, 108, 101]⟩ : ByteArray)))).bind fun x2 =>
      if x2 then
        some 2
      else
        (if (decide (a0 = (⟨#[119, 104, 101, 114, 101]⟩ : ByteArray))) then
          some true
        else
          if (decide (a0 = (⟨#[103, 114, 111, 117, 112]⟩ : ByteArray))) then
            some true
          else
            some (decide (a0 = (⟨#[106, 111, 105, 110]⟩ : ByteArray)))).bind fun x3 =>
        if x3 then
          some 3
        else
          if (decide (a0 = (⟨#[97, 100, 100]⟩ : ByteArray))) then
            some 4
          else
            some (-1)
def i_IsReserved (a0 : ByteArray) : Option Bool :=
  (if (decide (a0 = (⟨#[108, 101, 116]⟩ : ByteArray))) then
    some true
  else
    if (decide (a0 = (⟨#[105, 110]⟩ : ByteArray))) then
      some true
    else
      if (decide (a0 = (⟨#[105, 102]⟩ : ByteArray))) then
        some true
      else
        if (decide (a0 = (⟨#[116, 104, 101, 110]⟩ : ByteArray))) then
          some true
        else
          if (decide (a0 = (⟨#[101, 108, 115, 101]⟩ : ByteArray))) then
            some true
          else
            if (decide (a0 = (⟨#[102, 111, 114]⟩ : ByteArray))) then
              some true
            else
              some (decide (a0 = (⟨#[100, 111]⟩ : ByteArray)))).bind fun x1 =>
  if x1 then
    some true
  else
    (i_ArgumentCount a0).bind fun x2 =>
    some (decide (0 ≤ x2))
def i_IsValidName (k : Nat) (a0 : ByteArray) : Option Bool :=
  ((i_isWord k a0).bind fun x2 =>
  if x2 then
    (i_IsReserved a0).bind fun x3 =>
    some (!x3)
  else
    some false).bind fun x1 =>
  some x1
def i_isNumber (a0 : Int) : Option Bool :=
  (i_within a0 (-1000000000) 1000000000).bind fun x1 =>
  some x1
def i_IsValidWorld_u1 (k : Nat) (a0 : TWorld) : Nat → Int → Option (Unit ⊕ Bool)
  | 0, _ => none
  | n_ + 1, x1 =>
    if (decide (x1 < (a0.files.length : Int))) then
      (at? a0.files x1).bind fun x2 =>
      ((i_IsValidName k x2.name).bind fun x4 =>
      if (!x4) then
        some true
      else
        (i_isNumber x2.n).bind fun x5 =>
        if (!x5) then
          some true
        else
          if (decide (0 < x1)) then
            (at? a0.files (IntKind.i64.wrap (x1 - 1))).bind fun x6 =>
            some (!sLess x6.name x2.name)
          else
            some false).bind fun x3 =>
      if x3 then
        some (.inr false)
      else
        i_IsValidWorld_u1 k a0 n_ (IntKind.i64.wrap (x1 + 1))
    else
      some (.inl ())
def i_IsValidWorld (k : Nat) (a0 : TWorld) : Option Bool :=
  (i_IsValidWorld_u1 k a0 k 0 : Option (Unit ⊕ Bool)).bind fun
    | .inl _ => (
      ((i_within a0.clock 0 1000).bind fun x8 =>
      if x8 then
        (i_within a0.seed 0 1000000).bind fun x9 =>
        if x9 then
          some (decide ((a0.files.length : Int) ≤ 4))
        else
          some false
      else
        some false).bind fun x7 =>
      some x7)
    | .inr z10 => (
      some z10)
def i_AdvanceWorld (k : Nat) (a0 : TEngine) (a1 : TWorld) : Option (TEngine × Bool) :=
  (i_copyEngine k a0).bind fun x1 =>
  (i_IsValidWorld k a1).bind fun x2 =>
  if (!x2) then
    some (x1, false)
  else
    (i_copyWorld a1).bind fun x3 =>
    some ((TEngine.mk x1.notebook x3 x1.tapes x1.entries x1.next x1.limit x1.work), true)
end Go.Proofs.YtmiboaogfjgkjaaGreat
