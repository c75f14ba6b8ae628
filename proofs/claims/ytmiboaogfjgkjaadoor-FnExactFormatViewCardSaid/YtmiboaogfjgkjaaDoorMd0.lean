/- Functions that mirror the program's own, one each. Written by a program of mine. -/
import Derived.Test.YtmiboaogfjgkjaaDoorSx
import Derived.Test.YtmiboaogfjgkjaaDoorLm
set_option linter.unusedSimpArgs false
set_option linter.unusedVariables false
namespace Go.Proofs.YtmiboaogfjgkjaaDoor
open Go.RowKit Am
def s_FormatInt_u1 : Nat → Int → ByteArray → Option ByteArray
  | 0, _, _ => none
  | n_ + 1, x2, x3 =>
    if (!decide (x2 = 0)) then
      (if (decide ((IntKind.i64.wrap (x2.tmod 10)) < 0)) then
        some (IntKind.i64.wrap (0 - (IntKind.i64.wrap (x2.tmod 10))))
      else
        some (IntKind.i64.wrap (x2.tmod 10))).bind fun x4 =>
      (cat? (bStr [(IntKind.u8.wrap (IntKind.i64.wrap (48 + x4)))]) x3).bind fun x5 =>
      s_FormatInt_u1 n_ (IntKind.i64.wrap (x2.tdiv 10)) x5
    else
      some x3
def s_FormatInt (k : Nat) (a0 : Int) : Option ByteArray :=
  if (decide (a0 = 0)) then
    some (⟨#[48]⟩ : ByteArray)
  else
    (s_FormatInt_u1 k a0 (⟨#[]⟩ : ByteArray)).bind fun x1 =>
    if (decide (a0 < 0)) then
      (cat? (⟨#[45]⟩ : ByteArray) x1).bind fun x6 =>
      some x6
    else
      some x1
def s_FormatView_u1 (k : Nat) (a0 : List TLine) : Nat → ByteArray → Int → Option ByteArray
  | 0, _, _ => none
  | n_ + 1, x2, x3 =>
    if (decide (x3 < (a0.length : Int))) then
      ((at? a0 x3).bind fun x5 =>
      if (!x5.fresh) then
        some (⟨#[63, 32]⟩ : ByteArray)
      else
        some (⟨#[58, 32]⟩ : ByteArray)).bind fun x4 =>
      (at? a0 x3).bind fun x6 =>
      (s_FormatInt k x6.cell).bind fun x7 =>
      (cat? x2 x7).bind fun x8 =>
      (cat? x8 x4).bind fun x9 =>
      (cat? x9 x6.text).bind fun x10 =>
      (cat? x10 (⟨#[10]⟩ : ByteArray)).bind fun x11 =>
      s_FormatView_u1 k a0 n_ x11 (IntKind.i64.wrap (x3 + 1))
    else
      some x2
def s_FormatView (k : Nat) (a0 : List TLine) : Option ByteArray :=
  (s_FormatView_u1 k a0 k (⟨#[]⟩ : ByteArray) 0).bind fun x1 =>
  some x1
def i_FormatInt (a0 : Int) : Option ByteArray :=
  (x_strconv_Itoa a0).bind fun x1 =>
  some x1
def i_FormatView_u1 (a0 : List TLine) : Nat → ByteArray → Int → Option ByteArray
  | 0, _, _ => none
  | n_ + 1, x2, x3 =>
    if (decide (x3 < (a0.length : Int))) then
      (at? a0 x3).bind fun x4 =>
      (if (!x4.fresh) then
        some (⟨#[63]⟩ : ByteArray)
      else
        some (⟨#[58]⟩ : ByteArray)).bind fun x5 =>
      (i_FormatInt x4.cell).bind fun x6 =>
      (cat? x2 x6).bind fun x7 =>
      (cat? x7 x5).bind fun x8 =>
      (cat? x8 (⟨#[32]⟩ : ByteArray)).bind fun x9 =>
      (cat? x9 x4.text).bind fun x10 =>
      (cat? x10 (⟨#[10]⟩ : ByteArray)).bind fun x11 =>
      i_FormatView_u1 a0 n_ x11 (IntKind.i64.wrap (x3 + 1))
    else
      some x2
def i_FormatView (k : Nat) (a0 : List TLine) : Option ByteArray :=
  (i_FormatView_u1 a0 k (⟨#[]⟩ : ByteArray) 0).bind fun x1 =>
  some x1
end Go.Proofs.YtmiboaogfjgkjaaDoor
