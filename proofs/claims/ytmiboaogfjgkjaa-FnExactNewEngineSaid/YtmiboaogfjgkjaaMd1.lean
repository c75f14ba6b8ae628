/- Functions that mirror the program's own, one each. Written by a program of mine. -/
import Derived.Test.YtmiboaogfjgkjaaSx
set_option linter.unusedSimpArgs false
set_option linter.unusedVariables false
namespace Go.Proofs.Ytmiboaogfjgkjaa
open Go.RowKit Am

def s_l1In (a0 : Int) (a1 : Int) (a2 : Int) : Option Bool :=
  (if (decide (a1 ≤ a0)) then
    some (decide (a0 ≤ a2))
  else
    some false).bind fun x1 =>
  some x1
def s_ApplyDiff_u1 (a1 : TDiff) : Nat → (List TLine) → Int → Option (List TLine)
  | 0, _, _ => none
  | n_ + 1, x6, x7 =>
    if (decide (x7 < (a1.changes.length : Int))) then
      ((at? a1.changes x7).bind fun x9 =>
      (s_l1In x9.at_ 0 (IntKind.i64.wrap (a1.length - 1))).bind fun x10 =>
      if x10 then
        (at? x6 x9.at_).bind fun x11 =>
        some (x6.set x9.at_.toNat x9.line)
      else
        some x6).bind fun x8 =>
      s_ApplyDiff_u1 a1 n_ x8 (IntKind.i64.wrap (x7 + 1))
    else
      some x6
def s_ApplyDiff (k : Nat) (a0 : List TLine) (a1 : TDiff) : Option (List TLine) :=
  (s_l1In a1.length 0 8).bind fun x1 =>
  if (!x1) then
    (app? 32 ([] : List TLine) a0).bind fun x2 =>
    some x2
  else
    (mk? 32 a1.length).bind fun x3 =>
    (cpy? (List.replicate x3 (TLine.mk 0 false (⟨#[]⟩ : ByteArray))) a0).bind fun x4 =>
    (s_ApplyDiff_u1 a1 k x4 0).bind fun x5 =>
    some x5
def i_within (a0 : Int) (a1 : Int) (a2 : Int) : Option Bool :=
  (if (decide (a1 ≤ a0)) then
    some (decide (a0 ≤ a2))
  else
    some false).bind fun x1 =>
  some x1
def i_ApplyDiff_u1 (a1 : TDiff) : Nat → (List TLine) → Int → Option (List TLine)
  | 0, _, _ => none
  | n_ + 1, x6, x7 =>
    if (decide (x7 < (a1.changes.length : Int))) then
      ((at? a1.changes x7).bind fun x9 =>
      (i_within x9.at_ 0 (IntKind.i64.wrap (a1.length - 1))).bind fun x10 =>
      if x10 then
        (at? x6 x9.at_).bind fun x11 =>
        some (x6.set x9.at_.toNat x9.line)
      else
        some x6).bind fun x8 =>
      i_ApplyDiff_u1 a1 n_ x8 (IntKind.i64.wrap (x7 + 1))
    else
      some x6
def i_ApplyDiff (k : Nat) (a0 : List TLine) (a1 : TDiff) : Option (List TLine) :=
  (i_within a1.length 0 8).bind fun x1 =>
  if (!x1) then
    (app? 32 ([] : List TLine) a0).bind fun x2 =>
    some x2
  else
    (mk? 32 a1.length).bind fun x3 =>
    (cpy? (List.replicate x3 (TLine.mk 0 false (⟨#[]⟩ : ByteArray))) a0).bind fun x4 =>
    (i_ApplyDiff_u1 a1 k x4 0).bind fun x5 =>
    some x5
end Go.Proofs.Ytmiboaogfjgkjaa
