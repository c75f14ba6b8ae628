/- Functions that mirror the program's own, one each. Written by a program of mine. -/
import Derived.Test.YtmiboaogfjgkjaaSx
import Derived.Test.YtmiboaogfjgkjaaMdA0
import Derived.Test.YtmiboaogfjgkjaaMdA2
import Derived.Test.YtmiboaogfjgkjaaMdA3
import Derived.Test.YtmiboaogfjgkjaaMdA4
set_option linter.unusedSimpArgs false
set_option linter.unusedVariables false
namespace Go.Proofs.Ytmiboaogfjgkjaa
open Go.RowKit Am
def w_eqFile (a0 : TFile) (a1 : TFile) : Option Bool :=
  if (!decide (a0.name = a1.name)) then
    some false
  else
    if (!decide (a0.n = a1.n)) then
      some false
    else
      some true
def w_eqFileS_u1 (a0 : List TFile) (a1 : List TFile) : Nat → Int → Option (Unit ⊕ Bool)
  | 0, _ => none
  | n_ + 1, x1 =>
    if (decide (x1 < (a0.length : Int))) then
      (at? a0 x1).bind fun x2 =>
      (at? a1 x1).bind fun x3 =>
      (w_eqFile x2 x3).bind fun x4 =>
      if (!x4) then
        some (.inr false)
      else
        w_eqFileS_u1 a0 a1 n_ (IntKind.i64.wrap (x1 + 1))
    else
      some (.inl ())
def w_eqFileS (k : Nat) (a0 : List TFile) (a1 : List TFile) : Option Bool :=
  if (!decide ((a0.length : Int) = (a1.length : Int))) then
    some false
  else
    (w_eqFileS_u1 a0 a1 k 0 : Option (Unit ⊕ Bool)).bind fun
      | .inl _ => (
        some true)
      | .inr z5 => (
        some z5)
def w_eqMark (a0 : TMark) (a1 : TMark) : Option Bool :=
  if (!decide (a0.x = a1.x)) then
    some false
  else
    if (!decide (a0.y = a1.y)) then
      some false
    else
      if (!decide (a0.w = a1.w)) then
        some false
      else
        if (!decide (a0.h = a1.h)) then
          some false
        else
          some true
def w_eqMarkS_u1 (a0 : List TMark) (a1 : List TMark) : Nat → Int → Option (Unit ⊕ Bool)
  | 0, _ => none
  | n_ + 1, x1 =>
    if (decide (x1 < (a0.length : Int))) then
      (at? a0 x1).bind fun x2 =>
      (at? a1 x1).bind fun x3 =>
      (w_eqMark x2 x3).bind fun x4 =>
      if (!x4) then
        some (.inr false)
      else
        w_eqMarkS_u1 a0 a1 n_ (IntKind.i64.wrap (x1 + 1))
    else
      some (.inl ())
def w_eqMarkS (k : Nat) (a0 : List TMark) (a1 : List TMark) : Option Bool :=
  if (!decide ((a0.length : Int) = (a1.length : Int))) then
    some false
  else
    (w_eqMarkS_u1 a0 a1 k 0 : Option (Unit ⊕ Bool)).bind fun
      | .inl _ => (
        some true)
      | .inr z5 => (
        some z5)
def w_eqScene (k : Nat) (a0 : TScene) (a1 : TScene) : Option Bool :=
  if (!decide (a0.w = a1.w)) then
    some false
  else
    if (!decide (a0.h = a1.h)) then
      some false
    else
      (w_eqMarkS k a0.marks a1.marks).bind fun x1 =>
      if (!x1) then
        some false
      else
        some true
end Go.Proofs.Ytmiboaogfjgkjaa
