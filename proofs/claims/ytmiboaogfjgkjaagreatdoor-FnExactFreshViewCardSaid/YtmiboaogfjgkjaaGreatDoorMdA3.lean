/- Functions that mirror the program's own, one each. Written by a program of mine. -/
import Derived.Test.YtmiboaogfjgkjaaGreatDoorSx
import Derived.Test.YtmiboaogfjgkjaaGreatDoorMdA2
set_option linter.unusedSimpArgs false
set_option linter.unusedVariables false
namespace Go.Proofs.YtmiboaogfjgkjaaGreatDoor
open Go.RowKit Am
def w_eqValueS_u1 (rec_w_eqValue : TValue → TValue → Option Bool) (a0 : List TValue) (a1 : List TValue) : Nat → Int → Option (Unit ⊕ Bool)
  | 0, _ => none
  | n_ + 1, x1 =>
    if (decide (x1 < (a0.length : Int))) then
      (at? a0 x1).bind fun x2 =>
      (at? a1 x1).bind fun x3 =>
      (rec_w_eqValue x2 x3).bind fun x4 =>
      if (!x4) then
        some (.inr false)
      else
        w_eqValueS_u1 rec_w_eqValue a0 a1 n_ (IntKind.i64.wrap (x1 + 1))
    else
      some (.inl ())
mutual
def w_eqValue : Nat → TValue → TValue → Option Bool
  | 0, _, _ => none
  | k + 1, a0, a1 =>
    if (!decide (a0.kind = a1.kind)) then
      some false
    else
      if (!decide (a0.n = a1.n)) then
        some false
      else
        if (!decide (a0.step = a1.step)) then
          some false
        else
          if (!decide (a0.text = a1.text)) then
            some false
          else
            (w_eqValueS k a0.list a1.list).bind fun x1 =>
            if (!x1) then
              some false
            else
              (w_eqStringS k a0.columns a1.columns).bind fun x2 =>
              if (!x2) then
                some false
              else
                (w_eqRowS k a0.rows a1.rows).bind fun x3 =>
                if (!x3) then
                  some false
                else
                  some true
def w_eqValueS : Nat → (List TValue) → (List TValue) → Option Bool
  | 0, _, _ => none
  | k + 1, a0, a1 =>
    if (!decide ((a0.length : Int) = (a1.length : Int))) then
      some false
    else
      (w_eqValueS_u1 (w_eqValue k) a0 a1 k 0 : Option (Unit ⊕ Bool)).bind fun
        | .inl _ => (
          some true)
        | .inr z5 => (
          some z5)
end
def w_eqRead (k : Nat) (a0 : TRead) (a1 : TRead) : Option Bool :=
  if (!decide (a0.kind = a1.kind)) then
    some false
  else
    if (!decide (a0.n = a1.n)) then
      some false
    else
      if (!decide (a0.time = a1.time)) then
        some false
      else
        if (!decide (a0.text = a1.text)) then
          some false
        else
          (w_eqValue k a0.result a1.result).bind fun x1 =>
          if (!x1) then
            some false
          else
            some true
def w_eqReadS_u1 (k : Nat) (a0 : List TRead) (a1 : List TRead) : Nat → Int → Option (Unit ⊕ Bool)
  | 0, _ => none
  | n_ + 1, x1 =>
    if (decide (x1 < (a0.length : Int))) then
      (at? a0 x1).bind fun x2 =>
      (at? a1 x1).bind fun x3 =>
      (w_eqRead k x2 x3).bind fun x4 =>
      if (!x4) then
        some (.inr false)
      else
        w_eqReadS_u1 k a0 a1 n_ (IntKind.i64.wrap (x1 + 1))
    else
      some (.inl ())
def w_eqReadS (k : Nat) (a0 : List TRead) (a1 : List TRead) : Option Bool :=
  if (!decide ((a0.length : Int) = (a1.length : Int))) then
    some false
  else
    (w_eqReadS_u1 k a0 a1 k 0 : Option (Unit ⊕ Bool)).bind fun
      | .inl _ => (
        some true)
      | .inr z5 => (
        some z5)
def w_eqTape (k : Nat) (a0 : TTape) (a1 : TTape) : Option Bool :=
  if (!decide (a0.cell = a1.cell)) then
    some false
  else
    if (!decide (a0.version = a1.version)) then
      some false
    else
      (w_eqReadS k a0.reads a1.reads).bind fun x1 =>
      if (!x1) then
        some false
      else
        some true
def w_eqTapeS_u1 (k : Nat) (a0 : List TTape) (a1 : List TTape) : Nat → Int → Option (Unit ⊕ Bool)
  | 0, _ => none
  | n_ + 1, x1 =>
    if (decide (x1 < (a0.length : Int))) then
      (at? a0 x1).bind fun x2 =>
      (at? a1 x1).bind fun x3 =>
      (w_eqTape k x2 x3).bind fun x4 =>
      if (!x4) then
        some (.inr false)
      else
        w_eqTapeS_u1 k a0 a1 n_ (IntKind.i64.wrap (x1 + 1))
    else
      some (.inl ())
def w_eqTapeS (k : Nat) (a0 : List TTape) (a1 : List TTape) : Option Bool :=
  if (!decide ((a0.length : Int) = (a1.length : Int))) then
    some false
  else
    (w_eqTapeS_u1 k a0 a1 k 0 : Option (Unit ⊕ Bool)).bind fun
      | .inl _ => (
        some true)
      | .inr z5 => (
        some z5)
def w_eqRun (k : Nat) (a0 : TRun) (a1 : TRun) : Option Bool :=
  (w_eqValueS k a0.values a1.values).bind fun x1 =>
  if (!x1) then
    some false
  else
    (w_eqTapeS k a0.tapes a1.tapes).bind fun x2 =>
    if (!x2) then
      some false
    else
      if (!decide (a0.steps = a1.steps)) then
        some false
      else
        some true
end Go.Proofs.YtmiboaogfjgkjaaGreatDoor
