/- Functions that mirror the program's own, one each. Written by a program of mine. -/
import Derived.Test.YtmiboaogfjgkjaaSx
import Derived.Test.YtmiboaogfjgkjaaMd0
import Derived.Test.YtmiboaogfjgkjaaMd1
set_option linter.unusedSimpArgs false
set_option linter.unusedVariables false
namespace Go.Proofs.Ytmiboaogfjgkjaa
open Go.RowKit Am

def s_RowOrigins (k : Nat) (a0 : TNotebook) (a1 : TRun) (a2 : Int) (a3 : Int) : Option (List TOrigin) :=
  (s_CellIndex k a0 a2).bind fun x1 =>
  (if (decide (x1 < 0)) then
    some true
  else
    if (decide ((a1.values.length : Int) ≤ x1)) then
      some true
    else
      (at? a1.values x1).bind fun x3 =>
      (s_l1In a3 0 (IntKind.i64.wrap ((x3.rows.length : Int) - 1))).bind fun x4 =>
      some (!x4)).bind fun x2 =>
  if x2 then
    some ([] : List TOrigin)
  else
    (at? a1.values x1).bind fun x5 =>
    (at? x5.rows a3).bind fun x6 =>
    (app? 16 ([] : List TOrigin) x6.from_).bind fun x7 =>
    some x7
def i_rowOf (k : Nat) (a0 : TNotebook) (a1 : TRun) (a2 : Int) (a3 : Int) : Option (TRow × Bool) :=
  (i_CellIndex k a0 a2).bind fun x1 =>
  (if (decide (x1 < 0)) then
    some true
  else
    if (decide ((a1.values.length : Int) ≤ x1)) then
      some true
    else
      if (decide (a3 < 0)) then
        some true
      else
        (at? a1.values x1).bind fun x3 =>
        some (decide ((x3.rows.length : Int) ≤ a3))).bind fun x2 =>
  if x2 then
    some ((TRow.mk [] []), false)
  else
    (at? a1.values x1).bind fun x4 =>
    (at? x4.rows a3).bind fun x5 =>
    some (x5, true)
def i_RowOrigins (k : Nat) (a0 : TNotebook) (a1 : TRun) (a2 : Int) (a3 : Int) : Option (List TOrigin) :=
  (i_rowOf k a0 a1 a2 a3).bind fun x1 =>
  if (!x1.2) then
    some []
  else
    (app? 16 ([] : List TOrigin) x1.1.from_).bind fun x2 =>
    some x2
end Go.Proofs.Ytmiboaogfjgkjaa
