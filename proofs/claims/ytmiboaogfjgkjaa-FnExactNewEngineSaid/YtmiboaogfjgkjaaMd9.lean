/- Functions that mirror the program's own, one each. Written by a program of mine. -/
import Derived.Test.YtmiboaogfjgkjaaSx
import Derived.Test.YtmiboaogfjgkjaaMd1
import Derived.Test.YtmiboaogfjgkjaaMd5
import Derived.Test.YtmiboaogfjgkjaaMd6
set_option linter.unusedSimpArgs false
set_option linter.unusedVariables false
namespace Go.Proofs.Ytmiboaogfjgkjaa
open Go.RowKit Am

def s_l14Files_u1 (k : Nat) (a0 : List TFile) : Nat → Int → Option (Unit ⊕ Bool)
  | 0, _ => none
  | n_ + 1, x1 =>
    if (decide (x1 < (a0.length : Int))) then
      ((at? a0 x1).bind fun x3 =>
      (s_IsValidName k x3.name).bind fun x4 =>
      if (!x4) then
        some true
      else
        (s_l3Number x3.n).bind fun x5 =>
        if (!x5) then
          some true
        else
          if (decide (0 < x1)) then
            (at? a0 (IntKind.i64.wrap (x1 - 1))).bind fun x6 =>
            some (!sLess x6.name x3.name)
          else
            some false).bind fun x2 =>
      if x2 then
        some (.inr false)
      else
        s_l14Files_u1 k a0 n_ (IntKind.i64.wrap (x1 + 1))
    else
      some (.inl ())
def s_l14Files (k : Nat) (a0 : List TFile) : Option Bool :=
  (s_l14Files_u1 k a0 k 0 : Option (Unit ⊕ Bool)).bind fun
    | .inl _ => (
      some (decide ((a0.length : Int) ≤ 4)))
    | .inr z7 => (
      some z7)
def s_IsValidWorld (k : Nat) (a0 : TWorld) : Option Bool :=
  ((s_l1In a0.clock 0 1000).bind fun x2 =>
  if x2 then
    (s_l1In a0.seed 0 1000000).bind fun x3 =>
    if x3 then
      (s_l14Files k a0.files).bind fun x4 =>
      some x4
    else
      some false
  else
    some false).bind fun x1 =>
  some x1
def s_l14Copy (a0 : TWorld) : Option TWorld :=
  (app? 24 ([] : List TFile) a0.files).bind fun x1 =>
  some (TWorld.mk a0.clock a0.seed x1)
def s_NewEngine (k : Nat) (a0 : TWorld) (a1 : Int) : Option (TEngine × Bool) :=
  ((s_IsValidWorld k a0).bind fun x2 =>
  if (!x2) then
    some true
  else
    (s_l1In a1 0 1000).bind fun x3 =>
    some (!x3)).bind fun x1 =>
  if x1 then
    some ((TEngine.mk (TNotebook.mk []) (TWorld.mk 0 0 []) [] [] 0 0 0), false)
  else
    (s_l14Copy a0).bind fun x4 =>
    some ((TEngine.mk (TNotebook.mk []) x4 [] [] 1 a1 0), true)
def i_IsValidWorld_u1 (k : Nat) (a0 : TWorld) : Nat → Int → Option (Unit ⊕ Bool)
  | 0, _ => none
  | n_ + 1, x1 =>
    if (decide (x1 < (a0.files.length : Int))) then
      (at? a0.files x1).bind fun x2 =>
      ((i_IsValidName k x2.name).bind fun x4 =>
      if (!x4) then
        some true
      else
        (i_isNumber x2.n).bind fun x5 =>
        if (!x5) then
          some true
        else
          if (decide (0 < x1)) then
            (at? a0.files (IntKind.i64.wrap (x1 - 1))).bind fun x6 =>
            some (!sLess x6.name x2.name)
          else
            some false).bind fun x3 =>
      if x3 then
        some (.inr false)
      else
        i_IsValidWorld_u1 k a0 n_ (IntKind.i64.wrap (x1 + 1))
    else
      some (.inl ())
def i_IsValidWorld (k : Nat) (a0 : TWorld) : Option Bool :=
  (i_IsValidWorld_u1 k a0 k 0 : Option (Unit ⊕ Bool)).bind fun
    | .inl _ => (
      ((i_within a0.clock 0 1000).bind fun x8 =>
      if x8 then
        (i_within a0.seed 0 1000000).bind fun x9 =>
        if x9 then
          some (decide ((a0.files.length : Int) ≤ 4))
        else
          some false
      else
        some false).bind fun x7 =>
      some x7)
    | .inr z10 => (
      some z10)
def i_copyWorld (a0 : TWorld) : Option TWorld :=
  (app? 24 ([] : List TFile) a0.files).bind fun x1 =>
  some (TWorld.mk a0.clock a0.seed x1)
def i_NewEngine (k : Nat) (a0 : TWorld) (a1 : Int) : Option (TEngine × Bool) :=
  ((i_IsValidWorld k a0).bind fun x2 =>
  if (!x2) then
    some true
  else
    (i_within a1 0 1000).bind fun x3 =>
    some (!x3)).bind fun x1 =>
  if x1 then
    some ((TEngine.mk (TNotebook.mk []) (TWorld.mk 0 0 []) [] [] 0 0 0), false)
  else
    (i_copyWorld a0).bind fun x4 =>
    some ((TEngine.mk (TNotebook.mk []) x4 [] [] 1 a1 0), true)
end Go.Proofs.Ytmiboaogfjgkjaa
