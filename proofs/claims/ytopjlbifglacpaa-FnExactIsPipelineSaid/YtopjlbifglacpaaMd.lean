/- Functions that mirror the program's own, one each. Written by a program of mine. -/
import Derived.Test.YtopjlbifglacpaaSx
set_option linter.unusedSimpArgs false
set_option linter.unusedVariables false
namespace Go.Proofs.Ytopjlbifglacpaa
open Go.RowKit Am

def w_szLine (a0 : TLine) (a1 : Int) : Option Int :=
  if (decide ((IntKind.i64.wrap (a1 - (a0.text.size : Int))) < 0)) then
    some (-1)
  else
    some (IntKind.i64.wrap (a1 - (a0.text.size : Int)))
def w_szLineS_u1 (a0 : List TLine) : Nat → Int → Int → Option (Int ⊕ Int)
  | 0, _, _ => none
  | n_ + 1, x2, x3 =>
    if (decide (x3 < (a0.length : Int))) then
      (at? a0 x3).bind fun x4 =>
      (w_szLine x4 x2).bind fun x5 =>
      if (decide (x5 < 0)) then
        some (.inr (-1))
      else
        w_szLineS_u1 a0 n_ x5 (IntKind.i64.wrap (x3 + 1))
    else
      some (.inl x2)
def w_szLineS (k : Nat) (a0 : List TLine) (a1 : Int) : Option Int :=
  if (decide ((IntKind.i64.wrap (a1 - (a0.length : Int))) < 0)) then
    some (-1)
  else
    (w_szLineS_u1 a0 k (IntKind.i64.wrap (a1 - (a0.length : Int))) 0 : Option (Int ⊕ Int)).bind fun
      | .inl x1 => (
        some x1)
      | .inr z6 => (
        some z6)
def w_toLine (a0 : TLine) : Option TLine :=
  some a0
def w_toLineS_u1 (a0 : List TLine) : Nat → (List TLine) → Int → Option (List TLine)
  | 0, _, _ => none
  | n_ + 1, x3, x4 =>
    if (decide (x4 < (a0.length : Int))) then
      (at? a0 x4).bind fun x5 =>
      (w_toLine x5).bind fun x6 =>
      (at? x3 x4).bind fun x7 =>
      w_toLineS_u1 a0 n_ (x3.set x4.toNat x6) (IntKind.i64.wrap (x4 + 1))
    else
      some x3
def w_toLineS (k : Nat) (a0 : List TLine) : Option (List TLine) :=
  (mk? 32 (a0.length : Int)).bind fun x1 =>
  (w_toLineS_u1 a0 k (List.replicate x1 (TLine.mk 0 false (⟨#[]⟩ : ByteArray))) 0).bind fun x2 =>
  some x2
def s_EqualView_u1 (a0 : List TLine) (a1 : List TLine) : Nat → Int → Option (Unit ⊕ Bool)
  | 0, _ => none
  | n_ + 1, x1 =>
    if (decide (x1 < (a0.length : Int))) then
      (at? a0 x1).bind fun x2 =>
      (at? a1 x1).bind fun x3 =>
      if (!(decide (x2.cell = x3.cell) && ((x2.fresh == x3.fresh) && decide (x2.text = x3.text)))) then
        some (.inr false)
      else
        s_EqualView_u1 a0 a1 n_ (IntKind.i64.wrap (x1 + 1))
    else
      some (.inl ())
def s_EqualView (k : Nat) (a0 : List TLine) (a1 : List TLine) : Option Bool :=
  if (!decide ((a0.length : Int) = (a1.length : Int))) then
    some false
  else
    (s_EqualView_u1 a0 a1 k 0 : Option (Unit ⊕ Bool)).bind fun
      | .inl _ => (
        some true)
      | .inr z4 => (
        some z4)
def i_same_Line_u1 (a0 : List TLine) (a1 : List TLine) : Nat → Int → Option (Unit ⊕ Bool)
  | 0, _ => none
  | n_ + 1, x1 =>
    if (decide (x1 < (a0.length : Int))) then
      (at? a0 x1).bind fun x2 =>
      (at? a1 x1).bind fun x3 =>
      if (!(decide (x2.cell = x3.cell) && ((x2.fresh == x3.fresh) && decide (x2.text = x3.text)))) then
        some (.inr false)
      else
        i_same_Line_u1 a0 a1 n_ (IntKind.i64.wrap (x1 + 1))
    else
      some (.inl ())
def i_same_Line (k : Nat) (a0 : List TLine) (a1 : List TLine) : Option Bool :=
  if (!decide ((a0.length : Int) = (a1.length : Int))) then
    some false
  else
    (i_same_Line_u1 a0 a1 k 0 : Option (Unit ⊕ Bool)).bind fun
      | .inl _ => (
        some true)
      | .inr z4 => (
        some z4)
def i_EqualView (k : Nat) (a0 : List TLine) (a1 : List TLine) : Option Bool :=
  (i_same_Line k a0 a1).bind fun x1 =>
  some x1
def w_eqLine (a0 : TLine) (a1 : TLine) : Option Bool :=
  if (!decide (a0.cell = a1.cell)) then
    some false
  else
    if (!(a0.fresh == a1.fresh)) then
      some false
    else
      if (!decide (a0.text = a1.text)) then
        some false
      else
        some true
def w_eqLineS_u1 (a0 : List TLine) (a1 : List TLine) : Nat → Int → Option (Unit ⊕ Bool)
  | 0, _ => none
  | n_ + 1, x1 =>
    if (decide (x1 < (a0.length : Int))) then
      (at? a0 x1).bind fun x2 =>
      (at? a1 x1).bind fun x3 =>
      (w_eqLine x2 x3).bind fun x4 =>
      if (!x4) then
        some (.inr false)
      else
        w_eqLineS_u1 a0 a1 n_ (IntKind.i64.wrap (x1 + 1))
    else
      some (.inl ())
def w_eqLineS (k : Nat) (a0 : List TLine) (a1 : List TLine) : Option Bool :=
  if (!decide ((a0.length : Int) = (a1.length : Int))) then
    some false
  else
    (w_eqLineS_u1 a0 a1 k 0 : Option (Unit ⊕ Bool)).bind fun
      | .inl _ => (
        some true)
      | .inr z5 => (
        some z5)
def w_FnExactEqualView (k : Nat) (a0 : List TLine) (a1 : List TLine) : Option Bool :=
  (w_szLineS k a0 1048576).bind fun x1 =>
  if (decide (x1 < 0)) then
    some true
  else
    (w_szLineS k a1 x1).bind fun x2 =>
    if (decide (x2 < 0)) then
      some true
    else
      (w_toLineS k a0).bind fun x3 =>
      (w_toLineS k a1).bind fun x4 =>
      (s_EqualView k x3 x4).bind fun x5 =>
      (w_toLineS k a0).bind fun x6 =>
      (w_toLineS k a1).bind fun x7 =>
      (i_EqualView k x6 x7).bind fun x8 =>
      if (!(x8 == x5)) then
        some false
      else
        (w_toLineS k a0).bind fun x9 =>
        (w_eqLineS k x6 x9).bind fun x10 =>
        if (!x10) then
          some false
        else
          (w_toLineS k a1).bind fun x11 =>
          (w_eqLineS k x7 x11).bind fun x12 =>
          if (!x12) then
            some false
          else
            some true
def w_szMarkS (a0 : List TMark) (a1 : Int) : Option Int :=
  if (decide ((IntKind.i64.wrap (a1 - (a0.length : Int))) < 0)) then
    some (-1)
  else
    some (IntKind.i64.wrap (a1 - (a0.length : Int)))
def w_szScene (a0 : TScene) (a1 : Int) : Option Int :=
  (w_szMarkS a0.marks a1).bind fun x1 =>
  if (decide (x1 < 0)) then
    some (-1)
  else
    some x1
def w_toMark (a0 : TMark) : Option TMark :=
  some a0
def w_toMarkS_u1 (a0 : List TMark) : Nat → (List TMark) → Int → Option (List TMark)
  | 0, _, _ => none
  | n_ + 1, x3, x4 =>
    if (decide (x4 < (a0.length : Int))) then
      (at? a0 x4).bind fun x5 =>
      (w_toMark x5).bind fun x6 =>
      (at? x3 x4).bind fun x7 =>
      w_toMarkS_u1 a0 n_ (x3.set x4.toNat x6) (IntKind.i64.wrap (x4 + 1))
    else
      some x3
def w_toMarkS (k : Nat) (a0 : List TMark) : Option (List TMark) :=
  (mk? 32 (a0.length : Int)).bind fun x1 =>
  (w_toMarkS_u1 a0 k (List.replicate x1 (TMark.mk 0 0 0 0)) 0).bind fun x2 =>
  some x2
def w_toScene (k : Nat) (a0 : TScene) : Option TScene :=
  (w_toMarkS k a0.marks).bind fun x1 =>
  some (TScene.mk a0.w a0.h x1)
def s_IsInside_u1 (a0 : TScene) : Nat → Int → Option (Unit ⊕ Bool)
  | 0, _ => none
  | n_ + 1, x1 =>
    if (decide (x1 < (a0.marks.length : Int))) then
      (at? a0.marks x1).bind fun x2 =>
      (if (decide (x2.x < 0)) then
        some true
      else
        if (decide (x2.y < 0)) then
          some true
        else
          if (decide (x2.w < 0)) then
            some true
          else
            if (decide (x2.h < 0)) then
              some true
            else
              if (decide (a0.w < (IntKind.i64.wrap (x2.x + x2.w)))) then
                some true
              else
                some (decide (a0.h < (IntKind.i64.wrap (x2.y + x2.h))))).bind fun x3 =>
      if x3 then
        some (.inr false)
      else
        s_IsInside_u1 a0 n_ (IntKind.i64.wrap (x1 + 1))
    else
      some (.inl ())
def s_IsInside (k : Nat) (a0 : TScene) : Option Bool :=
  (s_IsInside_u1 a0 k 0 : Option (Unit ⊕ Bool)).bind fun
    | .inl _ => (
      (if (decide (0 ≤ a0.w)) then
        some (decide (0 ≤ a0.h))
      else
        some false).bind fun x4 =>
      some x4)
    | .inr z5 => (
      some z5)
def i_IsInside_u1 (a0 : TScene) : Nat → Int → Option (Unit ⊕ Bool)
  | 0, _ => none
  | n_ + 1, x1 =>
    if (decide (x1 < (a0.marks.length : Int))) then
      (at? a0.marks x1).bind fun x2 =>
      (if (decide (x2.x < 0)) then
        some true
      else
        if (decide (x2.y < 0)) then
          some true
        else
          if (decide (x2.w < 0)) then
            some true
          else
            if (decide (x2.h < 0)) then
              some true
            else
              if (decide (a0.w < (IntKind.i64.wrap (x2.x + x2.w)))) then
                some true
              else
                some (decide (a0.h < (IntKind.i64.wrap (x2.y + x2.h))))).bind fun x3 =>
      if x3 then
        some (.inr false)
      else
        i_IsInside_u1 a0 n_ (IntKind.i64.wrap (x1 + 1))
    else
      some (.inl ())
def i_IsInside (k : Nat) (a0 : TScene) : Option Bool :=
  (i_IsInside_u1 a0 k 0 : Option (Unit ⊕ Bool)).bind fun
    | .inl _ => (
      (if (decide (0 ≤ a0.w)) then
        some (decide (0 ≤ a0.h))
      else
        some false).bind fun x4 =>
      some x4)
    | .inr z5 => (
      some z5)
def w_eqMark (a0 : TMark) (a1 : TMark) : Option Bool :=
  if (!decide (a0.x = a1.x)) then
    some false
  else
    if (!decide (a0.y = a1.y)) then
      some false
    else
      if (!decide (a0.w = a1.w)) then
        some false
      else
        if (!decide (a0.h = a1.h)) then
          some false
        else
          some true
def w_eqMarkS_u1 (a0 : List TMark) (a1 : List TMark) : Nat → Int → Option (Unit ⊕ Bool)
  | 0, _ => none
  | n_ + 1, x1 =>
    if (decide (x1 < (a0.length : Int))) then
      (at? a0 x1).bind fun x2 =>
      (at? a1 x1).bind fun x3 =>
      (w_eqMark x2 x3).bind fun x4 =>
      if (!x4) then
        some (.inr false)
      else
        w_eqMarkS_u1 a0 a1 n_ (IntKind.i64.wrap (x1 + 1))
    else
      some (.inl ())
def w_eqMarkS (k : Nat) (a0 : List TMark) (a1 : List TMark) : Option Bool :=
  if (!decide ((a0.length : Int) = (a1.length : Int))) then
    some false
  else
    (w_eqMarkS_u1 a0 a1 k 0 : Option (Unit ⊕ Bool)).bind fun
      | .inl _ => (
        some true)
      | .inr z5 => (
        some z5)
def w_eqScene (k : Nat) (a0 : TScene) (a1 : TScene) : Option Bool :=
  if (!decide (a0.w = a1.w)) then
    some false
  else
    if (!decide (a0.h = a1.h)) then
      some false
    else
      (w_eqMarkS k a0.marks a1.marks).bind fun x1 =>
      if (!x1) then
        some false
      else
        some true
def w_FnExactIsInside (k : Nat) (a0 : TScene) : Option Bool :=
  (w_szScene a0 1048576).bind fun x1 =>
  if (decide (x1 < 0)) then
    some true
  else
    (w_toScene k a0).bind fun x2 =>
    (s_IsInside k x2).bind fun x3 =>
    (w_toScene k a0).bind fun x4 =>
    (i_IsInside k x4).bind fun x5 =>
    if (!(x5 == x3)) then
      some false
    else
      (w_toScene k a0).bind fun x6 =>
      (w_eqScene k x4 x6).bind fun x7 =>
      if (!x7) then
        some false
      else
        some true
def w_szChange (a0 : TChange) (a1 : Int) : Option Int :=
  (w_szLine a0.line a1).bind fun x1 =>
  if (decide (x1 < 0)) then
    some (-1)
  else
    some x1
def w_szChangeS_u1 (a0 : List TChange) : Nat → Int → Int → Option (Int ⊕ Int)
  | 0, _, _ => none
  | n_ + 1, x2, x3 =>
    if (decide (x3 < (a0.length : Int))) then
      (at? a0 x3).bind fun x4 =>
      (w_szChange x4 x2).bind fun x5 =>
      if (decide (x5 < 0)) then
        some (.inr (-1))
      else
        w_szChangeS_u1 a0 n_ x5 (IntKind.i64.wrap (x3 + 1))
    else
      some (.inl x2)
def w_szChangeS (k : Nat) (a0 : List TChange) (a1 : Int) : Option Int :=
  if (decide ((IntKind.i64.wrap (a1 - (a0.length : Int))) < 0)) then
    some (-1)
  else
    (w_szChangeS_u1 a0 k (IntKind.i64.wrap (a1 - (a0.length : Int))) 0 : Option (Int ⊕ Int)).bind fun
      | .inl x1 => (
        some x1)
      | .inr z6 => (
        some z6)
def w_szDiff (k : Nat) (a0 : TDiff) (a1 : Int) : Option Int :=
  (w_szChangeS k a0.changes a1).bind fun x1 =>
  if (decide (x1 < 0)) then
    some (-1)
  else
    some x1
def w_toChange (a0 : TChange) : Option TChange :=
  (w_toLine a0.line).bind fun x1 =>
  some (TChange.mk a0.at_ x1)
def w_toChangeS_u1 (a0 : List TChange) : Nat → (List TChange) → Int → Option (List TChange)
  | 0, _, _ => none
  | n_ + 1, x3, x4 =>
    if (decide (x4 < (a0.length : Int))) then
      (at? a0 x4).bind fun x5 =>
      (w_toChange x5).bind fun x6 =>
      (at? x3 x4).bind fun x7 =>
      w_toChangeS_u1 a0 n_ (x3.set x4.toNat x6) (IntKind.i64.wrap (x4 + 1))
    else
      some x3
def w_toChangeS (k : Nat) (a0 : List TChange) : Option (List TChange) :=
  (mk? 40 (a0.length : Int)).bind fun x1 =>
  (w_toChangeS_u1 a0 k (List.replicate x1 (TChange.mk 0 (TLine.mk 0 false (⟨#[]⟩ : ByteArray)))) 0).bind fun x2 =>
  some x2
def w_toDiff (k : Nat) (a0 : TDiff) : Option TDiff :=
  (w_toChangeS k a0.changes).bind fun x1 =>
  some (TDiff.mk a0.length x1)
def s_DiffSize (a0 : TDiff) : Option Int :=
  some (a0.changes.length : Int)
def i_DiffSize (a0 : TDiff) : Option Int :=
  some (a0.changes.length : Int)
def w_eqChange (a0 : TChange) (a1 : TChange) : Option Bool :=
  if (!decide (a0.at_ = a1.at_)) then
    some false
  else
    (w_eqLine a0.line a1.line).bind fun x1 =>
    if (!x1) then
      some false
    else
      some true
def w_eqChangeS_u1 (a0 : List TChange) (a1 : List TChange) : Nat → Int → Option (Unit ⊕ Bool)
  | 0, _ => none
  | n_ + 1, x1 =>
    if (decide (x1 < (a0.length : Int))) then
      (at? a0 x1).bind fun x2 =>
      (at? a1 x1).bind fun x3 =>
      (w_eqChange x2 x3).bind fun x4 =>
      if (!x4) then
        some (.inr false)
      else
        w_eqChangeS_u1 a0 a1 n_ (IntKind.i64.wrap (x1 + 1))
    else
      some (.inl ())
def w_eqChangeS (k : Nat) (a0 : List TChange) (a1 : List TChange) : Option Bool :=
  if (!decide ((a0.length : Int) = (a1.length : Int))) then
    some false
  else
    (w_eqChangeS_u1 a0 a1 k 0 : Option (Unit ⊕ Bool)).bind fun
      | .inl _ => (
        some true)
      | .inr z5 => (
        some z5)
def w_eqDiff (k : Nat) (a0 : TDiff) (a1 : TDiff) : Option Bool :=
  if (!decide (a0.length = a1.length)) then
    some false
  else
    (w_eqChangeS k a0.changes a1.changes).bind fun x1 =>
    if (!x1) then
      some false
    else
      some true
def w_FnExactDiffSize (k : Nat) (a0 : TDiff) : Option Bool :=
  (w_szDiff k a0 1048576).bind fun x1 =>
  if (decide (x1 < 0)) then
    some true
  else
    (w_toDiff k a0).bind fun x2 =>
    (s_DiffSize x2).bind fun x3 =>
    (w_toDiff k a0).bind fun x4 =>
    (i_DiffSize x4).bind fun x5 =>
    if (!decide (x5 = x3)) then
      some false
    else
      (w_toDiff k a0).bind fun x6 =>
      (w_eqDiff k x4 x6).bind fun x7 =>
      if (!x7) then
        some false
      else
        some true
def s_ShownCells_u1 (a0 : List TLine) : Nat → (List Int) → Int → Option (List Int)
  | 0, _, _ => none
  | n_ + 1, x2, x3 =>
    if (decide (x3 < (a0.length : Int))) then
      (at? a0 x3).bind fun x4 =>
      (app? 8 x2 [x4.cell]).bind fun x5 =>
      s_ShownCells_u1 a0 n_ x5 (IntKind.i64.wrap (x3 + 1))
    else
      some x2
def s_ShownCells (k : Nat) (a0 : List TLine) : Option (List Int) :=
  (s_ShownCells_u1 a0 k ([] : List Int) 0).bind fun x1 =>
  some x1
def i_ShownCells_u1 (a0 : List TLine) : Nat → (List Int) → Int → Option (List Int)
  | 0, _, _ => none
  | n_ + 1, x2, x3 =>
    if (decide (x3 < (a0.length : Int))) then
      (at? a0 x3).bind fun x4 =>
      (app? 8 x2 [x4.cell]).bind fun x5 =>
      i_ShownCells_u1 a0 n_ x5 (IntKind.i64.wrap (x3 + 1))
    else
      some x2
def i_ShownCells (k : Nat) (a0 : List TLine) : Option (List Int) :=
  (i_ShownCells_u1 a0 k ([] : List Int) 0).bind fun x1 =>
  some x1
def w_eqIntS_u1 (a0 : List Int) (a1 : List Int) : Nat → Int → Option (Unit ⊕ Bool)
  | 0, _ => none
  | n_ + 1, x1 =>
    if (decide (x1 < (a0.length : Int))) then
      (at? a0 x1).bind fun x2 =>
      (at? a1 x1).bind fun x3 =>
      if (!decide (x2 = x3)) then
        some (.inr false)
      else
        w_eqIntS_u1 a0 a1 n_ (IntKind.i64.wrap (x1 + 1))
    else
      some (.inl ())
def w_eqIntS (k : Nat) (a0 : List Int) (a1 : List Int) : Option Bool :=
  if (!decide ((a0.length : Int) = (a1.length : Int))) then
    some false
  else
    (w_eqIntS_u1 a0 a1 k 0 : Option (Unit ⊕ Bool)).bind fun
      | .inl _ => (
        some true)
      | .inr z4 => (
        some z4)
def w_heldIntS_u1 (a0 : List Int) : Nat → Int → Int → Option (Int ⊕ Int)
  | 0, _, _ => none
  | n_ + 1, x2, x3 =>
    if (decide (x3 < (a0.length : Int))) then
      (at? a0 x3).bind fun x4 =>
      if (!decide (x4 = x2)) then
        some (.inr (-1))
      else
        w_heldIntS_u1 a0 n_ (IntKind.i64.wrap (x2 + 1)) (IntKind.i64.wrap (x3 + 1))
    else
      some (.inl x2)
def w_heldIntS (k : Nat) (a0 : List Int) (a1 : Int) : Option Int :=
  (w_heldIntS_u1 a0 k a1 0 : Option (Int ⊕ Int)).bind fun
    | .inl x1 => (
      some x1)
    | .inr z5 => (
      some z5)
def s_DiffViews_u1 (a0 : List TLine) (a1 : List TLine) : Nat → (List TChange) → Int → Option (List TChange)
  | 0, _, _ => none
  | n_ + 1, x2, x3 =>
    if (decide (x3 < (a1.length : Int))) then
      ((if (decide ((a0.length : Int) ≤ x3)) then
        some true
      else
        (at? a0 x3).bind fun x6 =>
        (at? a1 x3).bind fun x7 =>
        some (!(decide (x6.cell = x7.cell) && ((x6.fresh == x7.fresh) && decide (x6.text = x7.text))))).bind fun x5 =>
      if x5 then
        (at? a1 x3).bind fun x8 =>
        (app? 40 x2 [(TChange.mk x3 x8)]).bind fun x9 =>
        some x9
      else
        some x2).bind fun x4 =>
      s_DiffViews_u1 a0 a1 n_ x4 (IntKind.i64.wrap (x3 + 1))
    else
      some x2
def s_DiffViews (k : Nat) (a0 : List TLine) (a1 : List TLine) : Option TDiff :=
  (s_DiffViews_u1 a0 a1 k [] 0).bind fun x1 =>
  some (TDiff.mk (a1.length : Int) x1)
def i_DiffViews_u1 (a0 : List TLine) (a1 : List TLine) : Nat → (List TChange) → Int → Option (List TChange)
  | 0, _, _ => none
  | n_ + 1, x2, x3 =>
    if (decide (x3 < (a1.length : Int))) then
      ((at? a1 x3).bind fun x5 =>
      (if (decide ((a0.length : Int) ≤ x3)) then
        some true
      else
        (at? a0 x3).bind fun x7 =>
        some (!(decide (x7.cell = x5.cell) && ((x7.fresh == x5.fresh) && decide (x7.text = x5.text))))).bind fun x6 =>
      if x6 then
        (app? 40 x2 [(TChange.mk x3 x5)]).bind fun x8 =>
        some x8
      else
        some x2).bind fun x4 =>
      i_DiffViews_u1 a0 a1 n_ x4 (IntKind.i64.wrap (x3 + 1))
    else
      some x2
def i_DiffViews (k : Nat) (a0 : List TLine) (a1 : List TLine) : Option TDiff :=
  (i_DiffViews_u1 a0 a1 k [] 0).bind fun x1 =>
  some (TDiff.mk (a1.length : Int) x1)
def w_szCell (a0 : TCell) (a1 : Int) : Option Int :=
  if (decide ((IntKind.i64.wrap (a1 - (a0.name.size : Int))) < 0)) then
    some (-1)
  else
    if (decide ((IntKind.i64.wrap ((IntKind.i64.wrap (a1 - (a0.name.size : Int))) - (a0.code.size : Int))) < 0)) then
      some (-1)
    else
      some (IntKind.i64.wrap ((IntKind.i64.wrap (a1 - (a0.name.size : Int))) - (a0.code.size : Int)))
def w_szCellS_u1 (a0 : List TCell) : Nat → Int → Int → Option (Int ⊕ Int)
  | 0, _, _ => none
  | n_ + 1, x2, x3 =>
    if (decide (x3 < (a0.length : Int))) then
      (at? a0 x3).bind fun x4 =>
      (w_szCell x4 x2).bind fun x5 =>
      if (decide (x5 < 0)) then
        some (.inr (-1))
      else
        w_szCellS_u1 a0 n_ x5 (IntKind.i64.wrap (x3 + 1))
    else
      some (.inl x2)
def w_szCellS (k : Nat) (a0 : List TCell) (a1 : Int) : Option Int :=
  if (decide ((IntKind.i64.wrap (a1 - (a0.length : Int))) < 0)) then
    some (-1)
  else
    (w_szCellS_u1 a0 k (IntKind.i64.wrap (a1 - (a0.length : Int))) 0 : Option (Int ⊕ Int)).bind fun
      | .inl x1 => (
        some x1)
      | .inr z6 => (
        some z6)
def w_szNotebook (k : Nat) (a0 : TNotebook) (a1 : Int) : Option Int :=
  (w_szCellS k a0.cells a1).bind fun x1 =>
  if (decide (x1 < 0)) then
    some (-1)
  else
    some x1
def w_toCell (a0 : TCell) : Option TCell :=
  some a0
def w_toCellS_u1 (a0 : List TCell) : Nat → (List TCell) → Int → Option (List TCell)
  | 0, _, _ => none
  | n_ + 1, x3, x4 =>
    if (decide (x4 < (a0.length : Int))) then
      (at? a0 x4).bind fun x5 =>
      (w_toCell x5).bind fun x6 =>
      (at? x3 x4).bind fun x7 =>
      w_toCellS_u1 a0 n_ (x3.set x4.toNat x6) (IntKind.i64.wrap (x4 + 1))
    else
      some x3
def w_toCellS (k : Nat) (a0 : List TCell) : Option (List TCell) :=
  (mk? 64 (a0.length : Int)).bind fun x1 =>
  (w_toCellS_u1 a0 k (List.replicate x1 (TCell.mk 0 0 0 (⟨#[]⟩ : ByteArray) (⟨#[]⟩ : ByteArray) 0)) 0).bind fun x2 =>
  some x2
def w_toNotebook (k : Nat) (a0 : TNotebook) : Option TNotebook :=
  (w_toCellS k a0.cells).bind fun x1 =>
  some (TNotebook.mk x1)
def s_CellIndex_u1 (a0 : TNotebook) (a1 : Int) : Nat → Int → Option (Unit ⊕ Int)
  | 0, _ => none
  | n_ + 1, x1 =>
    if (decide (x1 < (a0.cells.length : Int))) then
      (at? a0.cells x1).bind fun x2 =>
      if (decide (x2.id = a1)) then
        some (.inr x1)
      else
        s_CellIndex_u1 a0 a1 n_ (IntKind.i64.wrap (x1 + 1))
    else
      some (.inl ())
def s_CellIndex (k : Nat) (a0 : TNotebook) (a1 : Int) : Option Int :=
  (s_CellIndex_u1 a0 a1 k 0 : Option (Unit ⊕ Int)).bind fun
    | .inl _ => (
      some (-1))
    | .inr z3 => (
      some z3)
def s_ChangedCells_u1 (k : Nat) (a0 : TNotebook) (a1 : TNotebook) : Nat → (List Int) → Int → Option (List Int)
  | 0, _, _ => none
  | n_ + 1, x2, x3 =>
    if (decide (x3 < (a1.cells.length : Int))) then
      ((at? a1.cells x3).bind fun x5 =>
      (s_CellIndex k a0 x5.id).bind fun x6 =>
      (if (decide (x6 < 0)) then
        some true
      else
        (at? a0.cells x6).bind fun x8 =>
        some (!(decide (x8.id = x5.id) && (decide (x8.version = x5.version) && (decide (x8.kind = x5.kind) && (decide (x8.name = x5.name) && (decide (x8.code = x5.code) && decide (x8.n = x5.n)))))))).bind fun x7 =>
      if x7 then
        (app? 8 x2 [x5.id]).bind fun x9 =>
        some x9
      else
        some x2).bind fun x4 =>
      s_ChangedCells_u1 k a0 a1 n_ x4 (IntKind.i64.wrap (x3 + 1))
    else
      some x2
def s_ChangedCells (k : Nat) (a0 : TNotebook) (a1 : TNotebook) : Option (List Int) :=
  (s_ChangedCells_u1 k a0 a1 k ([] : List Int) 0).bind fun x1 =>
  some x1
def i_CellIndex_u1 (a0 : TNotebook) (a1 : Int) : Nat → Int → Option (Unit ⊕ Int)
  | 0, _ => none
  | n_ + 1, x1 =>
    if (decide (x1 < (a0.cells.length : Int))) then
      (at? a0.cells x1).bind fun x2 =>
      if (decide (x2.id = a1)) then
        some (.inr x1)
      else
        i_CellIndex_u1 a0 a1 n_ (IntKind.i64.wrap (x1 + 1))
    else
      some (.inl ())
def i_CellIndex (k : Nat) (a0 : TNotebook) (a1 : Int) : Option Int :=
  (i_CellIndex_u1 a0 a1 k 0 : Option (Unit ⊕ Int)).bind fun
    | .inl _ => (
      some (-1))
    | .inr z3 => (
      some z3)
def i_ChangedCells_u1 (k : Nat) (a0 : TNotebook) (a1 : TNotebook) : Nat → (List Int) → Int → Option (List Int)
  | 0, _, _ => none
  | n_ + 1, x2, x3 =>
    if (decide (x3 < (a1.cells.length : Int))) then
      ((at? a1.cells x3).bind fun x5 =>
      (i_CellIndex k a0 x5.id).bind fun x6 =>
      (if (decide (x6 < 0)) then
        some true
      else
        (at? a0.cells x6).bind fun x8 =>
        some (!(decide (x8.id = x5.id) && (decide (x8.version = x5.version) && (decide (x8.kind = x5.kind) && (decide (x8.name = x5.name) && (decide (x8.code = x5.code) && decide (x8.n = x5.n)))))))).bind fun x7 =>
      if x7 then
        (app? 8 x2 [x5.id]).bind fun x9 =>
        some x9
      else
        some x2).bind fun x4 =>
      i_ChangedCells_u1 k a0 a1 n_ x4 (IntKind.i64.wrap (x3 + 1))
    else
      some x2
def i_ChangedCells (k : Nat) (a0 : TNotebook) (a1 : TNotebook) : Option (List Int) :=
  (i_ChangedCells_u1 k a0 a1 k ([] : List Int) 0).bind fun x1 =>
  some x1
def w_eqCell (a0 : TCell) (a1 : TCell) : Option Bool :=
  if (!decide (a0.id = a1.id)) then
    some false
  else
    if (!decide (a0.version = a1.version)) then
      some false
    else
      if (!decide (a0.kind = a1.kind)) then
        some false
      else
        if (!decide (a0.name = a1.name)) then
          some false
        else
          if (!decide (a0.code = a1.code)) then
            some false
          else
            if (!decide (a0.n = a1.n)) then
              some false
            else
              some true
def w_eqCellS_u1 (a0 : List TCell) (a1 : List TCell) : Nat → Int → Option (Unit ⊕ Bool)
  | 0, _ => none
  | n_ + 1, x1 =>
    if (decide (x1 < (a0.length : Int))) then
      (at? a0 x1).bind fun x2 =>
      (at? a1 x1).bind fun x3 =>
      (w_eqCell x2 x3).bind fun x4 =>
      if (!x4) then
        some (.inr false)
      else
        w_eqCellS_u1 a0 a1 n_ (IntKind.i64.wrap (x1 + 1))
    else
      some (.inl ())
def w_eqCellS (k : Nat) (a0 : List TCell) (a1 : List TCell) : Option Bool :=
  if (!decide ((a0.length : Int) = (a1.length : Int))) then
    some false
  else
    (w_eqCellS_u1 a0 a1 k 0 : Option (Unit ⊕ Bool)).bind fun
      | .inl _ => (
        some true)
      | .inr z5 => (
        some z5)
def w_eqNotebook (k : Nat) (a0 : TNotebook) (a1 : TNotebook) : Option Bool :=
  (w_eqCellS k a0.cells a1.cells).bind fun x1 =>
  if (!x1) then
    some false
  else
    some true
def s_l1In (a0 : Int) (a1 : Int) (a2 : Int) : Option Bool :=
  (if (decide (a1 ≤ a0)) then
    some (decide (a0 ≤ a2))
  else
    some false).bind fun x1 =>
  some x1
def i_within (a0 : Int) (a1 : Int) (a2 : Int) : Option Bool :=
  (if (decide (a1 ≤ a0)) then
    some (decide (a0 ≤ a2))
  else
    some false).bind fun x1 =>
  some x1
def w_szStringS_u1 (a0 : List ByteArray) : Nat → Int → Int → Option (Int ⊕ Int)
  | 0, _, _ => none
  | n_ + 1, x2, x3 =>
    if (decide (x3 < (a0.length : Int))) then
      (at? a0 x3).bind fun x4 =>
      if (decide ((IntKind.i64.wrap (x2 - (x4.size : Int))) < 0)) then
        some (.inr (-1))
      else
        w_szStringS_u1 a0 n_ (IntKind.i64.wrap (x2 - (x4.size : Int))) (IntKind.i64.wrap (x3 + 1))
    else
      some (.inl x2)
def w_szStringS (k : Nat) (a0 : List ByteArray) (a1 : Int) : Option Int :=
  if (decide ((IntKind.i64.wrap (a1 - (a0.length : Int))) < 0)) then
    some (-1)
  else
    (w_szStringS_u1 a0 k (IntKind.i64.wrap (a1 - (a0.length : Int))) 0 : Option (Int ⊕ Int)).bind fun
      | .inl x1 => (
        some x1)
      | .inr z5 => (
        some z5)
def w_szIntS (a0 : List Int) (a1 : Int) : Option Int :=
  if (decide ((IntKind.i64.wrap (a1 - (a0.length : Int))) < 0)) then
    some (-1)
  else
    some (IntKind.i64.wrap (a1 - (a0.length : Int)))
def w_szOriginS (a0 : List TOrigin) (a1 : Int) : Option Int :=
  if (decide ((IntKind.i64.wrap (a1 - (a0.length : Int))) < 0)) then
    some (-1)
  else
    some (IntKind.i64.wrap (a1 - (a0.length : Int)))
def w_szRow (a0 : TRow) (a1 : Int) : Option Int :=
  (w_szIntS a0.cells a1).bind fun x1 =>
  if (decide (x1 < 0)) then
    some (-1)
  else
    (w_szOriginS a0.from_ x1).bind fun x2 =>
    if (decide (x2 < 0)) then
      some (-1)
    else
      some x2
def w_szRowS_u1 (a0 : List TRow) : Nat → Int → Int → Option (Int ⊕ Int)
  | 0, _, _ => none
  | n_ + 1, x2, x3 =>
    if (decide (x3 < (a0.length : Int))) then
      (at? a0 x3).bind fun x4 =>
      (w_szRow x4 x2).bind fun x5 =>
      if (decide (x5 < 0)) then
        some (.inr (-1))
      else
        w_szRowS_u1 a0 n_ x5 (IntKind.i64.wrap (x3 + 1))
    else
      some (.inl x2)
def w_szRowS (k : Nat) (a0 : List TRow) (a1 : Int) : Option Int :=
  if (decide ((IntKind.i64.wrap (a1 - (a0.length : Int))) < 0)) then
    some (-1)
  else
    (w_szRowS_u1 a0 k (IntKind.i64.wrap (a1 - (a0.length : Int))) 0 : Option (Int ⊕ Int)).bind fun
      | .inl x1 => (
        some x1)
      | .inr z6 => (
        some z6)
def w_szValueS_u1 (rec_w_szValue : TValue → Int → Option Int) (a0 : List TValue) : Nat → Int → Int → Option (Int ⊕ Int)
  | 0, _, _ => none
  | n_ + 1, x2, x3 =>
    if (decide (x3 < (a0.length : Int))) then
      (at? a0 x3).bind fun x4 =>
      (rec_w_szValue x4 x2).bind fun x5 =>
      if (decide (x5 < 0)) then
        some (.inr (-1))
      else
        w_szValueS_u1 rec_w_szValue a0 n_ x5 (IntKind.i64.wrap (x3 + 1))
    else
      some (.inl x2)
mutual
def w_szValueS : Nat → (List TValue) → Int → Option Int
  | 0, _, _ => none
  | k + 1, a0, a1 =>
    if (decide ((IntKind.i64.wrap (a1 - (a0.length : Int))) < 0)) then
      some (-1)
    else
      (w_szValueS_u1 (w_szValue k) a0 k (IntKind.i64.wrap (a1 - (a0.length : Int))) 0 : Option (Int ⊕ Int)).bind fun
        | .inl x1 => (
          some x1)
        | .inr z6 => (
          some z6)
def w_szValue : Nat → TValue → Int → Option Int
  | 0, _, _ => none
  | k + 1, a0, a1 =>
    if (decide ((IntKind.i64.wrap (a1 - (a0.text.size : Int))) < 0)) then
      some (-1)
    else
      (w_szValueS k a0.list (IntKind.i64.wrap (a1 - (a0.text.size : Int)))).bind fun x1 =>
      if (decide (x1 < 0)) then
        some (-1)
      else
        (w_szStringS k a0.columns x1).bind fun x2 =>
        if (decide (x2 < 0)) then
          some (-1)
        else
          (w_szRowS k a0.rows x2).bind fun x3 =>
          if (decide (x3 < 0)) then
            some (-1)
          else
            some x3
end

def w_toStringS_u1 (a0 : List ByteArray) : Nat → (List ByteArray) → Int → Option (List ByteArray)
  | 0, _, _ => none
  | n_ + 1, x3, x4 =>
    if (decide (x4 < (a0.length : Int))) then
      (at? a0 x4).bind fun x5 =>
      (at? x3 x4).bind fun x6 =>
      w_toStringS_u1 a0 n_ (x3.set x4.toNat x5) (IntKind.i64.wrap (x4 + 1))
    else
      some x3
def w_toStringS (k : Nat) (a0 : List ByteArray) : Option (List ByteArray) :=
  (mk? 16 (a0.length : Int)).bind fun x1 =>
  (w_toStringS_u1 a0 k (List.replicate x1 (⟨#[]⟩ : ByteArray)) 0).bind fun x2 =>
  some x2
def w_toIntS_u1 (a0 : List Int) : Nat → (List Int) → Int → Option (List Int)
  | 0, _, _ => none
  | n_ + 1, x3, x4 =>
    if (decide (x4 < (a0.length : Int))) then
      (at? a0 x4).bind fun x5 =>
      (at? x3 x4).bind fun x6 =>
      w_toIntS_u1 a0 n_ (x3.set x4.toNat x5) (IntKind.i64.wrap (x4 + 1))
    else
      some x3
def w_toIntS (k : Nat) (a0 : List Int) : Option (List Int) :=
  (mk? 8 (a0.length : Int)).bind fun x1 =>
  (w_toIntS_u1 a0 k (List.replicate x1 0) 0).bind fun x2 =>
  some x2
def w_toOrigin (a0 : TOrigin) : Option TOrigin :=
  some a0
def w_toOriginS_u1 (a0 : List TOrigin) : Nat → (List TOrigin) → Int → Option (List TOrigin)
  | 0, _, _ => none
  | n_ + 1, x3, x4 =>
    if (decide (x4 < (a0.length : Int))) then
      (at? a0 x4).bind fun x5 =>
      (w_toOrigin x5).bind fun x6 =>
      (at? x3 x4).bind fun x7 =>
      w_toOriginS_u1 a0 n_ (x3.set x4.toNat x6) (IntKind.i64.wrap (x4 + 1))
    else
      some x3
def w_toOriginS (k : Nat) (a0 : List TOrigin) : Option (List TOrigin) :=
  (mk? 16 (a0.length : Int)).bind fun x1 =>
  (w_toOriginS_u1 a0 k (List.replicate x1 (TOrigin.mk 0 0)) 0).bind fun x2 =>
  some x2
def w_toRow (k : Nat) (a0 : TRow) : Option TRow :=
  (w_toIntS k a0.cells).bind fun x1 =>
  (w_toOriginS k a0.from_).bind fun x2 =>
  some (TRow.mk x1 x2)
def w_toRowS_u1 (k : Nat) (a0 : List TRow) : Nat → (List TRow) → Int → Option (List TRow)
  | 0, _, _ => none
  | n_ + 1, x3, x4 =>
    if (decide (x4 < (a0.length : Int))) then
      (at? a0 x4).bind fun x5 =>
      (w_toRow k x5).bind fun x6 =>
      (at? x3 x4).bind fun x7 =>
      w_toRowS_u1 k a0 n_ (x3.set x4.toNat x6) (IntKind.i64.wrap (x4 + 1))
    else
      some x3
def w_toRowS (k : Nat) (a0 : List TRow) : Option (List TRow) :=
  (mk? 48 (a0.length : Int)).bind fun x1 =>
  (w_toRowS_u1 k a0 k (List.replicate x1 (TRow.mk [] [])) 0).bind fun x2 =>
  some x2
def w_toValueS_u1 (rec_w_toValue : TValue → Option TValue) (a0 : List TValue) : Nat → (List TValue) → Int → Option (List TValue)
  | 0, _, _ => none
  | n_ + 1, x3, x4 =>
    if (decide (x4 < (a0.length : Int))) then
      (at? a0 x4).bind fun x5 =>
      (rec_w_toValue x5).bind fun x6 =>
      (at? x3 x4).bind fun x7 =>
      w_toValueS_u1 rec_w_toValue a0 n_ (x3.set x4.toNat x6) (IntKind.i64.wrap (x4 + 1))
    else
      some x3
mutual
def w_toValueS : Nat → (List TValue) → Option (List TValue)
  | 0, _ => none
  | k + 1, a0 =>
    (mk? 112 (a0.length : Int)).bind fun x1 =>
    (w_toValueS_u1 (w_toValue k) a0 k (List.replicate x1 (TValue.mk 0 0 0 (⟨#[]⟩ : ByteArray) [] [] [])) 0).bind fun x2 =>
    some x2
def w_toValue : Nat → TValue → Option TValue
  | 0, _ => none
  | k + 1, a0 =>
    (w_toValueS k a0.list).bind fun x1 =>
    (w_toStringS k a0.columns).bind fun x2 =>
    (w_toRowS k a0.rows).bind fun x3 =>
    some (TValue.mk a0.kind a0.n a0.step a0.text x1 x2 x3)
end

def s_l1Ints_u1 (a0 : List Int) (a1 : List Int) : Nat → Int → Option (Unit ⊕ Bool)
  | 0, _ => none
  | n_ + 1, x1 =>
    if (decide (x1 < (a0.length : Int))) then
      (at? a0 x1).bind fun x2 =>
      (at? a1 x1).bind fun x3 =>
      if (!decide (x2 = x3)) then
        some (.inr false)
      else
        s_l1Ints_u1 a0 a1 n_ (IntKind.i64.wrap (x1 + 1))
    else
      some (.inl ())
def s_l1Ints (k : Nat) (a0 : List Int) (a1 : List Int) : Option Bool :=
  if (!decide ((a0.length : Int) = (a1.length : Int))) then
    some false
  else
    (s_l1Ints_u1 a0 a1 k 0 : Option (Unit ⊕ Bool)).bind fun
      | .inl _ => (
        some true)
      | .inr z4 => (
        some z4)
def s_l3Origins_u1 (a0 : List TOrigin) (a1 : List TOrigin) : Nat → Int → Option (Unit ⊕ Bool)
  | 0, _ => none
  | n_ + 1, x1 =>
    if (decide (x1 < (a0.length : Int))) then
      (at? a0 x1).bind fun x2 =>
      (at? a1 x1).bind fun x3 =>
      if (!(decide (x2.cell = x3.cell) && decide (x2.row = x3.row))) then
        some (.inr false)
      else
        s_l3Origins_u1 a0 a1 n_ (IntKind.i64.wrap (x1 + 1))
    else
      some (.inl ())
def s_l3Origins (k : Nat) (a0 : List TOrigin) (a1 : List TOrigin) : Option Bool :=
  if (!decide ((a0.length : Int) = (a1.length : Int))) then
    some false
  else
    (s_l3Origins_u1 a0 a1 k 0 : Option (Unit ⊕ Bool)).bind fun
      | .inl _ => (
        some true)
      | .inr z4 => (
        some z4)
def s_HasRow_u1 (k : Nat) (a0 : TValue) (a1 : TRow) : Nat → Int → Option (Unit ⊕ Bool)
  | 0, _ => none
  | n_ + 1, x1 =>
    if (decide (x1 < (a0.rows.length : Int))) then
      ((at? a0.rows x1).bind fun x3 =>
      (s_l1Ints k x3.cells a1.cells).bind fun x4 =>
      if x4 then
        (s_l3Origins k x3.from_ a1.from_).bind fun x5 =>
        some x5
      else
        some false).bind fun x2 =>
      if x2 then
        some (.inr true)
      else
        s_HasRow_u1 k a0 a1 n_ (IntKind.i64.wrap (x1 + 1))
    else
      some (.inl ())
def s_HasRow (k : Nat) (a0 : TValue) (a1 : TRow) : Option Bool :=
  (s_HasRow_u1 k a0 a1 k 0 : Option (Unit ⊕ Bool)).bind fun
    | .inl _ => (
      some false)
    | .inr z6 => (
      some z6)
def i_same_int_u1 (a0 : List Int) (a1 : List Int) : Nat → Int → Option (Unit ⊕ Bool)
  | 0, _ => none
  | n_ + 1, x1 =>
    if (decide (x1 < (a0.length : Int))) then
      (at? a0 x1).bind fun x2 =>
      (at? a1 x1).bind fun x3 =>
      if (!decide (x2 = x3)) then
        some (.inr false)
      else
        i_same_int_u1 a0 a1 n_ (IntKind.i64.wrap (x1 + 1))
    else
      some (.inl ())
def i_same_int (k : Nat) (a0 : List Int) (a1 : List Int) : Option Bool :=
  if (!decide ((a0.length : Int) = (a1.length : Int))) then
    some false
  else
    (i_same_int_u1 a0 a1 k 0 : Option (Unit ⊕ Bool)).bind fun
      | .inl _ => (
        some true)
      | .inr z4 => (
        some z4)
def i_same_Origin_u1 (a0 : List TOrigin) (a1 : List TOrigin) : Nat → Int → Option (Unit ⊕ Bool)
  | 0, _ => none
  | n_ + 1, x1 =>
    if (decide (x1 < (a0.length : Int))) then
      (at? a0 x1).bind fun x2 =>
      (at? a1 x1).bind fun x3 =>
      if (!(decide (x2.cell = x3.cell) && decide (x2.row = x3.row))) then
        some (.inr false)
      else
        i_same_Origin_u1 a0 a1 n_ (IntKind.i64.wrap (x1 + 1))
    else
      some (.inl ())
def i_same_Origin (k : Nat) (a0 : List TOrigin) (a1 : List TOrigin) : Option Bool :=
  if (!decide ((a0.length : Int) = (a1.length : Int))) then
    some false
  else
    (i_same_Origin_u1 a0 a1 k 0 : Option (Unit ⊕ Bool)).bind fun
      | .inl _ => (
        some true)
      | .inr z4 => (
        some z4)
def i_HasRow_u1 (k : Nat) (a0 : TValue) (a1 : TRow) : Nat → Int → Option (Unit ⊕ Bool)
  | 0, _ => none
  | n_ + 1, x1 =>
    if (decide (x1 < (a0.rows.length : Int))) then
      (at? a0.rows x1).bind fun x2 =>
      ((i_same_int k x2.cells a1.cells).bind fun x4 =>
      if x4 then
        (i_same_Origin k x2.from_ a1.from_).bind fun x5 =>
        some x5
      else
        some false).bind fun x3 =>
      if x3 then
        some (.inr true)
      else
        i_HasRow_u1 k a0 a1 n_ (IntKind.i64.wrap (x1 + 1))
    else
      some (.inl ())
def i_HasRow (k : Nat) (a0 : TValue) (a1 : TRow) : Option Bool :=
  (i_HasRow_u1 k a0 a1 k 0 : Option (Unit ⊕ Bool)).bind fun
    | .inl _ => (
      some false)
    | .inr z6 => (
      some z6)
def w_eqStringS_u1 (a0 : List ByteArray) (a1 : List ByteArray) : Nat → Int → Option (Unit ⊕ Bool)
  | 0, _ => none
  | n_ + 1, x1 =>
    if (decide (x1 < (a0.length : Int))) then
      (at? a0 x1).bind fun x2 =>
      (at? a1 x1).bind fun x3 =>
      if (!decide (x2 = x3)) then
        some (.inr false)
      else
        w_eqStringS_u1 a0 a1 n_ (IntKind.i64.wrap (x1 + 1))
    else
      some (.inl ())
def w_eqStringS (k : Nat) (a0 : List ByteArray) (a1 : List ByteArray) : Option Bool :=
  if (!decide ((a0.length : Int) = (a1.length : Int))) then
    some false
  else
    (w_eqStringS_u1 a0 a1 k 0 : Option (Unit ⊕ Bool)).bind fun
      | .inl _ => (
        some true)
      | .inr z4 => (
        some z4)
def w_eqOrigin (a0 : TOrigin) (a1 : TOrigin) : Option Bool :=
  if (!decide (a0.cell = a1.cell)) then
    some false
  else
    if (!decide (a0.row = a1.row)) then
      some false
    else
      some true
def w_eqOriginS_u1 (a0 : List TOrigin) (a1 : List TOrigin) : Nat → Int → Option (Unit ⊕ Bool)
  | 0, _ => none
  | n_ + 1, x1 =>
    if (decide (x1 < (a0.length : Int))) then
      (at? a0 x1).bind fun x2 =>
      (at? a1 x1).bind fun x3 =>
      (w_eqOrigin x2 x3).bind fun x4 =>
      if (!x4) then
        some (.inr false)
      else
        w_eqOriginS_u1 a0 a1 n_ (IntKind.i64.wrap (x1 + 1))
    else
      some (.inl ())
def w_eqOriginS (k : Nat) (a0 : List TOrigin) (a1 : List TOrigin) : Option Bool :=
  if (!decide ((a0.length : Int) = (a1.length : Int))) then
    some false
  else
    (w_eqOriginS_u1 a0 a1 k 0 : Option (Unit ⊕ Bool)).bind fun
      | .inl _ => (
        some true)
      | .inr z5 => (
        some z5)
def w_eqRow (k : Nat) (a0 : TRow) (a1 : TRow) : Option Bool :=
  (w_eqIntS k a0.cells a1.cells).bind fun x1 =>
  if (!x1) then
    some false
  else
    (w_eqOriginS k a0.from_ a1.from_).bind fun x2 =>
    if (!x2) then
      some false
    else
      some true
def w_eqRowS_u1 (k : Nat) (a0 : List TRow) (a1 : List TRow) : Nat → Int → Option (Unit ⊕ Bool)
  | 0, _ => none
  | n_ + 1, x1 =>
    if (decide (x1 < (a0.length : Int))) then
      (at? a0 x1).bind fun x2 =>
      (at? a1 x1).bind fun x3 =>
      (w_eqRow k x2 x3).bind fun x4 =>
      if (!x4) then
        some (.inr false)
      else
        w_eqRowS_u1 k a0 a1 n_ (IntKind.i64.wrap (x1 + 1))
    else
      some (.inl ())
def w_eqRowS (k : Nat) (a0 : List TRow) (a1 : List TRow) : Option Bool :=
  if (!decide ((a0.length : Int) = (a1.length : Int))) then
    some false
  else
    (w_eqRowS_u1 k a0 a1 k 0 : Option (Unit ⊕ Bool)).bind fun
      | .inl _ => (
        some true)
      | .inr z5 => (
        some z5)
def w_eqValueS_u1 (rec_w_eqValue : TValue → TValue → Option Bool) (a0 : List TValue) (a1 : List TValue) : Nat → Int → Option (Unit ⊕ Bool)
  | 0, _ => none
  | n_ + 1, x1 =>
    if (decide (x1 < (a0.length : Int))) then
      (at? a0 x1).bind fun x2 =>
      (at? a1 x1).bind fun x3 =>
      (rec_w_eqValue x2 x3).bind fun x4 =>
      if (!x4) then
        some (.inr false)
      else
        w_eqValueS_u1 rec_w_eqValue a0 a1 n_ (IntKind.i64.wrap (x1 + 1))
    else
      some (.inl ())
mutual
def w_eqValueS : Nat → (List TValue) → (List TValue) → Option Bool
  | 0, _, _ => none
  | k + 1, a0, a1 =>
    if (!decide ((a0.length : Int) = (a1.length : Int))) then
      some false
    else
      (w_eqValueS_u1 (w_eqValue k) a0 a1 k 0 : Option (Unit ⊕ Bool)).bind fun
        | .inl _ => (
          some true)
        | .inr z5 => (
          some z5)
def w_eqValue : Nat → TValue → TValue → Option Bool
  | 0, _, _ => none
  | k + 1, a0, a1 =>
    if (!decide (a0.kind = a1.kind)) then
      some false
    else
      if (!decide (a0.n = a1.n)) then
        some false
      else
        if (!decide (a0.step = a1.step)) then
          some false
        else
          if (!decide (a0.text = a1.text)) then
            some false
          else
            (w_eqValueS k a0.list a1.list).bind fun x1 =>
            if (!x1) then
              some false
            else
              (w_eqStringS k a0.columns a1.columns).bind fun x2 =>
              if (!x2) then
                some false
              else
                (w_eqRowS k a0.rows a1.rows).bind fun x3 =>
                if (!x3) then
                  some false
                else
                  some true
end

def w_FnExactHasRow (k : Nat) (a0 : TValue) (a1 : TRow) : Option Bool :=
  (w_szValue k a0 1048576).bind fun x1 =>
  if (decide (x1 < 0)) then
    some true
  else
    (w_szRow a1 x1).bind fun x2 =>
    if (decide (x2 < 0)) then
      some true
    else
      (w_toValue k a0).bind fun x3 =>
      (w_toRow k a1).bind fun x4 =>
      (s_HasRow k x3 x4).bind fun x5 =>
      (w_toValue k a0).bind fun x6 =>
      (w_toRow k a1).bind fun x7 =>
      (i_HasRow k x6 x7).bind fun x8 =>
      if (!(x8 == x5)) then
        some false
      else
        (w_toValue k a0).bind fun x9 =>
        (w_eqValue k x6 x9).bind fun x10 =>
        if (!x10) then
          some false
        else
          (w_toRow k a1).bind fun x11 =>
          (w_eqRow k x7 x11).bind fun x12 =>
          if (!x12) then
            some false
          else
            some true
def w_szExprS_u1 (rec_w_szExpr : TExpr → Int → Option Int) (a0 : List TExpr) : Nat → Int → Int → Option (Int ⊕ Int)
  | 0, _, _ => none
  | n_ + 1, x2, x3 =>
    if (decide (x3 < (a0.length : Int))) then
      (at? a0 x3).bind fun x4 =>
      (rec_w_szExpr x4 x2).bind fun x5 =>
      if (decide (x5 < 0)) then
        some (.inr (-1))
      else
        w_szExprS_u1 rec_w_szExpr a0 n_ x5 (IntKind.i64.wrap (x3 + 1))
    else
      some (.inl x2)
mutual
def w_szExprS : Nat → (List TExpr) → Int → Option Int
  | 0, _, _ => none
  | k + 1, a0, a1 =>
    if (decide ((IntKind.i64.wrap (a1 - (a0.length : Int))) < 0)) then
      some (-1)
    else
      (w_szExprS_u1 (w_szExpr k) a0 k (IntKind.i64.wrap (a1 - (a0.length : Int))) 0 : Option (Int ⊕ Int)).bind fun
        | .inl x1 => (
          some x1)
        | .inr z6 => (
          some z6)
def w_szExpr : Nat → TExpr → Int → Option Int
  | 0, _, _ => none
  | k + 1, a0, a1 =>
    if (decide ((IntKind.i64.wrap (a1 - (a0.text.size : Int))) < 0)) then
      some (-1)
    else
      (w_szExprS k a0.args (IntKind.i64.wrap (a1 - (a0.text.size : Int)))).bind fun x1 =>
      if (decide (x1 < 0)) then
        some (-1)
      else
        some x1
end

def w_toExprS_u1 (rec_w_toExpr : TExpr → Option TExpr) (a0 : List TExpr) : Nat → (List TExpr) → Int → Option (List TExpr)
  | 0, _, _ => none
  | n_ + 1, x3, x4 =>
    if (decide (x4 < (a0.length : Int))) then
      (at? a0 x4).bind fun x5 =>
      (rec_w_toExpr x5).bind fun x6 =>
      (at? x3 x4).bind fun x7 =>
      w_toExprS_u1 rec_w_toExpr a0 n_ (x3.set x4.toNat x6) (IntKind.i64.wrap (x4 + 1))
    else
      some x3
mutual
def w_toExprS : Nat → (List TExpr) → Option (List TExpr)
  | 0, _ => none
  | k + 1, a0 =>
    (mk? 56 (a0.length : Int)).bind fun x1 =>
    (w_toExprS_u1 (w_toExpr k) a0 k (List.replicate x1 (TExpr.mk 0 0 (⟨#[]⟩ : ByteArray) [])) 0).bind fun x2 =>
    some x2
def w_toExpr : Nat → TExpr → Option TExpr
  | 0, _ => none
  | k + 1, a0 =>
    (w_toExprS k a0.args).bind fun x1 =>
    some (TExpr.mk a0.kind a0.n a0.text x1)
end

def s_l10Left_u1 (rec_s_l10Left : TExpr → Int → Option Int) (a0 : TExpr) : Nat → Int → Int → Option Int
  | 0, _, _ => none
  | n_ + 1, x2, x3 =>
    (if (decide (x3 < (a0.args.length : Int))) then
      some (decide (0 ≤ x2))
    else
      some false).bind fun x4 =>
    if x4 then
      (at? a0.args x3).bind fun x5 =>
      (rec_s_l10Left x5 x2).bind fun x6 =>
      s_l10Left_u1 rec_s_l10Left a0 n_ x6 (IntKind.i64.wrap (x3 + 1))
    else
      some x2
def s_l10Left : Nat → TExpr → Int → Option Int
  | 0, _, _ => none
  | k + 1, a0, a1 =>
    (s_l10Left_u1 (s_l10Left k) a0 k (IntKind.i64.wrap (a1 - 1)) 0).bind fun x1 =>
    some x1
def s_l1Max (a0 : Int) (a1 : Int) : Option Int :=
  if (decide (a1 < a0)) then
    some a0
  else
    some a1
def s_NestingOf_u1 (rec_s_NestingOf : TExpr → Option Int) (a0 : TExpr) : Nat → Int → Int → Option Int
  | 0, _, _ => none
  | n_ + 1, x2, x3 =>
    if (decide (x3 < (a0.args.length : Int))) then
      (at? a0.args x3).bind fun x4 =>
      (rec_s_NestingOf x4).bind fun x5 =>
      (s_l1Max x2 x5).bind fun x6 =>
      s_NestingOf_u1 rec_s_NestingOf a0 n_ x6 (IntKind.i64.wrap (x3 + 1))
    else
      some x2
def s_NestingOf : Nat → TExpr → Option Int
  | 0, _ => none
  | k + 1, a0 =>
    (s_NestingOf_u1 (s_NestingOf k) a0 k 0 0).bind fun x1 =>
    some (IntKind.i64.wrap (x1 + 1))
def s_IsValidText_u1 (a0 : ByteArray) : Nat → Int → Option (Unit ⊕ Bool)
  | 0, _ => none
  | n_ + 1, x1 =>
    if (decide (x1 < (a0.size : Int))) then
      ((at? a0.data.toList x1).bind fun x3 =>
      if (decide ((x3.toNat : Int) < 32)) then
        some true
      else
        if (decide (126 < (x3.toNat : Int))) then
          some true
        else
          some (decide ((x3.toNat : Int) = 34))).bind fun x2 =>
      if x2 then
        some (.inr false)
      else
        s_IsValidText_u1 a0 n_ (IntKind.i64.wrap (x1 + 1))
    else
      some (.inl ())
def s_IsValidText (k : Nat) (a0 : ByteArray) : Option Bool :=
  (s_IsValidText_u1 a0 k 0 : Option (Unit ⊕ Bool)).bind fun
    | .inl _ => (
      some (decide ((a0.size : Int) ≤ 20)))
    | .inr z4 => (
      some z4)
def s_l2Shape_u1 (a0 : ByteArray) : Nat → Int → Option (Unit ⊕ Bool)
  | 0, _ => none
  | n_ + 1, x1 =>
    if (decide (x1 < (a0.size : Int))) then
      ((at? a0.data.toList x1).bind fun x3 =>
      if (decide (97 ≤ (x3.toNat : Int))) then
        some (decide ((x3.toNat : Int) ≤ 122))
      else
        some false).bind fun x2 =>
      ((at? a0.data.toList x1).bind fun x5 =>
      if (decide (48 ≤ (x5.toNat : Int))) then
        some (decide ((x5.toNat : Int) ≤ 57))
      else
        some false).bind fun x4 =>
      (if (!x2) then
        if (decide (x1 = 0)) then
          some true
        else
          some (!x4)
      else
        some false).bind fun x6 =>
      if x6 then
        some (.inr false)
      else
        s_l2Shape_u1 a0 n_ (IntKind.i64.wrap (x1 + 1))
    else
      some (.inl ())
def s_l2Shape (k : Nat) (a0 : ByteArray) : Option Bool :=
  (s_l2Shape_u1 a0 k 0 : Option (Unit ⊕ Bool)).bind fun
    | .inl _ => (
      some (decide (0 < (a0.size : Int))))
    | .inr z7 => (
      some z7)
def s_l2Reserved : Option (List ByteArray) :=
  some [(⟨#[108, 101, 116]⟩ : ByteArray), (⟨#[105, 110]⟩ : ByteArray), (⟨#[105, 102]⟩ : ByteArray), (⟨#[116, 104, 101, 110]⟩ : ByteArray), (⟨#[101, 108, 115, 101]⟩ : ByteArray), (⟨#[102, 111, 114]⟩ : ByteArray), (⟨#[100, 111]⟩ : ByteArray), (⟨#[108, 101, 110]⟩ : ByteArray), (⟨#[115, 117, 109]⟩ : ByteArray), (⟨#[116, 97, 107, 101]⟩ : ByteArray), (⟨#[115, 107, 105, 112]⟩ : ByteArray), (⟨#[114, 97, 110, 103, 101]⟩ : ByteArray), (⟨#[110, 116, 104]⟩ : ByteArray), (⟨#[119, 104, 101, 114, 101]⟩ : ByteArray), (⟨#[107, 101, 101, 112]⟩ : ByteArray), (⟨#[97, 100, 100]⟩ : ByteArray), (⟨#[103, 114, 111, 117, 112]⟩ : ByteArray), (⟨#[106, 111, 105, 110]⟩ : ByteArray), (⟨#[99, 111, 108, 117, 109, 110]⟩ : ByteArray), (⟨#[114, 111, 119, 115]⟩ : ByteArray), (⟨#[99, 108, 111, 99, 107]⟩ : ByteArray), (⟨#[99, 104, 97, 110, 99, 101]⟩ : ByteArray), (⟨#[102, 105, 108, 101]⟩ : ByteArray), (⟨#[116, 97, 98, 108, 101]⟩ : ByteArray)]
def s_l1Has_u1 (a0 : List ByteArray) (a1 : ByteArray) : Nat → Int → Option (Unit ⊕ Bool)
  | 0, _ => none
  | n_ + 1, x1 =>
    if (decide (x1 < (a0.length : Int))) then
      (at? a0 x1).bind fun x2 =>
      if (decide (x2 = a1)) then
        some (.inr true)
      else
        s_l1Has_u1 a0 a1 n_ (IntKind.i64.wrap (x1 + 1))
    else
      some (.inl ())
def s_l1Has (k : Nat) (a0 : List ByteArray) (a1 : ByteArray) : Option Bool :=
  (s_l1Has_u1 a0 a1 k 0 : Option (Unit ⊕ Bool)).bind fun
    | .inl _ => (
      some false)
    | .inr z3 => (
      some z3)
def s_IsReserved (k : Nat) (a0 : ByteArray) : Option Bool :=
  (s_l2Reserved).bind fun x1 =>
  (s_l1Has k x1 a0).bind fun x2 =>
  some x2
def s_IsValidName (k : Nat) (a0 : ByteArray) : Option Bool :=
  ((s_l2Shape k a0).bind fun x2 =>
  if x2 then
    if (decide ((a0.size : Int) ≤ 8)) then
      (s_IsReserved k a0).bind fun x3 =>
      some (!x3)
    else
      some false
  else
    some false).bind fun x1 =>
  some x1
def s_ArgumentCount (a0 : ByteArray) : Option Int :=
  if (decide (a0 = (⟨#[99, 108, 111, 99, 107]⟩ : ByteArray))) then
    some 0
  else
    (if (decide (a0 = (⟨#[108, 101, 110]⟩ : ByteArray))) then
      some true
    else
      if (decide (a0 = (⟨#[115, 117, 109]⟩ : ByteArray))) then
        some true
      else
        if (decide (a0 = (⟨#[114, 111, 119, 115]⟩ : ByteArray))) then
          some true
        else
          if (decide (a0 = (⟨#[99, 104, 97, 110, 99, 101]⟩ : ByteArray))) then
            some true
          else
            some (decide (a0 = (⟨#[102, 105, 108, 101]⟩ : ByteArray)))).bind fun x1 =>
    if x1 then
      some 1
    else
      (if (decide (a0 = (⟨#[116, 97, 107, 101]⟩ : ByteArray))) then
        some true
      else
        if (decide (a0 = (⟨#[115, 107, 105, 112]⟩ : ByteArray))) then
          some true
        else
          if (decide (a0 = (⟨#[114, 97, 110, 103, 101]⟩ : ByteArray))) then
            some true
          else
            if (decide (a0 = (⟨#[110, 116, 104]⟩ : ByteArray))) then
              some true
            else
              if (decide (a0 = (⟨#[107, 101, 101, 112]⟩ : ByteArray))) then
                some true
              else
                if (decide (a0 = (⟨#[99, 111, 108, 117, 109, 110]⟩ : ByteArray))) then
                  some true
                else
                  some (decide (a0 = (⟨#[116, 97, 98, 108, 101]⟩ : ByteArray)))).bind fun x2 =>
      if x2 then
        some 2
      else
        (if (decide (a0 = (⟨#[119, 104, 101, 114, 101]⟩ : ByteArray))) then
          some true
        else
          if (decide (a0 = (⟨#[103, 114, 111, 117, 112]⟩ : ByteArray))) then
            some true
          else
            some (decide (a0 = (⟨#[106, 111, 105, 110]⟩ : ByteArray)))).bind fun x3 =>
        if x3 then
          some 3
        else
          if (decide (a0 = (⟨#[97, 100, 100]⟩ : ByteArray))) then
            some 4
          else
            some (-1)
def s_l10Node (k : Nat) (a0 : TExpr) : Option Bool :=
  if (decide (a0.kind = 1)) then
    (if (decide ((a0.args.length : Int) = 0)) then
      if (decide (a0.text = (⟨#[]⟩ : ByteArray))) then
        (s_l1In a0.n 0 1000000000).bind fun x2 =>
        some x2
      else
        some false
    else
      some false).bind fun x1 =>
    some x1
  else
    if (decide (a0.kind = 2)) then
      (if (decide ((a0.args.length : Int) = 0)) then
        if (decide (a0.n = 0)) then
          (s_IsValidText k a0.text).bind fun x4 =>
          some x4
        else
          some false
      else
        some false).bind fun x3 =>
      some x3
    else
      if (decide (a0.kind = 3)) then
        (if (decide ((a0.args.length : Int) = 0)) then
          if (decide (a0.n = 0)) then
            (s_IsValidName k a0.text).bind fun x6 =>
            some x6
          else
            some false
        else
          some false).bind fun x5 =>
        some x5
      else
        if (decide (a0.kind = 4)) then
          (if (decide (a0.n = 0)) then
            if (decide (a0.text = (⟨#[]⟩ : ByteArray))) then
              some (decide ((a0.args.length : Int) ≤ 8))
            else
              some false
          else
            some false).bind fun x7 =>
          some x7
        else
          if (decide (a0.kind = 5)) then
            (if (decide (a0.n = 0)) then
              (s_ArgumentCount a0.text).bind fun x9 =>
              some (decide ((a0.args.length : Int) = x9))
            else
              some false).bind fun x8 =>
            some x8
          else
            if (decide (a0.kind = 6)) then
              (if (decide (a0.text = (⟨#[]⟩ : ByteArray))) then
                if (decide ((a0.args.length : Int) = 2)) then
                  (s_l1In a0.n 1 5).bind fun x11 =>
                  some x11
                else
                  some false
              else
                some false).bind fun x10 =>
              some x10
            else
              (if (decide (a0.kind = 7)) then
                some true
              else
                some (decide (a0.kind = 9))).bind fun x12 =>
              if x12 then
                (if (decide (a0.n = 0)) then
                  if (decide ((a0.args.length : Int) = 2)) then
                    (s_IsValidName k a0.text).bind fun x14 =>
                    some x14
                  else
                    some false
                else
                  some false).bind fun x13 =>
                some x13
              else
                if (decide (a0.kind = 8)) then
                  (if (decide (a0.n = 0)) then
                    if (decide (a0.text = (⟨#[]⟩ : ByteArray))) then
                      some (decide ((a0.args.length : Int) = 3))
                    else
                      some false
                  else
                    some false).bind fun x15 =>
                  some x15
                else
                  some false
def s_l10All_u1 (rec_s_l10All : TExpr → Option Bool) (a0 : TExpr) : Nat → Int → Option (Unit ⊕ Bool)
  | 0, _ => none
  | n_ + 1, x1 =>
    if (decide (x1 < (a0.args.length : Int))) then
      (at? a0.args x1).bind fun x2 =>
      (rec_s_l10All x2).bind fun x3 =>
      if (!x3) then
        some (.inr false)
      else
        s_l10All_u1 rec_s_l10All a0 n_ (IntKind.i64.wrap (x1 + 1))
    else
      some (.inl ())
def s_l10All : Nat → TExpr → Option Bool
  | 0, _ => none
  | k + 1, a0 =>
    (s_l10All_u1 (s_l10All k) a0 k 0 : Option (Unit ⊕ Bool)).bind fun
      | .inl _ => (
        (s_l10Node k a0).bind fun x4 =>
        some x4)
      | .inr z5 => (
        some z5)
def s_IsValidExpr (k : Nat) (a0 : TExpr) : Option Bool :=
  ((s_l10Left k a0 40).bind fun x2 =>
  if (decide (0 ≤ x2)) then
    (s_NestingOf k a0).bind fun x3 =>
    if (decide (x3 ≤ 8)) then
      (s_l10All k a0).bind fun x4 =>
      some x4
    else
      some false
  else
    some false).bind fun x1 =>
  some x1
def s_l36Tables (a0 : ByteArray) : Option Int :=
  (if (decide (a0 = (⟨#[119, 104, 101, 114, 101]⟩ : ByteArray))) then
    some true
  else
    if (decide (a0 = (⟨#[107, 101, 101, 112]⟩ : ByteArray))) then
      some true
    else
      if (decide (a0 = (⟨#[97, 100, 100]⟩ : ByteArray))) then
        some true
      else
        some (decide (a0 = (⟨#[103, 114, 111, 117, 112]⟩ : ByteArray)))).bind fun x1 =>
  if x1 then
    some 1
  else
    if (decide (a0 = (⟨#[106, 111, 105, 110]⟩ : ByteArray))) then
      some 2
    else
      some 0
def s_l36Pipe_u1 (rec_s_l36Pipe : TExpr → Option Bool) (a0 : TExpr) (x1 : Int) : Nat → Int → Option (Unit ⊕ Bool)
  | 0, _ => none
  | n_ + 1, x3 =>
    if (decide (x3 < (a0.args.length : Int))) then
      (at? a0.args x3).bind fun x4 =>
      (if (decide (x3 < (IntKind.i64.wrap ((a0.args.length : Int) - x1)))) then
        if (!decide (x4.kind = 1)) then
          if (!decide (x4.kind = 2)) then
            some true
          else
            some false
        else
          some false
      else
        (rec_s_l36Pipe x4).bind fun x6 =>
        some (!x6)).bind fun x5 =>
      if x5 then
        some (.inr false)
      else
        s_l36Pipe_u1 rec_s_l36Pipe a0 x1 n_ (IntKind.i64.wrap (x3 + 1))
    else
      some (.inl ())
def s_l36Pipe : Nat → TExpr → Option Bool
  | 0, _ => none
  | k + 1, a0 =>
    if (decide (a0.kind = 3)) then
      some true
    else
      (s_l36Tables a0.text).bind fun x1 =>
      (if (!decide (a0.kind = 5)) then
        some true
      else
        some (decide (x1 = 0))).bind fun x2 =>
      if x2 then
        some false
      else
        (s_l36Pipe_u1 (s_l36Pipe k) a0 x1 k 0 : Option (Unit ⊕ Bool)).bind fun
          | .inl _ => (
            some true)
          | .inr z7 => (
            some z7)
def s_IsPipeline (k : Nat) (a0 : TExpr) : Option Bool :=
  ((s_IsValidExpr k a0).bind fun x2 =>
  if x2 then
    (s_l36Pipe k a0).bind fun x3 =>
    some x3
  else
    some false).bind fun x1 =>
  some x1
def i_NodeCount_u1 (rec_i_NodeCount : TExpr → Option Int) (a0 : TExpr) : Nat → Int → Int → Option Int
  | 0, _, _ => none
  | n_ + 1, x2, x3 =>
    if (decide (x3 < (a0.args.length : Int))) then
      (at? a0.args x3).bind fun x4 =>
      (rec_i_NodeCount x4).bind fun x5 =>
      i_NodeCount_u1 rec_i_NodeCount a0 n_ (IntKind.i64.wrap (x2 + x5)) (IntKind.i64.wrap (x3 + 1))
    else
      some x2
def i_NodeCount : Nat → TExpr → Option Int
  | 0, _ => none
  | k + 1, a0 =>
    (i_NodeCount_u1 (i_NodeCount k) a0 k 1 0).bind fun x1 =>
    some x1
def i_NestingOf_u1 (rec_i_NestingOf : TExpr → Option Int) (a0 : TExpr) : Nat → Int → Int → Option Int
  | 0, _, _ => none
  | n_ + 1, x2, x3 =>
    if (decide (x3 < (a0.args.length : Int))) then
      (at? a0.args x3).bind fun x4 =>
      (rec_i_NestingOf x4).bind fun x5 =>
      i_NestingOf_u1 rec_i_NestingOf a0 n_ (if x5 > x2 then x5 else x2) (IntKind.i64.wrap (x3 + 1))
    else
      some x2
def i_NestingOf : Nat → TExpr → Option Int
  | 0, _ => none
  | k + 1, a0 =>
    (i_NestingOf_u1 (i_NestingOf k) a0 k 0 0).bind fun x1 =>
    some (IntKind.i64.wrap (x1 + 1))
def i_IsValidText_u1 (a0 : ByteArray) : Nat → Int → Option (Unit ⊕ Bool)
  | 0, _ => none
  | n_ + 1, x1 =>
    if (decide (x1 < (a0.size : Int))) then
      ((at? a0.data.toList x1).bind fun x3 =>
      if (decide ((x3.toNat : Int) < 32)) then
        some true
      else
        if (decide (126 < (x3.toNat : Int))) then
          some true
        else
          some (decide ((x3.toNat : Int) = 34))).bind fun x2 =>
      if x2 then
        some (.inr false)
      else
        i_IsValidText_u1 a0 n_ (IntKind.i64.wrap (x1 + 1))
    else
      some (.inl ())
def i_IsValidText (k : Nat) (a0 : ByteArray) : Option Bool :=
  (i_IsValidText_u1 a0 k 0 : Option (Unit ⊕ Bool)).bind fun
    | .inl _ => (
      some (decide ((a0.size : Int) ≤ 20)))
    | .inr z4 => (
      some z4)
def i_isWord_u1 (a0 : ByteArray) : Nat → Int → Option (Unit ⊕ Bool)
  | 0, _ => none
  | n_ + 1, x1 =>
    if (decide (x1 < (a0.size : Int))) then
      ((at? a0.data.toList x1).bind fun x3 =>
      if (decide (97 ≤ (x3.toNat : Int))) then
        some (decide ((x3.toNat : Int) ≤ 122))
      else
        some false).bind fun x2 =>
      (if (!x2) then
        if (decide (x1 = 0)) then
          some true
        else
          (at? a0.data.toList x1).bind fun x5 =>
          if (decide ((x5.toNat : Int) < 48)) then
            some true
          else
            some (decide (57 < (x5.toNat : Int)))
      else
        some false).bind fun x4 =>
      if x4 then
        some (.inr false)
      else
        i_isWord_u1 a0 n_ (IntKind.i64.wrap (x1 + 1))
    else
      some (.inl ())
def i_isWord (k : Nat) (a0 : ByteArray) : Option Bool :=
  (i_isWord_u1 a0 k 0 : Option (Unit ⊕ Bool)).bind fun
    | .inl _ => (
      (i_within (a0.size : Int) 1 8).bind fun x6 =>
      some x6)
    | .inr z7 => (
      some z7)
def i_ArgumentCount (a0 : ByteArray) : Option Int :=
  if (decide (a0 = (⟨#[99, 108, 111, 99, 107]⟩ : ByteArray))) then
    some 0
  else
    (if (decide (a0 = (⟨#[108, 101, 110]⟩ : ByteArray))) then
      some true
    else
      if (decide (a0 = (⟨#[115, 117, 109]⟩ : ByteArray))) then
        some true
      else
        if (decide (a0 = (⟨#[114, 111, 119, 115]⟩ : ByteArray))) then
          some true
        else
          if (decide (a0 = (⟨#[99, 104, 97, 110, 99, 101]⟩ : ByteArray))) then
            some true
          else
            some (decide (a0 = (⟨#[102, 105, 108, 101]⟩ : ByteArray)))).bind fun x1 =>
    if x1 then
      some 1
    else
      (if (decide (a0 = (⟨#[116, 97, 107, 101]⟩ : ByteArray))) then
        some true
      else
        if (decide (a0 = (⟨#[115, 107, 105, 112]⟩ : ByteArray))) then
          some true
        else
          if (decide (a0 = (⟨#[114, 97, 110, 103, 101]⟩ : ByteArray))) then
            some true
          else
            if (decide (a0 = (⟨#[110, 116, 104]⟩ : ByteArray))) then
              some true
            else
              if (decide (a0 = (⟨#[107, 101, 101, 112]⟩ : ByteArray))) then
                some true
              else
                if (decide (a0 = (⟨#[99, 111, 108, 117, 109, 110]⟩ : ByteArray))) then
                  some true
                else
                  some (decide (a0 = (⟨#[116, 97, 98, 108, 101]⟩ : ByteArray)))).bind fun x2 =>
      if x2 then
        some 2
      else
        (if (decide (a0 = (⟨#[119, 104, 101, 114, 101]⟩ : ByteArray))) then
          some true
        else
          if (decide (a0 = (⟨#[103, 114, 111, 117, 112]⟩ : ByteArray))) then
            some true
          else
            some (decide (a0 = (⟨#[106, 111, 105, 110]⟩ : ByteArray)))).bind fun x3 =>
        if x3 then
          some 3
        else
          if (decide (a0 = (⟨#[97, 100, 100]⟩ : ByteArray))) then
            some 4
          else
            some (-1)
def i_IsReserved (a0 : ByteArray) : Option Bool :=
  (if (decide (a0 = (⟨#[108, 101, 116]⟩ : ByteArray))) then
    some true
  else
    if (decide (a0 = (⟨#[105, 110]⟩ : ByteArray))) then
      some true
    else
      if (decide (a0 = (⟨#[105, 102]⟩ : ByteArray))) then
        some true
      else
        if (decide (a0 = (⟨#[116, 104, 101, 110]⟩ : ByteArray))) then
          some true
        else
          if (decide (a0 = (⟨#[101, 108, 115, 101]⟩ : ByteArray))) then
            some true
          else
            if (decide (a0 = (⟨#[102, 111, 114]⟩ : ByteArray))) then
              some true
            else
              some (decide (a0 = (⟨#[100, 111]⟩ : ByteArray)))).bind fun x1 =>
  if x1 then
    some true
  else
    (i_ArgumentCount a0).bind fun x2 =>
    some (decide (0 ≤ x2))
def i_IsValidName (k : Nat) (a0 : ByteArray) : Option Bool :=
  ((i_isWord k a0).bind fun x2 =>
  if x2 then
    (i_IsReserved a0).bind fun x3 =>
    some (!x3)
  else
    some false).bind fun x1 =>
  some x1
def i_isNode (k : Nat) (a0 : TExpr) : Option Bool :=
  if (decide (a0.kind = 1)) then
    ((i_within a0.n 0 1000000000).bind fun x2 =>
    if x2 then
      if (decide (a0.text = (⟨#[]⟩ : ByteArray))) then
        some (decide ((a0.args.length : Int) = 0))
      else
        some false
    else
      some false).bind fun x1 =>
    some x1
  else
    if (decide (a0.kind = 2)) then
      (if (decide (a0.n = 0)) then
        (i_IsValidText k a0.text).bind fun x4 =>
        if x4 then
          some (decide ((a0.args.length : Int) = 0))
        else
          some false
      else
        some false).bind fun x3 =>
      some x3
    else
      if (decide (a0.kind = 3)) then
        (if (decide (a0.n = 0)) then
          (i_IsValidName k a0.text).bind fun x6 =>
          if x6 then
            some (decide ((a0.args.length : Int) = 0))
          else
            some false
        else
          some false).bind fun x5 =>
        some x5
      else
        if (decide (a0.kind = 4)) then
          (if (decide (a0.n = 0)) then
            if (decide (a0.text = (⟨#[]⟩ : ByteArray))) then
              some (decide ((a0.args.length : Int) ≤ 8))
            else
              some false
          else
            some false).bind fun x7 =>
          some x7
        else
          if (decide (a0.kind = 5)) then
            (if (decide (a0.n = 0)) then
              (i_ArgumentCount a0.text).bind fun x9 =>
              some (decide ((a0.args.length : Int) = x9))
            else
              some false).bind fun x8 =>
            some x8
          else
            if (decide (a0.kind = 6)) then
              ((i_within a0.n 1 5).bind fun x11 =>
              if x11 then
                if (decide (a0.text = (⟨#[]⟩ : ByteArray))) then
                  some (decide ((a0.args.length : Int) = 2))
                else
                  some false
              else
                some false).bind fun x10 =>
              some x10
            else
              (if (decide (a0.kind = 7)) then
                some true
              else
                some (decide (a0.kind = 9))).bind fun x12 =>
              if x12 then
                (if (decide (a0.n = 0)) then
                  (i_IsValidName k a0.text).bind fun x14 =>
                  if x14 then
                    some (decide ((a0.args.length : Int) = 2))
                  else
                    some false
                else
                  some false).bind fun x13 =>
                some x13
              else
                if (decide (a0.kind = 8)) then
                  (if (decide (a0.n = 0)) then
                    if (decide (a0.text = (⟨#[]⟩ : ByteArray))) then
                      some (decide ((a0.args.length : Int) = 3))
                    else
                      some false
                  else
                    some false).bind fun x15 =>
                  some x15
                else
                  some false
def i_areNodes_u1 (rec_i_areNodes : TExpr → Option Bool) (a0 : TExpr) : Nat → Int → Option (Unit ⊕ Bool)
  | 0, _ => none
  | n_ + 1, x1 =>
    if (decide (x1 < (a0.args.length : Int))) then
      (at? a0.args x1).bind fun x2 =>
      (rec_i_areNodes x2).bind fun x3 =>
      if (!x3) then
        some (.inr false)
      else
        i_areNodes_u1 rec_i_areNodes a0 n_ (IntKind.i64.wrap (x1 + 1))
    else
      some (.inl ())
def i_areNodes : Nat → TExpr → Option Bool
  | 0, _ => none
  | k + 1, a0 =>
    (i_areNodes_u1 (i_areNodes k) a0 k 0 : Option (Unit ⊕ Bool)).bind fun
      | .inl _ => (
        (i_isNode k a0).bind fun x4 =>
        some x4)
      | .inr z5 => (
        some z5)
def i_IsValidExpr (k : Nat) (a0 : TExpr) : Option Bool :=
  ((i_NodeCount k a0).bind fun x2 =>
  if (decide (x2 ≤ 40)) then
    (i_NestingOf k a0).bind fun x3 =>
    if (decide (x3 ≤ 8)) then
      (i_areNodes k a0).bind fun x4 =>
      some x4
    else
      some false
  else
    some false).bind fun x1 =>
  some x1
def i_isPipe_u1 (rec_i_isPipe : TExpr → Option Bool) (a0 : TExpr) (x1 : Int) : Nat → Int → Option (Unit ⊕ Bool)
  | 0, _ => none
  | n_ + 1, x3 =>
    if (decide (x3 < (a0.args.length : Int))) then
      ((at? a0.args x3).bind fun x4 =>
      if (decide ((IntKind.i64.wrap ((a0.args.length : Int) - x1)) ≤ x3)) then
        (rec_i_isPipe x4).bind fun x5 =>
        if (!x5) then
          some (.inr false)
        else
          some (.inl ())
      else
        (if (!decide (x4.kind = 1)) then
          some (!decide (x4.kind = 2))
        else
          some false).bind fun x6 =>
        if x6 then
          some (.inr false)
        else
          some (.inl ()) : Option (Unit ⊕ Bool)).bind fun
        | .inl _ => (
          i_isPipe_u1 rec_i_isPipe a0 x1 n_ (IntKind.i64.wrap (x3 + 1)))
        | .inr z7 => (
          some (.inr z7))
    else
      some (.inl ())
def i_isPipe : Nat → TExpr → Option Bool
  | 0, _ => none
  | k + 1, a0 =>
    if (decide (a0.kind = 3)) then
      some true
    else
      ((if (decide (a0.text = (⟨#[119, 104, 101, 114, 101]⟩ : ByteArray))) then
        some true
      else
        if (decide (a0.text = (⟨#[107, 101, 101, 112]⟩ : ByteArray))) then
          some true
        else
          if (decide (a0.text = (⟨#[97, 100, 100]⟩ : ByteArray))) then
            some true
          else
            some (decide (a0.text = (⟨#[103, 114, 111, 117, 112]⟩ : ByteArray)))).bind fun x2 =>
      if x2 then
        some (.inl 1)
      else
        if (decide (a0.text = (⟨#[106, 111, 105, 110]⟩ : ByteArray))) then
          some (.inl 2)
        else
          some (.inr false) : Option (Int ⊕ Bool)).bind fun
        | .inl x1 => (
          if (!decide (a0.kind = 5)) then
            some false
          else
            (i_isPipe_u1 (i_isPipe k) a0 x1 k 0 : Option (Unit ⊕ Bool)).bind fun
              | .inl _ => (
                some true)
              | .inr z8 => (
                some z8))
        | .inr z9 => (
          some z9)
def i_IsPipeline (k : Nat) (a0 : TExpr) : Option Bool :=
  ((i_IsValidExpr k a0).bind fun x2 =>
  if x2 then
    (i_isPipe k a0).bind fun x3 =>
    some x3
  else
    some false).bind fun x1 =>
  some x1
def w_eqExprS_u1 (rec_w_eqExpr : TExpr → TExpr → Option Bool) (a0 : List TExpr) (a1 : List TExpr) : Nat → Int → Option (Unit ⊕ Bool)
  | 0, _ => none
  | n_ + 1, x1 =>
    if (decide (x1 < (a0.length : Int))) then
      (at? a0 x1).bind fun x2 =>
      (at? a1 x1).bind fun x3 =>
      (rec_w_eqExpr x2 x3).bind fun x4 =>
      if (!x4) then
        some (.inr false)
      else
        w_eqExprS_u1 rec_w_eqExpr a0 a1 n_ (IntKind.i64.wrap (x1 + 1))
    else
      some (.inl ())
mutual
def w_eqExprS : Nat → (List TExpr) → (List TExpr) → Option Bool
  | 0, _, _ => none
  | k + 1, a0, a1 =>
    if (!decide ((a0.length : Int) = (a1.length : Int))) then
      some false
    else
      (w_eqExprS_u1 (w_eqExpr k) a0 a1 k 0 : Option (Unit ⊕ Bool)).bind fun
        | .inl _ => (
          some true)
        | .inr z5 => (
          some z5)
def w_eqExpr : Nat → TExpr → TExpr → Option Bool
  | 0, _, _ => none
  | k + 1, a0, a1 =>
    if (!decide (a0.kind = a1.kind)) then
      some false
    else
      if (!decide (a0.n = a1.n)) then
        some false
      else
        if (!decide (a0.text = a1.text)) then
          some false
        else
          (w_eqExprS k a0.args a1.args).bind fun x1 =>
          if (!x1) then
            some false
          else
            some true
end

def w_FnExactIsPipeline (k : Nat) (a0 : TExpr) : Option Bool :=
  (w_szExpr k a0 1048576).bind fun x1 =>
  if (decide (x1 < 0)) then
    some true
  else
    (w_toExpr k a0).bind fun x2 =>
    (s_IsPipeline k x2).bind fun x3 =>
    (w_toExpr k a0).bind fun x4 =>
    (i_IsPipeline k x4).bind fun x5 =>
    if (!(x5 == x3)) then
      some false
    else
      (w_toExpr k a0).bind fun x6 =>
      (w_eqExpr k x4 x6).bind fun x7 =>
      if (!x7) then
        some false
      else
        some true
end Go.Proofs.Ytopjlbifglacpaa
