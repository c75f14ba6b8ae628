/- Functions that mirror the program's own, one each. Written by a program of mine. -/
import Derived.Test.YtbknilpmpjjfpaaSx
import Derived.Test.YtbknilpmpjjfpaaMd0
import Derived.Test.YtbknilpmpjjfpaaMd1
import Derived.Test.YtbknilpmpjjfpaaMd2
import Derived.Test.YtbknilpmpjjfpaaMd3
import Derived.Test.YtbknilpmpjjfpaaMd4
import Derived.Test.YtbknilpmpjjfpaaMd5
import Derived.Test.YtbknilpmpjjfpaaMd6
set_option linter.unusedSimpArgs false
set_option linter.unusedVariables false
namespace Go.Proofs.Ytbknilpmpjjfpaa
open Go.RowKit Am
def s_l3Copy_u1 (rec_s_l3Copy : TValue → Option TValue) (a0 : TValue) : Nat → (List TValue) → Int → Option (List TValue)
  | 0, _, _ => none
  | n_ + 1, x3, x4 =>
    if (decide (x4 < (a0.list.length : Int))) then
      (at? a0.list x4).bind fun x5 =>
      (rec_s_l3Copy x5).bind fun x6 =>
      (app? 112 x3 [x6]).bind fun x7 =>
      s_l3Copy_u1 rec_s_l3Copy a0 n_ x7 (IntKind.i64.wrap (x4 + 1))
    else
      some x3
def s_l3Copy_u2 (a0 : TValue) : Nat → (List TRow) → Int → Option (List TRow)
  | 0, _, _ => none
  | n_ + 1, x9, x10 =>
    if (decide (x10 < (a0.rows.length : Int))) then
      (at? a0.rows x10).bind fun x11 =>
      (s_l3Row x11).bind fun x12 =>
      (app? 48 x9 [x12]).bind fun x13 =>
      s_l3Copy_u2 a0 n_ x13 (IntKind.i64.wrap (x10 + 1))
    else
      some x9
def s_l3Copy : Nat → TValue → Option TValue
  | 0, _ => none
  | k + 1, a0 =>
    (app? 16 ([] : List ByteArray) a0.columns).bind fun x1 =>
    (s_l3Copy_u1 (s_l3Copy k) a0 k [] 0).bind fun x2 =>
    (s_l3Copy_u2 a0 k [] 0).bind fun x8 =>
    some (TValue.mk a0.kind a0.n a0.step a0.text x2 x1 x8)
def s_SourceTable_u1 (a0 : Int) : Nat → (List TRow) → Int → Option (List TRow)
  | 0, _, _ => none
  | n_ + 1, x6, x7 =>
    if (decide (x7 < (x6.length : Int))) then
      (at? x6 x7).bind fun x8 =>
      s_SourceTable_u1 a0 n_ (x6.set x7.toNat (TRow.mk x8.cells [(TOrigin.mk a0 x7)])) (IntKind.i64.wrap (x7 + 1))
    else
      some x6
def s_SourceTable (k : Nat) (a0 : Int) (a1 : TValue) : Option TValue :=
  (if (!decide (a1.kind = 5)) then
    some true
  else
    (s_IsValidValue k a1).bind fun x2 =>
    if (!x2) then
      some true
    else
      some (decide (a0 < 0))).bind fun x1 =>
  if x1 then
    (s_ErrorValue 4).bind fun x3 =>
    some x3
  else
    (s_l3Copy k a1).bind fun x4 =>
    (s_SourceTable_u1 a0 k x4.rows 0).bind fun x5 =>
    some (TValue.mk x4.kind x4.n x4.step x4.text x4.list x4.columns x5)
def s_l8Source_u2 (x10 : Int) : Nat → (List Int) → Int → Int → (List TRow) → Int → Option ((List Int) × Int × Int × (List TRow))
  | 0, _, _, _, _, _ => none
  | n_ + 1, x15, x16, x17, x18, x19 =>
    (at? x18 x10).bind fun x20 =>
    if (decide (x19 < (x20.cells.length : Int))) then
      (s_l1Below (Tl1Cur.mk x15 x16 x17) 4).bind fun x21 =>
      (at? x20.cells x19).bind fun x22 =>
      s_l8Source_u2 x10 n_ x21.2.b x21.2.i x21.2.h (x18.set x10.toNat (TRow.mk (x20.cells.set x19.toNat x21.1) x20.from_)) (IntKind.i64.wrap (x19 + 1))
    else
      some (x15, x16, x17, x18)
def s_l8Source_u1 (k : Nat) : Nat → (List Int) → Int → Int → (List TRow) → Int → Option ((List TRow) × (List Int) × Int × Int)
  | 0, _, _, _, _, _ => none
  | n_ + 1, x6, x7, x8, x9, x10 =>
    if (decide (x10 < (x9.length : Int))) then
      (s_l8Source_u2 x10 k x6 x7 x8 x9 0).bind fun (x11, x12, x13, x14) =>
      s_l8Source_u1 k n_ x11 x12 x13 x14 (IntKind.i64.wrap (x10 + 1))
    else
      some (x9, x6, x7, x8)
def s_l8Source (k : Nat) (a0 : Tl1Cur) (a1 : Int) : Option (TValue × Tl1Cur) :=
  (s_l3DrawTable k a0).bind fun x1 =>
  (s_l8Source_u1 k k x1.2.b x1.2.i x1.2.h x1.1.rows 0).bind fun (x2, x3, x4, x5) =>
  (s_SourceTable k a1 (TValue.mk x1.1.kind x1.1.n x1.1.step x1.1.text x1.1.list x1.1.columns x2)).bind fun x23 =>
  some (x23, (Tl1Cur.mk x3 x4 x5))
def s_l8Some_u1 (x1 : Int × Tl1Cur) : Nat → (List Int) → Int → Int → (List TOrigin) → Int → Option ((List TOrigin) × (List Int) × Int × Int)
  | 0, _, _, _, _, _ => none
  | n_ + 1, x6, x7, x8, x9, x10 =>
    if (decide (x10 < x1.1)) then
      (s_l1Below (Tl1Cur.mk x6 x7 x8) 3).bind fun x11 =>
      (s_l1Below x11.2 4).bind fun x12 =>
      (app? 16 x9 [(TOrigin.mk x11.1 x12.1)]).bind fun x13 =>
      s_l8Some_u1 x1 n_ x12.2.b x12.2.i x12.2.h x13 (IntKind.i64.wrap (x10 + 1))
    else
      some (x9, x6, x7, x8)
def s_l8Some (k : Nat) (a0 : Tl1Cur) : Option ((List TOrigin) × Tl1Cur) :=
  (s_l1Below a0 6).bind fun x1 =>
  (s_l8Some_u1 x1 k x1.2.b x1.2.i x1.2.h ([] : List TOrigin) 0).bind fun (x2, x3, x4, x5) =>
  some (x2, (Tl1Cur.mk x3 x4 x5))
def s_DrawRestrictTable (k : Nat) (a0 : List Int) : Option (TValue × (List TOrigin)) :=
  (s_l1New k a0).bind fun x1 =>
  (s_l7Table k x1).bind fun x2 =>
  ((s_l1Once x2.2 2).bind fun x13 =>
  if x13.1 then
    (s_l8Source k x13.2 1).bind fun x14 =>
    some (x14.2.b, x14.2.i, x14.2.h, x14.1.kind, x14.1.n, x14.1.step, x14.1.text, x14.1.list, x14.1.columns, x14.1.rows)
  else
    some (x13.2.b, x13.2.i, x13.2.h, x2.1.kind, x2.1.n, x2.1.step, x2.1.text, x2.1.list, x2.1.columns, x2.1.rows)).bind fun (x3, x4, x5, x6, x7, x8, x9, x10, x11, x12) =>
  (s_l8Some k (Tl1Cur.mk x3 x4 x5)).bind fun x15 =>
  some ((TValue.mk x6 x7 x8 x9 x10 x11 x12), x15.1)
def i_copyValues_u1 (rec_i_copyValue : TValue → Option TValue) (a0 : List TValue) : Nat → (List TValue) → Int → Option (List TValue)
  | 0, _, _ => none
  | n_ + 1, x2, x3 =>
    if (decide (x3 < (a0.length : Int))) then
      (at? a0 x3).bind fun x4 =>
      (rec_i_copyValue x4).bind fun x5 =>
      (app? 112 x2 [x5]).bind fun x6 =>
      i_copyValues_u1 rec_i_copyValue a0 n_ x6 (IntKind.i64.wrap (x3 + 1))
    else
      some x2
def i_copyValue_u1 (a0 : TValue) : Nat → (List TRow) → Int → Option (List TRow)
  | 0, _, _ => none
  | n_ + 1, x4, x5 =>
    if (decide (x5 < (a0.rows.length : Int))) then
      (at? a0.rows x5).bind fun x6 =>
      (i_copyRow x6).bind fun x7 =>
      (app? 48 x4 [x7]).bind fun x8 =>
      i_copyValue_u1 a0 n_ x8 (IntKind.i64.wrap (x5 + 1))
    else
      some x4
mutual
def i_copyValues : Nat → (List TValue) → Option (List TValue)
  | 0, _ => none
  | k + 1, a0 =>
    (i_copyValues_u1 (i_copyValue k) a0 k ([] : List TValue) 0).bind fun x1 =>
    some x1
def i_copyValue : Nat → TValue → Option TValue
  | 0, _ => none
  | k + 1, a0 =>
    (i_copyValues k a0.list).bind fun x1 =>
    (app? 16 ([] : List ByteArray) a0.columns).bind fun x2 =>
    (i_copyValue_u1 a0 k [] 0).bind fun x3 =>
    some (TValue.mk a0.kind a0.n a0.step a0.text x1 x2 x3)
end
def i_hasOrigin_u1 (a0 : List TOrigin) (a1 : TOrigin) : Nat → Int → Option (Unit ⊕ Bool)
  | 0, _ => none
  | n_ + 1, x1 =>
    if (decide (x1 < (a0.length : Int))) then
      (at? a0 x1).bind fun x2 =>
      if (decide (x2.cell = a1.cell) && decide (x2.row = a1.row)) then
        some (.inr true)
      else
        i_hasOrigin_u1 a0 a1 n_ (IntKind.i64.wrap (x1 + 1))
    else
      some (.inl ())
def i_hasOrigin (k : Nat) (a0 : List TOrigin) (a1 : TOrigin) : Option Bool :=
  (i_hasOrigin_u1 a0 a1 k 0 : Option (Unit ⊕ Bool)).bind fun
    | .inl _ => (
      some false)
    | .inr z3 => (
      some z3)
def i_RestrictTable_u2 (k : Nat) (a1 : List TOrigin) (x8 : TRow) : Nat → Bool → Int → Option Bool
  | 0, _, _ => none
  | n_ + 1, x10, x11 =>
    if (decide (x11 < (x8.from_.length : Int))) then
      ((at? x8.from_ x11).bind fun x13 =>
      if x10 then
        (i_hasOrigin k a1 x13).bind fun x14 =>
        some x14
      else
        some false).bind fun x12 =>
      i_RestrictTable_u2 k a1 x8 n_ x12 (IntKind.i64.wrap (x11 + 1))
    else
      some x10
def i_RestrictTable_u1 (k : Nat) (a0 : TValue) (a1 : List TOrigin) : Nat → (List TRow) → Int → Option (List TRow)
  | 0, _, _ => none
  | n_ + 1, x5, x6 =>
    if (decide (x6 < (a0.rows.length : Int))) then
      ((at? a0.rows x6).bind fun x8 =>
      (i_RestrictTable_u2 k a1 x8 k true 0).bind fun x9 =>
      if x9 then
        (i_copyRow x8).bind fun x15 =>
        (app? 48 x5 [x15]).bind fun x16 =>
        some x16
      else
        some x5).bind fun x7 =>
      i_RestrictTable_u1 k a0 a1 n_ x7 (IntKind.i64.wrap (x6 + 1))
    else
      some x5
def i_RestrictTable (k : Nat) (a0 : TValue) (a1 : List TOrigin) : Option TValue :=
  (i_copyValue k a0).bind fun x1 =>
  (if (!decide (a0.kind = 5)) then
    some true
  else
    (i_IsValidValue k a0).bind fun x3 =>
    some (!x3)).bind fun x2 =>
  if x2 then
    some x1
  else
    (i_RestrictTable_u1 k a0 a1 k [] 0).bind fun x4 =>
    some (TValue.mk x1.kind x1.n x1.step x1.text x1.list x1.columns x4)
def s_l8Has_u1 (a0 : List TOrigin) (a1 : TOrigin) : Nat → Int → Option (Unit ⊕ Bool)
  | 0, _ => none
  | n_ + 1, x1 =>
    if (decide (x1 < (a0.length : Int))) then
      (at? a0 x1).bind fun x2 =>
      if (decide (x2.cell = a1.cell) && decide (x2.row = a1.row)) then
        some (.inr true)
      else
        s_l8Has_u1 a0 a1 n_ (IntKind.i64.wrap (x1 + 1))
    else
      some (.inl ())
def s_l8Has (k : Nat) (a0 : List TOrigin) (a1 : TOrigin) : Option Bool :=
  (s_l8Has_u1 a0 a1 k 0 : Option (Unit ⊕ Bool)).bind fun
    | .inl _ => (
      some false)
    | .inr z3 => (
      some z3)
def s_l8Beneath_u1 (k : Nat) (a0 : List TOrigin) (a1 : List TOrigin) : Nat → Int → Option (Unit ⊕ Bool)
  | 0, _ => none
  | n_ + 1, x1 =>
    if (decide (x1 < (a0.length : Int))) then
      (at? a0 x1).bind fun x2 =>
      (s_l8Has k a1 x2).bind fun x3 =>
      if (!x3) then
        some (.inr false)
      else
        s_l8Beneath_u1 k a0 a1 n_ (IntKind.i64.wrap (x1 + 1))
    else
      some (.inl ())
def s_l8Beneath (k : Nat) (a0 : List TOrigin) (a1 : List TOrigin) : Option Bool :=
  (s_l8Beneath_u1 k a0 a1 k 0 : Option (Unit ⊕ Bool)).bind fun
    | .inl _ => (
      some true)
    | .inr z4 => (
      some z4)
def s_RestrictTable_u1 (k : Nat) (a0 : TValue) (a1 : List TOrigin) : Nat → (List TRow) → Int → Option (List TRow)
  | 0, _, _ => none
  | n_ + 1, x6, x7 =>
    if (decide (x7 < (a0.rows.length : Int))) then
      ((at? a0.rows x7).bind fun x9 =>
      (s_l8Beneath k x9.from_ a1).bind fun x10 =>
      if x10 then
        (s_l3Row x9).bind fun x11 =>
        (app? 48 x6 [x11]).bind fun x12 =>
        some x12
      else
        some x6).bind fun x8 =>
      s_RestrictTable_u1 k a0 a1 n_ x8 (IntKind.i64.wrap (x7 + 1))
    else
      some x6
def s_RestrictTable (k : Nat) (a0 : TValue) (a1 : List TOrigin) : Option TValue :=
  (if (!decide (a0.kind = 5)) then
    some true
  else
    (s_IsValidValue k a0).bind fun x2 =>
    some (!x2)).bind fun x1 =>
  if x1 then
    (s_l3Copy k a0).bind fun x3 =>
    some x3
  else
    (app? 16 ([] : List ByteArray) a0.columns).bind fun x4 =>
    (s_RestrictTable_u1 k a0 a1 k [] 0).bind fun x5 =>
    some (TValue.mk 5 0 0 (⟨#[]⟩ : ByteArray) [] x4 x5)
def s_l8Put_u1 (a0 : List TOrigin) (a1 : TOrigin) : Nat → (List TOrigin) → Bool → Int → Option ((List TOrigin) × Bool)
  | 0, _, _, _ => none
  | n_ + 1, x3, x4, x5 =>
    if (decide (x5 < (a0.length : Int))) then
      ((at? a0 x5).bind fun x7 =>
      if (decide (x7.cell = a1.cell) && decide (x7.row = a1.row)) then
        some true
      else
        some x4).bind fun x6 =>
      ((if (!x6) then
        (at? a0 x5).bind fun x11 =>
        (s_l3Before a1 x11).bind fun x12 =>
        some x12
      else
        some false).bind fun x10 =>
      if x10 then
        (app? 16 x3 [a1]).bind fun x13 =>
        some (x13, true)
      else
        some (x3, x6)).bind fun (x8, x9) =>
      (at? a0 x5).bind fun x14 =>
      (app? 16 x8 [x14]).bind fun x15 =>
      s_l8Put_u1 a0 a1 n_ x15 x9 (IntKind.i64.wrap (x5 + 1))
    else
      some (x3, x4)
def s_l8Put (k : Nat) (a0 : List TOrigin) (a1 : TOrigin) : Option (List TOrigin) :=
  (s_l8Put_u1 a0 a1 k ([] : List TOrigin) false 0).bind fun (x1, x2) =>
  (if (!x2) then
    (app? 16 x1 [a1]).bind fun x17 =>
    some x17
  else
    some x1).bind fun x16 =>
  some x16
def s_UnionOrigins_u1 (k : Nat) (a0 : List TOrigin) : Nat → (List TOrigin) → Int → Option (List TOrigin)
  | 0, _, _ => none
  | n_ + 1, x2, x3 =>
    if (decide (x3 < (a0.length : Int))) then
      (at? a0 x3).bind fun x4 =>
      (s_l8Put k x2 x4).bind fun x5 =>
      s_UnionOrigins_u1 k a0 n_ x5 (IntKind.i64.wrap (x3 + 1))
    else
      some x2
def s_UnionOrigins_u2 (k : Nat) (a1 : List TOrigin) : Nat → (List TOrigin) → Int → Option (List TOrigin)
  | 0, _, _ => none
  | n_ + 1, x7, x8 =>
    if (decide (x8 < (a1.length : Int))) then
      (at? a1 x8).bind fun x9 =>
      (s_l8Put k x7 x9).bind fun x10 =>
      s_UnionOrigins_u2 k a1 n_ x10 (IntKind.i64.wrap (x8 + 1))
    else
      some x7
def s_UnionOrigins (k : Nat) (a0 : List TOrigin) (a1 : List TOrigin) : Option (List TOrigin) :=
  (s_UnionOrigins_u1 k a0 k ([] : List TOrigin) 0).bind fun x1 =>
  (s_UnionOrigins_u2 k a1 k x1 0).bind fun x6 =>
  some x6
end Go.Proofs.Ytbknilpmpjjfpaa
