/- Functions that mirror the program's own, one each. Written by a program of mine. -/
import Derived.Test.YtbknilpmpjjfpaaSx
import Derived.Test.YtbknilpmpjjfpaaMd0
set_option linter.unusedSimpArgs false
set_option linter.unusedVariables false
namespace Go.Proofs.Ytbknilpmpjjfpaa
open Go.RowKit Am
def s_StreamValue (a0 : Int) (a1 : Int) : Option TValue :=
  some (TValue.mk 4 a0 a1 (⟨#[]⟩ : ByteArray) [] [] [])
def s_ErrorValue (a0 : Int) : Option TValue :=
  some (TValue.mk 6 a0 0 (⟨#[]⟩ : ByteArray) [] [] [])
def s_l3From_u1 (x1 : Int × Tl1Cur) : Nat → (List Int) → Int → Int → (List TOrigin) → Int → Int → Option ((List TOrigin) × (List Int) × Int × Int)
  | 0, _, _, _, _, _, _ => none
  | n_ + 1, x6, x7, x8, x9, x10, x11 =>
    if (decide (x11 < x1.1)) then
      (s_l1Below (Tl1Cur.mk x6 x7 x8) 2).bind fun x12 =>
      (app? 16 x9 [(TOrigin.mk x10 (IntKind.i64.wrap (x11 + (IntKind.i64.wrap (x12.1 * 2)))))]).bind fun x13 =>
      (s_l1Below x12.2 2).bind fun x14 =>
      s_l3From_u1 x1 n_ x14.2.b x14.2.i x14.2.h x13 (IntKind.i64.wrap ((IntKind.i64.wrap (x10 + 1)) + x14.1)) (IntKind.i64.wrap (x11 + 1))
    else
      some (x9, x6, x7, x8)
def s_l3From (k : Nat) (a0 : Tl1Cur) : Option ((List TOrigin) × Tl1Cur) :=
  (s_l1Below a0 3).bind fun x1 =>
  (s_l3From_u1 x1 k x1.2.b x1.2.i x1.2.h ([] : List TOrigin) 1 0).bind fun (x2, x3, x4, x5) =>
  some (x2, (Tl1Cur.mk x3 x4 x5))
def s_l3DrawTable_u2 (x7 : Int) : Nat → (List Int) → Int → Int → (List Int) → Int → Option ((List Int) × Int × Int × (List Int))
  | 0, _, _, _, _, _ => none
  | n_ + 1, x27, x28, x29, x30, x31 =>
    if (decide (x31 < x7)) then
      (s_l3Num (Tl1Cur.mk x27 x28 x29)).bind fun x32 =>
      (app? 8 x30 [x32.1]).bind fun x33 =>
      s_l3DrawTable_u2 x7 n_ x32.2.b x32.2.i x32.2.h x33 (IntKind.i64.wrap (x31 + 1))
    else
      some (x27, x28, x29, x30)
def s_l3DrawTable_u1 (k : Nat) (x7 : Int) (x12 : Int × Tl1Cur) : Nat → (List Int) → Int → Int → (List TRow) → Int → Option ((List TRow) × (List Int) × Int × Int)
  | 0, _, _, _, _, _ => none
  | n_ + 1, x17, x18, x19, x20, x21 =>
    if (decide (x21 < x12.1)) then
      (s_l3From k (Tl1Cur.mk x17 x18 x19)).bind fun x22 =>
      (s_l3DrawTable_u2 x7 k x22.2.b x22.2.i x22.2.h [] 0).bind fun (x23, x24, x25, x26) =>
      (app? 48 x20 [(TRow.mk x26 x22.1)]).bind fun x34 =>
      s_l3DrawTable_u1 k x7 x12 n_ x23 x24 x25 x34 (IntKind.i64.wrap (x21 + 1))
    else
      some (x20, x17, x18, x19)
def s_l3DrawTable (k : Nat) (a0 : Tl1Cur) : Option (TValue × Tl1Cur) :=
  (s_l1Below a0 3).bind fun x1 =>
  (sub? [(⟨#[97]⟩ : ByteArray), (⟨#[98]⟩ : ByteArray), (⟨#[99]⟩ : ByteArray), (⟨#[120]⟩ : ByteArray)] 0 (IntKind.i64.wrap (1 + x1.1))).bind fun x2 =>
  (app? 16 ([] : List ByteArray) x2).bind fun x3 =>
  ((s_l1Once x1.2 5).bind fun x9 =>
  if x9.1 then
    (at? x3 0).bind fun x10 =>
    (cut? (x3.set (0 : Int).toNat (⟨#[120]⟩ : ByteArray)) 1).bind fun x11 =>
    some (x9.2.b, x9.2.i, x9.2.h, 1, x11)
  else
    some (x9.2.b, x9.2.i, x9.2.h, (IntKind.i64.wrap (1 + x1.1)), x3)).bind fun (x4, x5, x6, x7, x8) =>
  (s_l1Below (Tl1Cur.mk x4 x5 x6) 6).bind fun x12 =>
  (s_l3DrawTable_u1 k x7 x12 k x12.2.b x12.2.i x12.2.h [] 0).bind fun (x13, x14, x15, x16) =>
  some ((TValue.mk 5 0 0 (⟨#[]⟩ : ByteArray) [] x8 x13), (Tl1Cur.mk x14 x15 x16))
def s_l3Draw (k : Nat) (a0 : Tl1Cur) : Option (TValue × Tl1Cur) :=
  (s_l1Below a0 10).bind fun x1 =>
  (if (decide (x1.1 = 0)) then
    some true
  else
    if (decide (x1.1 = 1)) then
      some true
    else
      some (decide (x1.1 = 2))).bind fun x2 =>
  if x2 then
    (s_l3Num x1.2).bind fun x3 =>
    (s_NumberValue x3.1).bind fun x4 =>
    some (x4, x3.2)
  else
    if (decide (x1.1 = 3)) then
      (s_l3Text x1.2).bind fun x5 =>
      (s_TextValue x5.1).bind fun x6 =>
      some (x6, x5.2)
    else
      if (decide (x1.1 = 4)) then
        (s_l3DrawList k x1.2 3).bind fun x7 =>
        some (x7.1, x7.2)
      else
        if (decide (x1.1 = 5)) then
          (s_l3Numbers k x1.2).bind fun x8 =>
          some (x8.1, x8.2)
        else
          if (decide (x1.1 = 6)) then
            (s_l3Num x1.2).bind fun x9 =>
            (s_l3Num x9.2).bind fun x10 =>
            (s_StreamValue x9.1 x10.1).bind fun x11 =>
            some (x11, x10.2)
          else
            if (decide (x1.1 = 7)) then
              (s_l1Below x1.2 8).bind fun x12 =>
              (s_ErrorValue (IntKind.i64.wrap (1 + x12.1))).bind fun x13 =>
              some (x13, x12.2)
            else
              (s_l3DrawTable k x1.2).bind fun x14 =>
              some (x14.1, x14.2)
def s_l2Name (a0 : Tl1Cur) : Option (ByteArray × Tl1Cur) :=
  (s_l1Pick a0 [(⟨#[97]⟩ : ByteArray), (⟨#[98]⟩ : ByteArray), (⟨#[99]⟩ : ByteArray), (⟨#[100]⟩ : ByteArray), (⟨#[120]⟩ : ByteArray), (⟨#[121]⟩ : ByteArray), (⟨#[116]⟩ : ByteArray), (⟨#[117]⟩ : ByteArray)]).bind fun x1 =>
  some (x1.1, x1.2)
def s_l2Any (a0 : Tl1Cur) : Option (ByteArray × Tl1Cur) :=
  (s_l1Once a0 2).bind fun x1 =>
  if x1.1 then
    (s_l2Name x1.2).bind fun x2 =>
    some (x2.1, x2.2)
  else
    (s_l1Pick x1.2 [(⟨#[]⟩ : ByteArray), (⟨#[49, 97]⟩ : ByteArray), (⟨#[97, 49]⟩ : ByteArray), (⟨#[97, 98, 99, 100, 101, 102, 103, 104]⟩ : ByteArray), (⟨#[97, 98, 99, 100, 101, 102, 103, 104, 105]⟩ : ByteArray), (⟨#[108, 101, 116]⟩ : ByteArray), (⟨#[116, 97, 98, 108, 101]⟩ : ByteArray), (⟨#[115, 117, 109]⟩ : ByteArray), (⟨#[115, 117, 109, 115]⟩ : ByteArray), (⟨#[65]⟩ : ByteArray), (⟨#[97, 95, 98]⟩ : ByteArray), (⟨#[108, 101, 110]⟩ : ByteArray)]).bind fun x3 =>
    some (x3.1, x3.2)
def s_l3Bent (k : Nat) (a0 : Tl1Cur) : Option (TValue × Tl1Cur) :=
  (s_l3Draw k a0).bind fun x1 =>
  ((s_l1Below x1.2 16).bind fun x12 =>
  if (decide (x12.1 = 0)) then
    some (x1.1.kind, (IntKind.i64.wrap (x1.1.n + 1000000000)), x1.1.step, x1.1.text, x1.1.list, x1.1.columns, x1.1.rows, x12.2.b, x12.2.i, x12.2.h)
  else
    if (decide (x12.1 = 1)) then
      (cat? x1.1.text (⟨#[120, 34, 121]⟩ : ByteArray)).bind fun x13 =>
      some (x1.1.kind, x1.1.n, x1.1.step, x13, x1.1.list, x1.1.columns, x1.1.rows, x12.2.b, x12.2.i, x12.2.h)
    else
      if (decide (x12.1 = 2)) then
        (s_l1Below x12.2 8).bind fun x14 =>
        some (x14.1, x1.1.n, x1.1.step, x1.1.text, x1.1.list, x1.1.columns, x1.1.rows, x14.2.b, x14.2.i, x14.2.h)
      else
        if (decide (x12.1 = 3)) then
          (s_l3Draw k x12.2).bind fun x15 =>
          (app? 112 x1.1.list [x15.1]).bind fun x16 =>
          some (x1.1.kind, x1.1.n, x1.1.step, x1.1.text, x16, x1.1.columns, x1.1.rows, x15.2.b, x15.2.i, x15.2.h)
        else
          if (decide (x12.1 = 4)) then
            (app? 48 x1.1.rows [(TRow.mk [1] [(TOrigin.mk 2 1), (TOrigin.mk 1 1)])]).bind fun x17 =>
            some (x1.1.kind, x1.1.n, x1.1.step, x1.1.text, x1.1.list, x1.1.columns, x17, x12.2.b, x12.2.i, x12.2.h)
          else
            if (decide (x12.1 = 5)) then
              (s_l2Any x12.2).bind fun x18 =>
              (app? 16 x1.1.columns [x18.1]).bind fun x19 =>
              some (x1.1.kind, x1.1.n, x1.1.step, x1.1.text, x1.1.list, x19, x1.1.rows, x18.2.b, x18.2.i, x18.2.h)
            else
              if (decide (x12.1 = 6)) then
                some (x1.1.kind, x1.1.n, 7, x1.1.text, x1.1.list, x1.1.columns, x1.1.rows, x12.2.b, x12.2.i, x12.2.h)
              else
                some (x1.1.kind, x1.1.n, x1.1.step, x1.1.text, x1.1.list, x1.1.columns, x1.1.rows, x12.2.b, x12.2.i, x12.2.h)).bind fun (x2, x3, x4, x5, x6, x7, x8, x9, x10, x11) =>
  some ((TValue.mk x2 x3 x4 x5 x6 x7 x8), (Tl1Cur.mk x9 x10 x11))
def i_within (a0 : Int) (a1 : Int) (a2 : Int) : Option Bool :=
  (if (decide (a1 ≤ a0)) then
    some (decide (a0 ≤ a2))
  else
    some false).bind fun x1 =>
  some x1
def i_isNumber (a0 : Int) : Option Bool :=
  (i_within a0 (-1000000000) 1000000000).bind fun x1 =>
  some x1
def i_IsValidText_u1 (a0 : ByteArray) : Nat → Int → Option (Unit ⊕ Bool)
  | 0, _ => none
  | n_ + 1, x1 =>
    if (decide (x1 < (a0.size : Int))) then
      ((at? a0.data.toList x1).bind fun x3 =>
      if (decide ((x3.toNat : Int) < 32)) then
        some true
      else
        if (decide (126 < (x3.toNat : Int))) then
          some true
        else
          some (decide ((x3.toNat : Int) = 34))).bind fun x2 =>
      if x2 then
        some (.inr false)
      else
        i_IsValidText_u1 a0 n_ (IntKind.i64.wrap (x1 + 1))
    else
      some (.inl ())
def i_IsValidText (k : Nat) (a0 : ByteArray) : Option Bool :=
  (i_IsValidText_u1 a0 k 0 : Option (Unit ⊕ Bool)).bind fun
    | .inl _ => (
      some (decide ((a0.size : Int) ≤ 20)))
    | .inr z4 => (
      some z4)
def i_isWord_u1 (a0 : ByteArray) : Nat → Int → Option (Unit ⊕ Bool)
  | 0, _ => none
  | n_ + 1, x1 =>
    if (decide (x1 < (a0.size : Int))) then
      ((at? a0.data.toList x1).bind fun x3 =>
      if (decide (97 ≤ (x3.toNat : Int))) then
        some (decide ((x3.toNat : Int) ≤ 122))
      else
        some false).bind fun x2 =>
      (if (!x2) then
        if (decide (x1 = 0)) then
          some true
        else
          (at? a0.data.toList x1).bind fun x5 =>
          if (decide ((x5.toNat : Int) < 48)) then
            some true
          else
            some (decide (57 < (x5.toNat : Int)))
      else
        some false).bind fun x4 =>
      if x4 then
        some (.inr false)
      else
        i_isWord_u1 a0 n_ (IntKind.i64.wrap (x1 + 1))
    else
      some (.inl ())
def i_isWord (k : Nat) (a0 : ByteArray) : Option Bool :=
  (i_isWord_u1 a0 k 0 : Option (Unit ⊕ Bool)).bind fun
    | .inl _ => (
      (i_within (a0.size : Int) 1 8).bind fun x6 =>
      some x6)
    | .inr z7 => (
      some z7)
def i_ArgumentCount (a0 : ByteArray) : Option Int :=
  if (decide (a0 = (⟨#[99, 108, 111, 99, 107]⟩ : ByteArray))) then
    some 0
  else
    (if (decide (a0 = (⟨#[108, 101, 110]⟩ : ByteArray))) then
      some true
    else
      if (decide (a0 = (⟨#[115, 117, 109]⟩ : ByteArray))) then
        some true
      else
        if (decide (a0 = (⟨#[114, 111, 119, 115]⟩ : ByteArray))) then
          some true
        else
          if (decide (a0 = (⟨#[99, 104, 97, 110, 99, 101]⟩ : ByteArray))) then
            some true
          else
            some (decide (a0 = (⟨#[102, 105, 108, 101]⟩ : ByteArray)))).bind fun x1 =>
    if x1 then
      some 1
    else
      (if (decide (a0 = (⟨#[116, 97, 107, 101]⟩ : ByteArray))) then
        some true
      else
        if (decide (a0 = (⟨#[115, 107, 105, 112]⟩ : ByteArray))) then
          some true
        else
          if (decide (a0 = (⟨#[114, 97, 110, 103, 101]⟩ : ByteArray))) then
            some true
          else
            if (decide (a0 = (⟨#[110, 116, 104]⟩ : ByteArray))) then
              some true
            else
              if (decide (a0 = (⟨#[107, 101, 101, 112]⟩ : ByteArray))) then
                some true
              else
                if (decide (a0 = (⟨#[99, 111, 108, 117, 109, 110]⟩ : ByteArray))) then
                  some true
                else
                  some (decide (a0 = (⟨#[116, 97, 98, 108, 101]⟩ : ByteArray)))).bind fun x2 =>
      if x2 then
        some 2
      else
        (if (decide (a0 = (⟨#[119, 104, 101, 114, 101]⟩ : ByteArray))) then
          some true
        else
          if (decide (a0 = (⟨#[103, 114, 111, 117, 112]⟩ : ByteArray))) then
            some true
          else
            some (decide (a0 = (⟨#[106, 111, 105, 110]⟩ : ByteArray)))).bind fun x3 =>
        if x3 then
          some 3
        else
          if (decide (a0 = (⟨#[97, 100, 100]⟩ : ByteArray))) then
            some 4
          else
            some (-1)
end Go.Proofs.Ytbknilpmpjjfpaa
