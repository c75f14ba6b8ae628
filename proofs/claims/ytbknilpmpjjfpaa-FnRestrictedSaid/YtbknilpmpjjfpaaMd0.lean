/- Functions that mirror the program's own, one each. Written by a program of mine. -/
import Derived.Test.YtbknilpmpjjfpaaSx
set_option linter.unusedSimpArgs false
set_option linter.unusedVariables false
namespace Go.Proofs.Ytbknilpmpjjfpaa
open Go.RowKit Am
def w_big (a0 : List Int) : Option Bool :=
  some (decide (1048576 < (a0.length : Int)))
def s_l1New_u1 (a0 : List Int) : Nat → Int → Int → Option Int
  | 0, _, _ => none
  | n_ + 1, x2, x3 =>
    (if (decide (x3 < (a0.length : Int))) then
      some (decide (x3 < 4000))
    else
      some false).bind fun x4 =>
    if x4 then
      (at? a0 x3).bind fun x5 =>
      s_l1New_u1 a0 n_ (iAnd .i64 (IntKind.i64.wrap ((IntKind.i64.wrap ((IntKind.i64.wrap (x2 * 131)) + (IntKind.i64.wrap x5))) + 7)) 1073741823) (IntKind.i64.wrap (x3 + 1))
    else
      some x2
def s_l1New (k : Nat) (a0 : List Int) : Option Tl1Cur :=
  (s_l1New_u1 a0 k (IntKind.i64.wrap (26583 + (a0.length : Int))) 0).bind fun x1 =>
  some (Tl1Cur.mk a0 0 x1)
def s_l1Byte (a0 : Tl1Cur) : Option (Int × Tl1Cur) :=
  (if (decide (a0.i < (a0.b.length : Int))) then
    (at? a0.b a0.i).bind fun x3 =>
    some ((iAnd .i64 (IntKind.i64.wrap ((iAnd .i64 (iXor .i64 (iShr .i64 (IntKind.i64.wrap ((IntKind.i64.wrap (a0.h * 6364136223846793005)) + 1442695040888963407)) 33) (iShr .i64 (IntKind.i64.wrap ((IntKind.i64.wrap (a0.h * 6364136223846793005)) + 1442695040888963407)) 45)) 255) + (IntKind.i64.wrap x3))) 255), (IntKind.i64.wrap (a0.i + 1)))
  else
    some ((iAnd .i64 (iXor .i64 (iShr .i64 (IntKind.i64.wrap ((IntKind.i64.wrap (a0.h * 6364136223846793005)) + 1442695040888963407)) 33) (iShr .i64 (IntKind.i64.wrap ((IntKind.i64.wrap (a0.h * 6364136223846793005)) + 1442695040888963407)) 45)) 255), a0.i)).bind fun (x1, x2) =>
  some (x1, (Tl1Cur.mk a0.b x2 (IntKind.i64.wrap ((IntKind.i64.wrap (a0.h * 6364136223846793005)) + 1442695040888963407))))
def s_l1Below (a0 : Tl1Cur) (a1 : Int) : Option (Int × Tl1Cur) :=
  if (decide (a1 ≤ 0)) then
    some (0, a0)
  else
    if (decide (a1 ≤ 256)) then
      (s_l1Byte a0).bind fun x1 =>
      (nz? a1).bind fun x2 =>
      some ((IntKind.i64.wrap (x1.1.tmod a1)), x1.2)
    else
      (s_l1Byte a0).bind fun x3 =>
      (s_l1Byte x3.2).bind fun x4 =>
      (s_l1Byte x4.2).bind fun x5 =>
      (s_l1Byte x5.2).bind fun x6 =>
      (nz? a1).bind fun x7 =>
      some ((IntKind.i64.wrap ((IntKind.i64.wrap ((IntKind.i64.wrap ((IntKind.i64.wrap ((IntKind.i64.wrap (x3.1 * 16777216)) + (IntKind.i64.wrap (x4.1 * 65536)))) + (IntKind.i64.wrap (x5.1 * 256)))) + x6.1)).tmod a1)), x6.2)
def s_l1Once (a0 : Tl1Cur) (a1 : Int) : Option (Bool × Tl1Cur) :=
  (s_l1Below a0 a1).bind fun x1 =>
  some ((decide (x1.1 = 0)), x1.2)
def s_l1PickInt (a0 : Tl1Cur) (a1 : List Int) : Option (Int × Tl1Cur) :=
  (s_l1Below a0 (a1.length : Int)).bind fun x1 =>
  (at? a1 x1.1).bind fun x2 =>
  some (x2, x1.2)
def s_l3Num (a0 : Tl1Cur) : Option (Int × Tl1Cur) :=
  (s_l1Once a0 12).bind fun x1 =>
  if x1.1 then
    (s_l1PickInt x1.2 [1000000000, (-1000000000), 999999999, 500000000, 40000]).bind fun x2 =>
    some (x2.1, x2.2)
  else
    (s_l1Below x1.2 12).bind fun x3 =>
    some ((IntKind.i64.wrap (x3.1 - 3)), x3.2)
def s_NumberValue (a0 : Int) : Option TValue :=
  some (TValue.mk 1 a0 0 (⟨#[]⟩ : ByteArray) [] [] [])
def s_l3Numbers_u1 (x1 : Int × Tl1Cur) : Nat → (List Int) → Int → Int → (List TValue) → Int → Option ((List TValue) × (List Int) × Int × Int)
  | 0, _, _, _, _, _ => none
  | n_ + 1, x6, x7, x8, x9, x10 =>
    if (decide (x10 < x1.1)) then
      (s_l3Num (Tl1Cur.mk x6 x7 x8)).bind fun x11 =>
      (s_NumberValue x11.1).bind fun x12 =>
      (app? 112 x9 [x12]).bind fun x13 =>
      s_l3Numbers_u1 x1 n_ x11.2.b x11.2.i x11.2.h x13 (IntKind.i64.wrap (x10 + 1))
    else
      some (x9, x6, x7, x8)
def s_l3Numbers (k : Nat) (a0 : Tl1Cur) : Option (TValue × Tl1Cur) :=
  (s_l1Below a0 9).bind fun x1 =>
  (s_l3Numbers_u1 x1 k x1.2.b x1.2.i x1.2.h [] 0).bind fun (x2, x3, x4, x5) =>
  some ((TValue.mk 3 0 0 (⟨#[]⟩ : ByteArray) x2 [] []), (Tl1Cur.mk x3 x4 x5))
def s_l1Pick (a0 : Tl1Cur) (a1 : List ByteArray) : Option (ByteArray × Tl1Cur) :=
  (s_l1Below a0 (a1.length : Int)).bind fun x1 =>
  (at? a1 x1.1).bind fun x2 =>
  some (x2, x1.2)
def s_l3Text (a0 : Tl1Cur) : Option (ByteArray × Tl1Cur) :=
  (s_l1Pick a0 [(⟨#[]⟩ : ByteArray), (⟨#[97]⟩ : ByteArray), (⟨#[98]⟩ : ByteArray), (⟨#[97, 98]⟩ : ByteArray), (⟨#[104, 101, 108, 108, 111]⟩ : ByteArray), (⟨#[116, 119, 101, 110, 116, 121, 32, 99, 104, 97, 114, 97, 99, 116, 101, 114, 115, 32, 111, 107]⟩ : ByteArray), (⟨#[110, 105, 110, 101, 116, 101, 101, 110, 32, 99, 104, 97, 114, 97, 99, 116, 101, 114, 46]⟩ : ByteArray)]).bind fun x1 =>
  some (x1.1, x1.2)
def s_TextValue (a0 : ByteArray) : Option TValue :=
  some (TValue.mk 2 0 0 a0 [] [] [])
def s_l3DrawList_u1 (rec_s_l3Element2 : Tl1Cur → Int → Option (TValue × Tl1Cur)) (a1 : Int) (x1 : Int × Tl1Cur) : Nat → (List Int) → Int → Int → (List TValue) → Int → Option ((List TValue) × (List Int) × Int × Int)
  | 0, _, _, _, _, _ => none
  | n_ + 1, x6, x7, x8, x9, x10 =>
    if (decide (x10 < x1.1)) then
      (rec_s_l3Element2 (Tl1Cur.mk x6 x7 x8) a1).bind fun x11 =>
      (app? 112 x9 [x11.1]).bind fun x12 =>
      s_l3DrawList_u1 rec_s_l3Element2 a1 x1 n_ x11.2.b x11.2.i x11.2.h x12 (IntKind.i64.wrap (x10 + 1))
    else
      some (x9, x6, x7, x8)
mutual
def s_l3Element2 : Nat → Tl1Cur → Int → Option (TValue × Tl1Cur)
  | 0, _, _ => none
  | k + 1, a0, a1 =>
    (if (decide (1 < a1)) then
      (s_l1Once a0 4).bind fun x5 =>
      some (x5.2.b, x5.2.i, x5.2.h, x5.1)
    else
      some (a0.b, a0.i, a0.h, false)).bind fun (x1, x2, x3, x4) =>
    if x4 then
      (s_l3DrawList k (Tl1Cur.mk x1 x2 x3) (IntKind.i64.wrap (a1 - 1))).bind fun x6 =>
      some (x6.1, x6.2)
    else
      (s_l1Once (Tl1Cur.mk x1 x2 x3) 4).bind fun x7 =>
      if x7.1 then
        (s_l3Text x7.2).bind fun x8 =>
        (s_TextValue x8.1).bind fun x9 =>
        some (x9, x8.2)
      else
        (s_l3Num x7.2).bind fun x10 =>
        (s_NumberValue x10.1).bind fun x11 =>
        some (x11, x10.2)
def s_l3DrawList : Nat → Tl1Cur → Int → Option (TValue × Tl1Cur)
  | 0, _, _ => none
  | k + 1, a0, a1 =>
    (s_l1PickInt a0 [0, 1, 2, 3, 3, 4, 5, 8]).bind fun x1 =>
    (s_l3DrawList_u1 (s_l3Element2 k) a1 x1 k x1.2.b x1.2.i x1.2.h [] 0).bind fun (x2, x3, x4, x5) =>
    some ((TValue.mk 3 0 0 (⟨#[]⟩ : ByteArray) x2 [] []), (Tl1Cur.mk x3 x4 x5))
end
end Go.Proofs.Ytbknilpmpjjfpaa
