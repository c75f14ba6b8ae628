/- Functions that mirror the program's own, one each. Written by a program of mine. -/
import Derived.Test.YtbknilpmpjjfpaaSx
import Derived.Test.YtbknilpmpjjfpaaMd0
import Derived.Test.YtbknilpmpjjfpaaMd1
import Derived.Test.YtbknilpmpjjfpaaMd2
import Derived.Test.YtbknilpmpjjfpaaMd3
import Derived.Test.YtbknilpmpjjfpaaMd4
set_option linter.unusedSimpArgs false
set_option linter.unusedVariables false
namespace Go.Proofs.Ytbknilpmpjjfpaa
open Go.RowKit Am
def s_l7Table_u2 (x10 : Int) : Nat → (List Int) → Int → Int → (List TRow) → Int → Option ((List Int) × Int × Int × (List TRow))
  | 0, _, _, _, _, _ => none
  | n_ + 1, x15, x16, x17, x18, x19 =>
    (at? x18 x10).bind fun x20 =>
    if (decide (x19 < (x20.cells.length : Int))) then
      ((s_l1Once (Tl1Cur.mk x15 x16 x17) 8).bind fun x25 =>
      if (!x25.1) then
        (s_l1Below x25.2 4).bind fun x26 =>
        (at? x20.cells x19).bind fun x27 =>
        some (x26.2.b, x26.2.i, x26.2.h, (x18.set x10.toNat (TRow.mk (x20.cells.set x19.toNat x26.1) x20.from_)))
      else
        some (x25.2.b, x25.2.i, x25.2.h, x18)).bind fun (x21, x22, x23, x24) =>
      s_l7Table_u2 x10 n_ x21 x22 x23 x24 (IntKind.i64.wrap (x19 + 1))
    else
      some (x15, x16, x17, x18)
def s_l7Table_u1 (k : Nat) : Nat → (List Int) → Int → Int → (List TRow) → Int → Option ((List Int) × Int × Int × (List TRow))
  | 0, _, _, _, _, _ => none
  | n_ + 1, x6, x7, x8, x9, x10 =>
    if (decide (x10 < (x9.length : Int))) then
      (s_l7Table_u2 x10 k x6 x7 x8 x9 0).bind fun (x11, x12, x13, x14) =>
      s_l7Table_u1 k n_ x11 x12 x13 x14 (IntKind.i64.wrap (x10 + 1))
    else
      some (x6, x7, x8, x9)
def s_l7Table (k : Nat) (a0 : Tl1Cur) : Option (TValue × Tl1Cur) :=
  (s_l3DrawTable k a0).bind fun x1 =>
  (s_l7Table_u1 k k x1.2.b x1.2.i x1.2.h x1.1.rows 0).bind fun (x2, x3, x4, x5) =>
  (s_l1Once (Tl1Cur.mk x2 x3 x4) 12).bind fun x28 =>
  if x28.1 then
    (s_l3Bent k x28.2).bind fun x29 =>
    some (x29.1, x29.2)
  else
    some ((TValue.mk x1.1.kind x1.1.n x1.1.step x1.1.text x1.1.list x1.1.columns x5), x28.2)
end Go.Proofs.Ytbknilpmpjjfpaa
