/- Functions that mirror the program's own, one each. Written by a program of mine. -/
import Derived.Test.YtbknilpmpjjfpaaSx
import Derived.Test.YtbknilpmpjjfpaaMd8
set_option linter.unusedSimpArgs false
set_option linter.unusedVariables false
namespace Go.Proofs.Ytbknilpmpjjfpaa
open Go.RowKit Am
def s_OriginsOf_u1 (k : Nat) (a0 : TValue) : Nat → (List TOrigin) → Int → Option (List TOrigin)
  | 0, _, _ => none
  | n_ + 1, x2, x3 =>
    if (decide (x3 < (a0.rows.length : Int))) then
      (at? a0.rows x3).bind fun x4 =>
      (s_UnionOrigins k x2 x4.from_).bind fun x5 =>
      s_OriginsOf_u1 k a0 n_ x5 (IntKind.i64.wrap (x3 + 1))
    else
      some x2
def s_OriginsOf (k : Nat) (a0 : TValue) : Option (List TOrigin) :=
  (s_OriginsOf_u1 k a0 k ([] : List TOrigin) 0).bind fun x1 =>
  some x1
end Go.Proofs.Ytbknilpmpjjfpaa
