/- Functions that mirror the library's. -/
import Derived.Test.YtmiboaogfjgkjaaGreatDoorPkC
import Derived.Lib.ItoaNum
import Derived.Lib.Join
set_option linter.unusedSimpArgs false
set_option linter.unusedVariables false
namespace Go.Proofs.YtmiboaogfjgkjaaGreatDoor
open Go.RowKit Am
def x_strconv_Itoa (a0 : Int) : Option ByteArray := some ⟨(Lib.itoa a0).toArray⟩
def x_strings_Join (a0 : List ByteArray) (a1 : ByteArray) : Option ByteArray :=
  if a0.length ≤ 140737488355328 ∧ (Lib.join (a0.map (·.data.toList)) a1.data.toList).length ≤ 140737488355328 then some ⟨(Lib.join (a0.map (·.data.toList)) a1.data.toList).toArray⟩ else none
def errNames : List ByteArray := [⟨#[109, 105, 115, 115, 105, 110, 103]⟩, ⟨#[100, 117, 112, 108, 105, 99, 97, 116, 101]⟩, ⟨#[99, 121, 99, 108, 101]⟩, ⟨#[116, 121, 112, 101]⟩, ⟨#[114, 97, 110, 103, 101]⟩, ⟨#[108, 105, 109, 105, 116]⟩, ⟨#[99, 111, 108, 117, 109, 110]⟩, ⟨#[115, 121, 110, 116, 97, 120]⟩]
def i_ErrorName (a0 : Int) : Option ByteArray := if 1 ≤ a0 ∧ a0 ≤ 8 then errNames[(a0 - 1).toNat]? else some ⟨#[63]⟩
end Go.Proofs.YtmiboaogfjgkjaaGreatDoor
