/- Texts: the program's and the reference's answer alike. -/
import Derived.Test.YtbknilpmpjjfpaaInL
import Derived.Test.YtbknilpmpjjfpaaMd1
import Derived.Test.YtbknilpmpjjfpaaMd3
set_option linter.unusedSimpArgs false
set_option linter.unusedVariables false
namespace Go.Proofs.Ytbknilpmpjjfpaa
open Go.RowKit Am
-- texts
def badText (c : UInt8) : Bool := decide ((c.toNat : Int) < 32) || (decide (126 < (c.toNat : Int)) || decide ((c.toNat : Int) = 34))
theorem validText (s : ByteArray) (hs : (s.size : Int) ≤ 9223372036854775807) {k : Nat} (hk : s.size < k) : s_IsValidText k s = some (!(s.data.toList.any badText) && decide ((s.size : Int) ≤ 20)) ∧ i_IsValidText k s = some (!(s.data.toList.any badText) && decide ((s.size : Int) ≤ 20)) := by
  have hT : ∀ x ∈ s.data.toList, (fun c : UInt8 => (if (decide ((c.toNat : Int) < 32)) = true then some true else if (decide (126 < (c.toNat : Int))) = true then some true else some (decide ((c.toNat : Int) = 34)) : Option Bool)) x = some (badText x) := by
    intro x _
    unfold badText
    simp only
    cases decide ((x.toNat : Int) < 32) <;> cases decide (126 < (x.toNat : Int)) <;> simp
  constructor
  · unfold s_IsValidText
    rw [any_loop0 s.data.toList badText _ false () (s_IsValidText_u1 s) hT (fun n i => by rw [s_IsValidText_u1, size_list]; simp only [Option.bind_assoc]) (by rw [size_list]; exact hs) (by rw [size_list]; exact hk)]
    cases s.data.toList.any badText <;> simp
  · unfold i_IsValidText
    rw [any_loop0 s.data.toList badText _ false () (i_IsValidText_u1 s) hT (fun n i => by rw [i_IsValidText_u1, size_list]; simp only [Option.bind_assoc]) (by rw [size_list]; exact hs) (by rw [size_list]; exact hk)]
    cases s.data.toList.any badText <;> simp
end Go.Proofs.Ytbknilpmpjjfpaa
