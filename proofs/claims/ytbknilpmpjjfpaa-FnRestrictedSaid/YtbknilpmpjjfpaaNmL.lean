/- Names: the program's and the reference's answer alike. -/
import Derived.Test.YtbknilpmpjjfpaaInL
import Derived.Test.YtbknilpmpjjfpaaMd1
import Derived.Test.YtbknilpmpjjfpaaMd2
import Derived.Test.YtbknilpmpjjfpaaMd3
set_option linter.unusedSimpArgs false
set_option linter.unusedVariables false
namespace Go.Proofs.Ytbknilpmpjjfpaa
open Go.RowKit Am
-- names
def lett (c : UInt8) : Bool := decide (97 ≤ (c.toNat : Int)) && decide ((c.toNat : Int) ≤ 122)
def digi (c : UInt8) : Bool := decide (48 ≤ (c.toNat : Int)) && decide ((c.toNat : Int) ≤ 57)
def badAt (i : Nat) (c : UInt8) : Bool := !lett c && (decide (i = 0) || !digi c)
theorem shape_eq (s : ByteArray) (hs : (s.size : Int) ≤ 9223372036854775807) {k : Nat} (hk : s.size < k) : s_l2Shape k s = some (!(anyI badAt 0 s.data.toList) && decide (0 < (s.size : Int))) := by
  unfold s_l2Shape
  rw [any_loopI0 s.data.toList badAt (fun i c => (if (decide (97 ≤ (c.toNat : Int))) = true then some (decide ((c.toNat : Int) ≤ 122)) else some false : Option Bool).bind fun x2 => (if (decide (48 ≤ (c.toNat : Int))) = true then some (decide ((c.toNat : Int) ≤ 57)) else some false : Option Bool).bind fun x4 =>
      (if (!x2) = true then if (decide (i = 0)) = true then some true else some (!x4) else some false : Option Bool)) false () (s_l2Shape_u1 s) (fun j hj => ?_) (fun n i => ?_) (by rw [size_list]; exact hs) (by rw [size_list]; exact hk)]
  · cases anyI badAt 0 s.data.toList <;> simp
  · unfold badAt lett digi
    cases decide (97 ≤ ((s.data.toList[j]).toNat : Int)) <;> cases decide (((s.data.toList[j]).toNat : Int) ≤ 122) <;> cases decide (48 ≤ ((s.data.toList[j]).toNat : Int)) <;> by_cases h0 : j = 0 <;> simp [h0]
  · rw [s_l2Shape_u1, size_list]
    cases at? s.data.toList i with
    | none => rfl
    | some c => simp only [Option.bind_some, Option.bind_assoc]
theorem word_eq (s : ByteArray) (hs : (s.size : Int) ≤ 9223372036854775807) {k : Nat} (hk : s.size < k) : i_isWord k s = some (!(anyI badAt 0 s.data.toList) && (decide (1 ≤ (s.size : Int)) && decide ((s.size : Int) ≤ 8))) := by
  unfold i_isWord
  rw [any_loopI0 s.data.toList badAt (fun i c => (if (decide (97 ≤ (c.toNat : Int))) = true then some (decide ((c.toNat : Int) ≤ 122)) else some false : Option Bool).bind fun x2 =>
      (if (!x2) = true then if (decide (i = 0)) = true then some true else (if (decide ((c.toNat : Int) < 48)) = true then some true else some (decide (57 < (c.toNat : Int)))) else some false : Option Bool)) false () (i_isWord_u1 s) (fun j hj => ?_) (fun n i => ?_) (by rw [size_list]; exact hs) (by rw [size_list]; exact hk)]
  · rw [within_eq]
    cases anyI badAt 0 s.data.toList <;> simp
  · unfold badAt lett digi
    obtain ⟨c, hc⟩ : ∃ c, c = s.data.toList[j] := ⟨_, rfl⟩
    rw [← hc]
    by_cases h0 : j = 0
    · cases decide (97 ≤ (c.toNat : Int)) <;> cases decide ((c.toNat : Int) ≤ 122) <;> simp [h0]
    · by_cases h1 : (c.toNat : Int) < 48
      · have h2 : ¬ (48 ≤ (c.toNat : Int)) := by omega
        cases decide (97 ≤ (c.toNat : Int)) <;> cases decide ((c.toNat : Int) ≤ 122) <;> simp [h0, h1, h2]
      · have h2 : 48 ≤ (c.toNat : Int) := by omega
        by_cases h3 : (c.toNat : Int) ≤ 57
        · have h4 : ¬ (57 < (c.toNat : Int)) := by omega
          cases decide (97 ≤ (c.toNat : Int)) <;> cases decide ((c.toNat : Int) ≤ 122) <;> simp [h0, h1, h2, h3, h4]
        · have h4 : 57 < (c.toNat : Int) := by omega
          cases decide (97 ≤ (c.toNat : Int)) <;> cases decide ((c.toNat : Int) ≤ 122) <;> simp [h0, h1, h2, h3, h4]
  · rw [i_isWord_u1, size_list]
    cases at? s.data.toList i with
    | none => rfl
    | some c => simp only [Option.bind_some, Option.bind_assoc]
def resWords : List ByteArray := (s_l2Reserved).getD []
theorem resWords_eq : s_l2Reserved = some resWords := rfl
theorem s_reserved (a : ByteArray) {k : Nat} (hk : 24 < k) : s_IsReserved k a = some (resWords.any fun x => decide (x = a)) := by
  unfold s_IsReserved
  rw [resWords_eq, Option.bind_some]
  unfold s_l1Has
  rw [any_loop0 resWords (fun x => decide (x = a)) (fun x => some (decide (x = a))) true () (s_l1Has_u1 resWords a) (fun _ _ => rfl) (fun n i => by rw [s_l1Has_u1]; rfl) (by decide) (show resWords.length < k from hk)]
  cases resWords.any fun x => decide (x = a) <;> rfl
theorem i_reserved (a : ByteArray) : i_IsReserved a = some (resWords.any fun x => decide (x = a)) := by
  by_cases h : a ∈ resWords
  · have hb : (resWords.any fun x => decide (x = a)) = true := List.any_eq_true.2 ⟨a, h, by simp⟩
    rw [hb]
    simp only [resWords, s_l2Reserved, Option.getD_some, List.mem_cons, List.not_mem_nil, or_false] at h
    rcases h with rfl | rfl | rfl | rfl | rfl | rfl | rfl | rfl | rfl | rfl | rfl | rfl | rfl | rfl | rfl | rfl | rfl | rfl | rfl | rfl | rfl | rfl | rfl | rfl <;> rfl
  · have hb : (resWords.any fun x => decide (x = a)) = false := by
      rw [List.any_eq_false]; intro x hx; simp; rintro rfl; exact h hx
    rw [hb]
    simp only [resWords, s_l2Reserved, Option.getD_some, List.mem_cons, List.not_mem_nil, or_false, not_or] at h
    obtain ⟨h1, h2, h3, h4, h5, h6, h7, h8, h9, h10, h11, h12, h13, h14, h15, h16, h17, h18, h19, h20, h21, h22, h23, h24⟩ := h
    unfold i_IsReserved i_ArgumentCount
    simp [h1, h2, h3, h4, h5, h6, h7, h8, h9, h10, h11, h12, h13, h14, h15, h16, h17, h18, h19, h20, h21, h22, h23, h24]
def nameOk (s : ByteArray) : Bool := !(anyI badAt 0 s.data.toList) && decide (0 < (s.size : Int)) && decide ((s.size : Int) ≤ 8) && !(resWords.any fun x => decide (x = s))
theorem validName (s : ByteArray) (hs : (s.size : Int) ≤ 9223372036854775807) {k : Nat} (hk : s.size < k) (hk2 : 24 < k) : s_IsValidName k s = some (nameOk s) ∧ i_IsValidName k s = some (nameOk s) := by
  constructor
  · unfold s_IsValidName nameOk
    rw [shape_eq s hs hk, s_reserved s hk2]
    cases anyI badAt 0 s.data.toList <;> cases decide (0 < (s.size : Int)) <;> cases decide ((s.size : Int) ≤ 8) <;> simp
  · unfold i_IsValidName nameOk
    rw [word_eq s hs hk, i_reserved s]
    have e : decide (1 ≤ (s.size : Int)) = decide (0 < (s.size : Int)) := by rw [decide_eq_decide]; omega
    rw [e]
    cases anyI badAt 0 s.data.toList <;> cases decide (0 < (s.size : Int)) <;> cases decide ((s.size : Int) ≤ 8) <;> simp
end Go.Proofs.Ytbknilpmpjjfpaa
