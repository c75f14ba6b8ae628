/- Valid cells and notebooks: the program's verdict is the reference's. -/
import Derived.Test.YtbknilpmpjjfpaaGreatIxL
import Derived.Test.YtbknilpmpjjfpaaGreatNmL
import Derived.Test.YtbknilpmpjjfpaaGreatPkC
import Derived.Test.YtbknilpmpjjfpaaGreatMd0
import Derived.Test.YtbknilpmpjjfpaaGreatMd2
import Derived.Test.YtbknilpmpjjfpaaGreatMd3
import Derived.Test.YtbknilpmpjjfpaaGreatEq2
set_option linter.unusedSimpArgs false
set_option linter.unusedVariables false
namespace Go.Proofs.YtbknilpmpjjfpaaGreat
open Go.RowKit Am
def badP (c : UInt8) : Bool := decide ((c.toNat : Int) < 32) || decide (126 < (c.toNat : Int))
def printOk (s : ByteArray) : Bool := !(s.data.toList.any badP) && decide ((s.size : Int) ≤ 120)
theorem s_printable (s : ByteArray) (hs : (s.size : Int) ≤ 9223372036854775807) {k : Nat} (hk : s.size < k) : s_IsPrintable k s = some (printOk s) := by
  have hT : ∀ x ∈ s.data.toList, (fun c : UInt8 => (if (decide ((c.toNat : Int) < 32)) = true then some true else some (decide (126 < (c.toNat : Int))) : Option Bool)) x = some (badP x) := by
    intro x _
    unfold badP
    simp only
    cases decide ((x.toNat : Int) < 32) <;> simp
  unfold s_IsPrintable printOk
  rw [any_loop0 s.data.toList badP _ false () (s_IsPrintable_u1 s) hT (fun n i => by rw [s_IsPrintable_u1, size_list]; simp only [Option.bind_assoc]) (by rw [size_list]; exact hs) (by rw [size_list]; exact hk)]
  cases s.data.toList.any badP <;> simp
theorem i_printable (s : ByteArray) (hs : (s.size : Int) ≤ 9223372036854775807) {k : Nat} (hk : s.size < k) : i_IsPrintable k s = some (printOk s) := by
  rw [i_IsPrintable_eqv]; exact s_printable s hs hk
def cellOk (c : TCell) : Bool :=
  ((decide (1 ≤ c.id) && decide (c.id ≤ 999)) && (decide (1 ≤ c.version) && decide (c.version ≤ 999)) && printOk c.code) &&
    (if c.kind = 1 then decide (c.name = (⟨#[]⟩ : ByteArray)) && decide (c.n = 0)
     else if c.kind = 2 ∨ c.kind = 4 then nameOk c.name && decide (c.n = 0)
     else if c.kind = 3 then nameOk c.name && (decide (c.code = (⟨#[]⟩ : ByteArray)) && (decide (0 ≤ c.n) && decide (c.n ≤ 100)))
     else false)
theorem validCell (c : TCell) (hc : c.bk ≤ 1048576) {k : Nat} (hk : 1048600 < k) : s_IsValidCell k c = some (cellOk c) ∧ i_IsValidCell k c = some (cellOk c) := by
  have e := TCell.bk_eq c
  obtain ⟨n1, n2⟩ := validName c.name (by omega) (show c.name.size < k by omega) (by omega)
  have p1 := s_printable c.code (by omega) (show c.code.size < k by omega)
  have p2 := i_printable c.code (by omega) (show c.code.size < k by omega)
  unfold s_IsValidCell i_IsValidCell cellOk
  rw [n1, n2, p1, p2]
  simp only [l1In_eq, within_eq, Option.bind_some]
  generalize (decide (1 ≤ c.id) && decide (c.id ≤ 999)) = A
  generalize (decide (1 ≤ c.version) && decide (c.version ≤ 999)) = B
  generalize printOk c.code = C
  generalize nameOk c.name = D
  generalize decide (c.name = (⟨#[]⟩ : ByteArray)) = E
  generalize decide (c.code = (⟨#[]⟩ : ByteArray)) = F
  generalize (decide (0 ≤ c.n) && decide (c.n ≤ 100)) = G
  generalize decide (c.n = 0) = H
  by_cases h1 : c.kind = 1
  · simp only [h1, decide_true, if_true]
    cases A <;> cases B <;> cases C <;> cases E <;> cases H <;> exact ⟨rfl, rfl⟩
  by_cases h2 : c.kind = 2
  · simp only [h2]
    cases A <;> cases B <;> cases C <;> cases D <;> cases H <;> exact ⟨rfl, rfl⟩
  by_cases h4 : c.kind = 4
  · simp only [h4]
    cases A <;> cases B <;> cases C <;> cases D <;> cases H <;> exact ⟨rfl, rfl⟩
  by_cases h3 : c.kind = 3
  · simp only [h3]
    cases A <;> cases B <;> cases C <;> cases D <;> cases F <;> cases G <;> exact ⟨rfl, rfl⟩
  simp only [h1, h2, h3, h4, decide_false, if_false, or_self]
  cases A <;> cases B <;> cases C <;> exact ⟨rfl, rfl⟩
def cellBad (nb : TNotebook) (j : Nat) (c : TCell) : Bool := !cellOk c || !decide (cix nb c.id = (j : Int))
def nbOk (nb : TNotebook) : Bool := !anyI (cellBad nb) 0 nb.cells && decide ((nb.cells.length : Int) ≤ 8)
theorem validNotebook (nb : TNotebook) (hb : nb.bk ≤ 1048576) {k : Nat} (hk : 1048600 < k) : s_IsValidNotebook k nb = some (nbOk nb) ∧ i_IsValidNotebook k nb = some (nbOk nb) := by
  have e := TNotebook.bk_eq nb
  have hl := nb_len nb
  have hc : ∀ j (h : j < nb.cells.length), s_IsValidCell k nb.cells[j] = some (cellOk nb.cells[j]) ∧ i_IsValidCell k nb.cells[j] = some (cellOk nb.cells[j]) := fun j h => by
    have := bkS_get (f := TCell.bk) (List.getElem_mem h)
    exact validCell _ (by omega) hk
  constructor
  · unfold s_IsValidNotebook nbOk
    rw [any_loopI0 nb.cells (cellBad nb) (fun i x3 => (s_IsValidCell k x3).bind fun x4 => if (!x4) = true then some true else (s_CellIndex k nb x3.id).bind fun x5 => some (!decide (x5 = i))) false () (s_IsValidNotebook_u1 k nb)
      (fun j h => by rw [(hc j h).1, s_CellIndex_eq nb _ (by omega) (by omega)]; unfold cellBad; simp only [Option.bind_some]; cases cellOk nb.cells[j] <;> simp)
      (fun n i => by rw [s_IsValidNotebook_u1]; simp only [Option.bind_assoc]) (by omega) (by omega)]
    cases anyI (cellBad nb) 0 nb.cells <;> simp
  · unfold i_IsValidNotebook nbOk
    rw [any_loopI0 nb.cells (cellBad nb) (fun i x3 => (i_IsValidCell k x3).bind fun x4 => if (!x4) = true then some true else (i_CellIndex k nb x3.id).bind fun x5 => some (!decide (x5 = i))) false () (i_IsValidNotebook_u1 k nb)
      (fun j h => by rw [(hc j h).2, i_CellIndex_eq nb _ (by omega) (by omega)]; unfold cellBad; simp only [Option.bind_some]; cases cellOk nb.cells[j] <;> simp)
      (fun n i => by rw [i_IsValidNotebook_u1]) (by omega) (by omega)]
    cases anyI (cellBad nb) 0 nb.cells <;> simp
end Go.Proofs.YtbknilpmpjjfpaaGreat
