/- Worlds: valid ones, their copies; the program's and the reference's answers alike. -/
import Derived.Test.YtmiboaogfjgkjaaTo
import Derived.Test.YtmiboaogfjgkjaaNmL
import Derived.Test.YtmiboaogfjgkjaaLs
import Derived.Test.YtmiboaogfjgkjaaMd5
import Derived.Test.YtmiboaogfjgkjaaMd6
import Derived.Test.YtmiboaogfjgkjaaMd9
import Derived.Test.YtmiboaogfjgkjaaEq6
import Derived.Test.YtmiboaogfjgkjaaEq9
set_option linter.unusedSimpArgs false
set_option linter.unusedVariables false
namespace Go.Proofs.Ytmiboaogfjgkjaa
open Go.RowKit Am

theorem number_eq (n : Int) : s_l3Number n = some (decide (-1000000000 ≤ n) && decide (n ≤ 1000000000)) := by
  unfold s_l3Number
  simp only [l1In_eq, Option.bind_some]
theorem number_eq_i (n : Int) : i_isNumber n = some (decide (-1000000000 ≤ n) && decide (n ≤ 1000000000)) := by rw [i_isNumber_eqv]; exact number_eq n
/-- What is wrong with the file at a place, if it is. -/
def fileBad (fs : List TFile) (j : Nat) (x : TFile) : Bool :=
  !nameOk x.name || !(decide (-1000000000 ≤ x.n) && decide (x.n ≤ 1000000000)) || (decide (0 < j) && !(match fs[j - 1]? with | some y => sLess y.name x.name | none => true))
def worldOk (w : TWorld) : Bool := !anyI (fileBad w.files) 0 w.files && (decide (0 ≤ w.clock) && decide (w.clock ≤ 1000)) && (decide (0 ≤ w.seed) && decide (w.seed ≤ 1000000)) && decide ((w.files.length : Int) ≤ 4)
theorem files_body (N : Nat → ByteArray → Option Bool) (G : Int → Option Bool) (hG : ∀ n, G n = some (decide (-1000000000 ≤ n) && decide (n ≤ 1000000000))) {k : Nat} (fs : List TFile) (hl : fs.length ≤ 1048576) (hN : ∀ x ∈ fs, N k x.name = some (nameOk x.name)) (j : Nat) (h : j < fs.length) :
    ((N k fs[j].name).bind fun x4 => if (!x4) = true then some true else (G fs[j].n).bind fun x5 => if (!x5) = true then some true else if decide (0 < (j : Int)) = true then (at? fs (IntKind.i64.wrap ((j : Int) - 1))).bind fun x6 => some (!sLess x6.name fs[j].name) else some false : Option Bool) = some (fileBad fs j fs[j]) := by
  rw [hN _ (List.getElem_mem h), hG]
  unfold fileBad
  by_cases h0 : 0 < j
  · have e : IntKind.i64.wrap ((j : Int) - 1) = ((j - 1 : Nat) : Int) := by rw [w64 (by omega) (by omega)]; omega
    have h1 : j - 1 < fs.length := by omega
    rw [e, at_in h1, List.getElem?_eq_getElem h1]
    cases nameOk fs[j].name <;> cases decide (-1000000000 ≤ fs[j].n) <;> cases decide (fs[j].n ≤ 1000000000) <;> simp [h0]
  · have : j = 0 := by omega
    subst this
    cases nameOk fs[0].name <;> cases decide (-1000000000 ≤ fs[0].n) <;> cases decide (fs[0].n ≤ 1000000000) <;> simp
theorem validWorld (w : TWorld) (hl : w.files.length ≤ 1048576) (hs : ∀ x ∈ w.files, x.name.size ≤ 1048576) : Ev fun k => s_IsValidWorld k w = some (worldOk w) ∧ i_IsValidWorld k w = some (worldOk w) := by
  refine ((Ev.ge (1048576 + 25)).and (Ev.ge (w.files.length + 1))).mono ?_
  rintro k ⟨hk, hk2⟩
  have hn : ∀ x ∈ w.files, s_IsValidName k x.name = some (nameOk x.name) ∧ i_IsValidName k x.name = some (nameOk x.name) := fun x hx => validName x.name (by have := hs x hx; omega) (by have := hs x hx; omega) (by omega)
  constructor
  · unfold s_IsValidWorld s_l14Files
    rw [any_loopI0 w.files (fileBad w.files) (fun i x3 => (s_IsValidName k x3.name).bind fun x4 => if (!x4) = true then some true else (s_l3Number x3.n).bind fun x5 => if (!x5) = true then some true else if decide (0 < i) = true then (at? w.files (IntKind.i64.wrap (i - 1))).bind fun x6 => some (!sLess x6.name x3.name) else some false) false () (s_l14Files_u1 k w.files)
      (fun j h => files_body s_IsValidName s_l3Number number_eq w.files hl (fun x hx => (hn x hx).1) j h)
      (fun n i => by rw [s_l14Files_u1]; simp only [Option.bind_assoc]) (by omega) (by omega)]
    simp only [l1In_eq, Option.bind_some, worldOk]
    cases anyI (fileBad w.files) 0 w.files <;> cases decide (0 ≤ w.clock) <;> cases decide (w.clock ≤ 1000) <;> cases decide (0 ≤ w.seed) <;> cases decide (w.seed ≤ 1000000) <;> simp
  · unfold i_IsValidWorld
    rw [any_loopI0 w.files (fileBad w.files) (fun i x3 => (i_IsValidName k x3.name).bind fun x4 => if (!x4) = true then some true else (i_isNumber x3.n).bind fun x5 => if (!x5) = true then some true else if decide (0 < i) = true then (at? w.files (IntKind.i64.wrap (i - 1))).bind fun x6 => some (!sLess x6.name x3.name) else some false) false () (i_IsValidWorld_u1 k w)
      (fun j h => files_body i_IsValidName i_isNumber number_eq_i w.files hl (fun x hx => (hn x hx).2) j h)
      (fun n i => by rw [i_IsValidWorld_u1]; try simp only [Option.bind_assoc]) (by omega) (by omega)]
    simp only [within_eq, Option.bind_some, worldOk]
    cases anyI (fileBad w.files) 0 w.files <;> cases decide (0 ≤ w.clock) <;> cases decide (w.clock ≤ 1000) <;> cases decide (0 ≤ w.seed) <;> cases decide (w.seed ≤ 1000000) <;> simp
theorem world_copy (w : TWorld) (hl : w.files.length ≤ 1048576) : s_l14Copy w = some w ∧ i_copyWorld w = some w := by
  have : s_l14Copy w = some w := by
    unfold s_l14Copy
    rw [app_ok (by simp; omega) (by omega)]; rfl
  exact ⟨this, by rw [i_copyWorld_eqv]; exact this⟩
end Go.Proofs.Ytmiboaogfjgkjaa
