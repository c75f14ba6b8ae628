/- BarsOf: the program's answer is the reference's. -/
import Derived.Test.YtbknilpmpjjfpaaVvL
import Derived.Test.YtbknilpmpjjfpaaMd2
import Derived.Test.YtbknilpmpjjfpaaMd3
import Derived.Test.YtbknilpmpjjfpaaMd4
set_option linter.unusedSimpArgs false
set_option linter.unusedVariables false
namespace Go.Proofs.Ytbknilpmpjjfpaa
open Go.RowKit Am
theorem mapI_loop {α β : Type} (b : Nat) (hb : b ≤ 16384) (xs : List α) (m : Int → α → β) (G : Int → α → Option β) (u : Nat → List β → Int → Option (List β)) (hG : ∀ (j : Nat) (h : j < xs.length), G (j : Int) xs[j] = some (m (j : Int) xs[j]))
    (hu : ∀ n out i, u (n + 1) out i = if (decide (i < (xs.length : Int))) = true then (at? xs i).bind fun x => (G i x).bind fun y => (app? b out [y]).bind fun z => u n z (IntKind.i64.wrap (i + 1)) else some out)
    (hl : xs.length ≤ 1073741824) {k : Nat} (hk : xs.length < k) : u k [] 0 = some (xs.mapIdx fun j x => m (j : Int) x) := by
  have := loopE (fun n (s : List β) i => u n s i) (fun i => (xs.mapIdx fun j x => m (j : Int) x).take i) (some (xs.mapIdx fun j x => m (j : Int) x)) xs.length
    (fun n i hi => by
      have hi' : i < (xs.mapIdx fun j x => m (j : Int) x).length := by simpa using hi
      try simp only
      rw [hu, if_pos (lt_yes hi), at_in hi, Option.bind_some, hG i hi, Option.bind_some, app_big (by simp; omega) hb, Option.bind_some, wS i (by omega), List.take_succ_eq_append_getElem hi']
      simp)
    (fun n => by rw [hu, if_neg (lt_no (Nat.le_refl _)), List.take_of_length_le (by simp)]) hk
  simpa using this
def loOf (xs : List Int) (z : Int) : Int := xs.foldl (fun a x => if x < a then x else a) z
def hiOf (xs : List Int) (z : Int) : Int := xs.foldl (fun a x => if x > a then x else a) z
theorem lo_bd (B : Int) : ∀ (xs : List Int) (z : Int), -B ≤ z → z ≤ B → (∀ x ∈ xs, -B ≤ x ∧ x ≤ B) → -B ≤ loOf xs z ∧ loOf xs z ≤ B
  | [], z, h0, h1, _ => ⟨h0, h1⟩
  | x :: xs, z, h0, h1, h => by
    have hx := h x (by simp)
    have := lo_bd B xs (if x < z then x else z) (by split <;> omega) (by split <;> omega) fun y hy => h y (by simp [hy])
    simpa [loOf] using this
theorem hi_bd (B : Int) : ∀ (xs : List Int) (z : Int), -B ≤ z → z ≤ B → (∀ x ∈ xs, -B ≤ x ∧ x ≤ B) → -B ≤ hiOf xs z ∧ hiOf xs z ≤ B
  | [], z, h0, h1, _ => ⟨h0, h1⟩
  | x :: xs, z, h0, h1, h => by
    have hx := h x (by simp)
    have := hi_bd B xs (if x > z then x else z) (by split <;> omega) (by split <;> omega) fun y hy => h y (by simp [hy])
    simpa [hiOf] using this
theorem s_min (a b : Int) : s_l1Min a b = some (if b < a then b else a) := by
  unfold s_l1Min
  by_cases h : a < b
  · rw [if_pos (by simpa using h), if_neg (by omega)]
  · rw [if_neg (by simpa using h)]
    split <;> first | rfl | (congr 1; omega)
theorem isNum_bd {n : Int} (h : isNum n = true) : -1000000000 ≤ n ∧ n ≤ 1000000000 := by simpa [isNum] using h
def partV (a b c d : Int) : Int := if c = 0 then d else IntKind.i64.wrap ((IntKind.i64.wrap (a * b)).tdiv c)
theorem i_part_eq (a b c d : Int) : i_part a b c d = some (partV a b c d) := by
  unfold i_part partV nz?
  by_cases h : c = 0 <;> simp [h]
def canvas (w h : Int) : Bool := (decide (1 ≤ w) && decide (w ≤ 1000)) && (decide (1 ≤ h) && decide (h ≤ 1000))
theorem i_canvas (w h : Int) : i_isCanvas w h = some (canvas w h) := by
  unfold i_isCanvas canvas
  simp only [within_eq, Option.bind_some]
  cases (decide (1 ≤ w) && decide (w ≤ 1000)) <;> simp
end Go.Proofs.Ytbknilpmpjjfpaa
