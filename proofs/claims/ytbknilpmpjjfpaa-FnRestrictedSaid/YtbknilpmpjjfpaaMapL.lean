/- Loops that lay one new element after another. Nothing of the program is used here. -/
import Derived.Test.YtbknilpmpjjfpaaTo
set_option linter.unusedSimpArgs false
set_option linter.unusedVariables false
namespace Go.Proofs.Ytbknilpmpjjfpaa
open Go.RowKit Am
theorem app_big {α : Type} {b : Nat} {xs ys : List α} (h : xs.length + ys.length ≤ 4294967296) (hb : b ≤ 16384) : app? b xs ys = some (xs ++ ys) := by
  unfold app?
  rw [if_pos ⟨by omega, Nat.le_trans (Nat.mul_le_mul h hb) (by omega)⟩]
theorem map_loop {α β : Type} (b : Nat) (hb : b ≤ 16384) (xs : List α) (g : α → β) (G : α → Option β) (u : Nat → List β → Int → Option (List β)) (hG : ∀ x ∈ xs, G x = some (g x))
    (hu : ∀ n out i, u (n + 1) out i = if (decide (i < (xs.length : Int))) = true then (at? xs i).bind fun x => (G x).bind fun y => (app? b out [y]).bind fun z => u n z (IntKind.i64.wrap (i + 1)) else some out)
    (hl : xs.length ≤ 1073741824) {k : Nat} (hk : xs.length < k) : u k [] 0 = some (xs.map g) := by
  have := loopE (fun n (s : List β) i => u n s i) (fun i => (xs.take i).map g) (some (xs.map g)) xs.length
    (fun n i hi => by
      try simp only
      rw [hu, if_pos (lt_yes hi), at_in hi, Option.bind_some, hG _ (List.getElem_mem hi), Option.bind_some, app_big (by simp; omega) hb, Option.bind_some, wS i (by omega), List.take_succ_eq_append_getElem hi, List.map_append]
      rfl)
    (fun n => by rw [hu, if_neg (lt_no (Nat.le_refl _)), List.take_length]) hk
  simpa using this
theorem copy_loop {α : Type} (b : Nat) (hb : b ≤ 16384) (xs : List α) (G : α → Option α) (u : Nat → List α → Int → Option (List α)) (hG : ∀ x ∈ xs, G x = some x)
    (hu : ∀ n out i, u (n + 1) out i = if (decide (i < (xs.length : Int))) = true then (at? xs i).bind fun x => (G x).bind fun y => (app? b out [y]).bind fun z => u n z (IntKind.i64.wrap (i + 1)) else some out)
    (hl : xs.length ≤ 1073741824) {k : Nat} (hk : xs.length < k) : u k [] 0 = some xs := by
  have := map_loop b hb xs id G u hG hu hl hk
  simpa using this
end Go.Proofs.Ytbknilpmpjjfpaa
