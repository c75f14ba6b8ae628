/- Laws on the mirrored functions' loops that ask: is there one; are two rows the same. Nothing of the program is used here. -/
import Derived.Test.YtopjlbifglacpaaLw
set_option linter.unusedSimpArgs false
set_option linter.unusedVariables false
namespace Go.Proofs.Ytopjlbifglacpaa
open Go.RowKit Am

/-- A loop that ends early at the first element that fits. -/
theorem any_loop {α ε β : Type} (xs : List α) (t : α → Bool) (T : α → Option Bool) (c : β) (e : ε) (u : Nat → Int → Option (ε ⊕ β)) (hT : ∀ x ∈ xs, T x = some (t x))
    (hu : ∀ n i, u (n + 1) i = if (decide (i < (xs.length : Int))) = true then (at? xs i).bind fun x => (T x).bind fun b => if b = true then some (.inr c) else u n (IntKind.i64.wrap (i + 1)) else some (.inl e))
    (hl : (xs.length : Int) ≤ 9223372036854775807) : ∀ (m n i : Nat), i + m = xs.length → m < n → u n (i : Int) = some (if (xs.drop i).any t = true then .inr c else .inl e) := by
  intro m
  induction m with
  | zero =>
    intro n i hi hn
    obtain ⟨n, rfl⟩ : ∃ j, n = j + 1 := ⟨n - 1, by omega⟩
    rw [hu, if_neg (lt_no (by omega)), List.drop_of_length_le (by omega)]; rfl
  | succ m ih =>
    intro n i hi hn
    obtain ⟨n, rfl⟩ : ∃ j, n = j + 1 := ⟨n - 1, by omega⟩
    have hil : i < xs.length := by omega
    rw [hu, if_pos (lt_yes hil), at_in hil, Option.bind_some, hT _ (List.getElem_mem hil), Option.bind_some, wS i (by omega), List.drop_eq_getElem_cons hil, List.any_cons]
    cases ht : t xs[i] with
    | true => simp
    | false => rw [if_neg (by simp), ih n (i + 1) (by omega) (by omega)]; simp
theorem any_loop0 {α ε β : Type} (xs : List α) (t : α → Bool) (T : α → Option Bool) (c : β) (e : ε) (u : Nat → Int → Option (ε ⊕ β)) (hT : ∀ x ∈ xs, T x = some (t x))
    (hu : ∀ n i, u (n + 1) i = if (decide (i < (xs.length : Int))) = true then (at? xs i).bind fun x => (T x).bind fun b => if b = true then some (.inr c) else u n (IntKind.i64.wrap (i + 1)) else some (.inl e))
    (hl : (xs.length : Int) ≤ 9223372036854775807) {k : Nat} (hk : xs.length < k) : u k 0 = some (if xs.any t = true then .inr c else .inl e) := by
  have := any_loop xs t T c e u hT hu hl xs.length k 0 (by omega) hk
  simpa using this

/-- The same, where the test asks for the place, too. -/
def anyI {α : Type} (t : Nat → α → Bool) : Nat → List α → Bool
  | _, [] => false
  | i, x :: xs => t i x || anyI t (i + 1) xs
theorem any_loopI {α ε β : Type} (xs : List α) (t : Nat → α → Bool) (T : Int → α → Option Bool) (c : β) (e : ε) (u : Nat → Int → Option (ε ⊕ β)) (hT : ∀ (j : Nat) (h : j < xs.length), T j xs[j] = some (t j xs[j]))
    (hu : ∀ n i, u (n + 1) i = if (decide (i < (xs.length : Int))) = true then (at? xs i).bind fun x => (T i x).bind fun b => if b = true then some (.inr c) else u n (IntKind.i64.wrap (i + 1)) else some (.inl e))
    (hl : (xs.length : Int) ≤ 9223372036854775807) : ∀ (m n i : Nat), i + m = xs.length → m < n → u n (i : Int) = some (if anyI t i (xs.drop i) = true then .inr c else .inl e) := by
  intro m
  induction m with
  | zero =>
    intro n i hi hn
    obtain ⟨n, rfl⟩ : ∃ j, n = j + 1 := ⟨n - 1, by omega⟩
    rw [hu, if_neg (lt_no (by omega)), List.drop_of_length_le (by omega)]; rfl
  | succ m ih =>
    intro n i hi hn
    obtain ⟨n, rfl⟩ : ∃ j, n = j + 1 := ⟨n - 1, by omega⟩
    have hil : i < xs.length := by omega
    rw [hu, if_pos (lt_yes hil), at_in hil, Option.bind_some, hT i hil, Option.bind_some, wS i (by omega), List.drop_eq_getElem_cons hil]
    simp only [anyI]
    by_cases ht : t i xs[i] = true
    · simp [ht]
    · rw [if_neg ht, ih n (i + 1) (by omega) (by omega)]; simp [ht]
theorem any_loopI0 {α ε β : Type} (xs : List α) (t : Nat → α → Bool) (T : Int → α → Option Bool) (c : β) (e : ε) (u : Nat → Int → Option (ε ⊕ β)) (hT : ∀ (j : Nat) (h : j < xs.length), T j xs[j] = some (t j xs[j]))
    (hu : ∀ n i, u (n + 1) i = if (decide (i < (xs.length : Int))) = true then (at? xs i).bind fun x => (T i x).bind fun b => if b = true then some (.inr c) else u n (IntKind.i64.wrap (i + 1)) else some (.inl e))
    (hl : (xs.length : Int) ≤ 9223372036854775807) {k : Nat} (hk : xs.length < k) : u k 0 = some (if anyI t 0 xs = true then .inr c else .inl e) := by
  have := any_loopI xs t T c e u hT hu hl xs.length k 0 (by omega) hk
  simpa using this
/-- Of each element of a list there is an answer: so there is a function that gives it. -/
theorem choose_mem {α β : Type} [Inhabited β] {p : α → β → Prop} (xs : List α) (h : ∀ x ∈ xs, ∃ b, p x b) : ∃ f : α → β, ∀ x ∈ xs, p x (f x) := by
  classical
  refine ⟨fun x => if hx : x ∈ xs then (h x hx).choose else default, fun x hx => ?_⟩
  simp only [hx, dite_true]
  exact (h x hx).choose_spec

/-- Two rows, place by place. -/
def sameL {α : Type} (p : α → α → Bool) : List α → List α → Bool
  | [], [] => true
  | x :: xs, y :: ys => p x y && sameL p xs ys
  | _, _ => false
theorem sameL_len {α : Type} {p : α → α → Bool} : ∀ {xs ys : List α}, sameL p xs ys = true → xs.length = ys.length
  | [], [], _ => rfl
  | x :: xs, y :: ys, h => by simp only [sameL, Bool.and_eq_true] at h; simp [sameL_len h.2]
  | [], _ :: _, h => by simp [sameL] at h
  | _ :: _, [], h => by simp [sameL] at h
theorem same_loop {α : Type} (xs ys : List α) (p : α → α → Bool) (P : α → α → Option Bool) (u : Nat → Int → Option (Unit ⊕ Bool)) (hP : ∀ x ∈ xs, ∀ y ∈ ys, P x y = some (!p x y))
    (hu : ∀ n i, u (n + 1) i = if (decide (i < (xs.length : Int))) = true then (at? xs i).bind fun x => (at? ys i).bind fun y => (P x y).bind fun b => if b = true then some (.inr false) else u n (IntKind.i64.wrap (i + 1)) else some (.inl ()))
    (hl : (xs.length : Int) ≤ 9223372036854775807) (he : xs.length = ys.length) : ∀ (m n i : Nat), i + m = xs.length → m < n → u n (i : Int) = some (if sameL p (xs.drop i) (ys.drop i) = true then .inl () else .inr false) := by
  intro m
  induction m with
  | zero =>
    intro n i hi hn
    obtain ⟨n, rfl⟩ : ∃ j, n = j + 1 := ⟨n - 1, by omega⟩
    rw [hu, if_neg (lt_no (by omega)), List.drop_of_length_le (by omega), List.drop_of_length_le (by omega)]; rfl
  | succ m ih =>
    intro n i hi hn
    obtain ⟨n, rfl⟩ : ∃ j, n = j + 1 := ⟨n - 1, by omega⟩
    have hil : i < xs.length := by omega
    have hjl : i < ys.length := by omega
    rw [hu, if_pos (lt_yes hil), at_in hil, Option.bind_some, at_in hjl, Option.bind_some, hP _ (List.getElem_mem hil) _ (List.getElem_mem hjl), Option.bind_some, wS i (by omega), List.drop_eq_getElem_cons hil, List.drop_eq_getElem_cons hjl]
    cases ht : p xs[i] ys[i] with
    | true => rw [if_neg (by simp), ih n (i + 1) (by omega) (by omega)]; simp [sameL, ht]
    | false => simp [sameL, ht]
/-- The function over such a loop. -/
theorem same_law {α : Type} (xs ys : List α) (p : α → α → Bool) (P : α → α → Option Bool) (u : Nat → Int → Option (Unit ⊕ Bool)) (hP : ∀ x ∈ xs, ∀ y ∈ ys, P x y = some (!p x y))
    (hu : ∀ n i, u (n + 1) i = if (decide (i < (xs.length : Int))) = true then (at? xs i).bind fun x => (at? ys i).bind fun y => (P x y).bind fun b => if b = true then some (.inr false) else u n (IntKind.i64.wrap (i + 1)) else some (.inl ()))
    (hl : (xs.length : Int) ≤ 9223372036854775807) {k : Nat} (hk : xs.length < k) :
    (if (!decide ((xs.length : Int) = (ys.length : Int))) = true then some false else (u k 0).bind fun | .inl _ => some true | .inr z => some z) = some (sameL p xs ys) := by
  by_cases he : xs.length = ys.length
  · rw [if_neg (by simp [he])]
    have := same_loop xs ys p P u hP hu hl he xs.length k 0 (by omega) hk
    rw [show ((0 : Nat) : Int) = 0 from rfl] at this
    rw [this]
    simp only [List.drop_zero, Option.bind_some]
    cases sameL p xs ys <;> rfl
  · rw [if_pos (by simp; omega)]
    cases h : sameL p xs ys with
    | false => rfl
    | true => exact absurd (sameL_len h) he
end Go.Proofs.Ytopjlbifglacpaa
