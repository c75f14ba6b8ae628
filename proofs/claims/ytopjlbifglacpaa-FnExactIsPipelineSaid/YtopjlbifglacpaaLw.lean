/- Laws on the mirrored functions' loops: what holds with enough rounds at hand; size counts, copies, comparisons. Nothing of the program is used here. -/
import Derived.Test.YtopjlbifglacpaaMb
set_option linter.unusedSimpArgs false
set_option linter.unusedVariables false
namespace Go.Proofs.Ytopjlbifglacpaa
open Go.RowKit Am

/-- With enough rounds at hand. -/
def Ev (p : Nat → Prop) : Prop := ∃ B, ∀ k, B ≤ k → p k
theorem Ev.of {p : Nat → Prop} (h : ∀ k, p k) : Ev p := ⟨0, fun k _ => h k⟩
theorem Ev.and {p q : Nat → Prop} (h : Ev p) (g : Ev q) : Ev fun k => p k ∧ q k := by
  obtain ⟨A, h⟩ := h; obtain ⟨B, g⟩ := g
  exact ⟨max A B, fun k hk => ⟨h k (by omega), g k (by omega)⟩⟩
theorem Ev.mono {p q : Nat → Prop} (h : Ev p) (f : ∀ k, p k → q k) : Ev q := by
  obtain ⟨A, h⟩ := h; exact ⟨A, fun k hk => f k (h k hk)⟩
theorem Ev.ge (n : Nat) : Ev fun k => n ≤ k := ⟨n, fun _ h => h⟩
theorem Ev.all {α : Type} {p : α → Nat → Prop} : ∀ (xs : List α), (∀ x ∈ xs, Ev (p x)) → Ev fun k => ∀ x ∈ xs, p x k
  | [], _ => Ev.of fun _ _ h => by simp at h
  | x :: xs, h => ((h x (by simp)).and (Ev.all xs fun y hy => h y (by simp [hy]))).mono fun k ⟨h1, h2⟩ y hy => by
    rcases List.mem_cons.1 hy with rfl | hy
    · exact h1
    · exact h2 y hy
theorem Ev.pred {p q : Nat → Prop} (h : Ev p) (f : ∀ k, p k → q (k + 1)) : Ev q := by
  obtain ⟨A, h⟩ := h
  refine ⟨A + 1, fun k hk => ?_⟩
  obtain ⟨j, rfl⟩ : ∃ j, k = j + 1 := ⟨k - 1, by omega⟩
  exact f j (h j (by omega))
theorem Ev.get {p : Nat → Prop} (h : Ev p) : ∃ k, p k := by obtain ⟨A, h⟩ := h; exact ⟨A, h A (Nat.le_refl _)⟩

theorem w64 {n : Int} (h0 : -9223372036854775808 ≤ n) (h1 : n ≤ 9223372036854775807) : IntKind.i64.wrap n = n := IntWalk.i64_in n ⟨h0, h1⟩
theorem wS (i : Nat) (h : i < 9223372036854775807) : IntKind.i64.wrap ((i : Int) + 1) = ((i + 1 : Nat) : Int) := by rw [w64 (by omega) (by omega)]; rfl
theorem at_nat {α : Type} (xs : List α) (i : Nat) : at? xs (i : Int) = xs[i]? := by unfold at?; rw [if_pos (by omega)]; rfl
theorem at_in {α : Type} {xs : List α} {i : Nat} (h : i < xs.length) : at? xs (i : Int) = some xs[i] := by rw [at_nat, List.getElem?_eq_getElem h]
theorem lt_yes {i n : Nat} (h : i < n) : (decide ((i : Int) < (n : Int))) = true := by simp [h]
theorem lt_no {i n : Nat} (h : n ≤ i) : ¬ (decide ((i : Int) < (n : Int))) = true := by simp [h]
theorem app_ok {α : Type} {b : Nat} {xs ys : List α} (h : xs.length + ys.length ≤ 1099511627776) (hb : b ≤ 128) : app? b xs ys = some (xs ++ ys) := by
  unfold app?
  rw [if_pos ⟨by omega, Nat.le_trans (Nat.mul_le_mul h hb) (by omega)⟩]
theorem mk_ok {b n : Nat} (h : n ≤ 1099511627776) (hb : b ≤ 256) : mk? b (n : Int) = some n := by
  unfold mk?
  have h1 : (b : Int) * (n : Int) ≤ 281474976710656 := by
    have := Nat.mul_le_mul hb h
    have h2 : ((b * n : Nat) : Int) ≤ ((256 * 1099511627776 : Nat) : Int) := Int.ofNat_le.2 this
    simpa using h2
  rw [if_pos ⟨by omega, by omega, h1⟩]; rfl

mutual
/-- The datum is one that memory can hold, to the bottom. -/
def DOk : L → Prop
  | .int k n => InK k n
  | .bool _ => True
  | .str s => Fit s
  | .sl es => es.length ≤ 9223372036854775807 ∧ DOkE es
def DOkL : List L → Prop
  | [] => True
  | x :: xs => DOk x ∧ DOkL xs
def DOkE : List (List L) → Prop
  | [] => True
  | e :: es => DOkL e ∧ DOkE es
end
theorem DOkE_map {α : Type} {c : α → List L} : ∀ {xs : List α}, DOkE (xs.map c) ↔ ∀ x ∈ xs, DOkL (c x)
  | [] => by simp [DOkE]
  | x :: xs => by simp [DOkE, DOkE_map (xs := xs)]
theorem DOk_sl {α : Type} {c : α → List L} {xs : List α} (h : DOk (.sl (xs.map c))) : (xs.length : Int) ≤ 9223372036854775807 ∧ ∀ x ∈ xs, DOkL (c x) := by
  simp only [DOk, List.length_map] at h
  exact ⟨by omega, DOkE_map.1 h.2⟩
theorem DOk_str {s : ByteArray} (h : DOk (.str s)) : (s.size : Int) ≤ 9223372036854775807 := by simp only [DOk, Fit] at h; omega
theorem DOk_int {n : Int} (h : DOk (.int .i64 n)) : -9223372036854775808 ≤ n ∧ n ≤ 9223372036854775807 := by simp only [DOk] at h; exact (inK_i64 n).1 h
mutual
theorem Rp.dok {w : World} : ∀ {x : L} {v : Value} {F : List Nat}, Rp w x v F → DOk x
  | .int _ _, _, _, h => by simp only [Rp] at h; simp only [DOk]; exact h.2.2
  | .bool _, _, _, _ => by simp only [DOk]
  | .str _, _, _, h => by simp only [Rp] at h; simp only [DOk]; exact h.2.2
  | .sl _, _, _, h => by
    simp only [Rp] at h
    obtain ⟨A, c, h1, h2, h3, h4⟩ := h
    simp only [DOk]
    refine ⟨by omega, ?_⟩
    rcases h4 with ⟨rfl, _⟩ | ⟨b, off, xs, Fs, e1, e2, e3, e4, e5⟩
    · simp only [DOkE]
    · exact RpE.dok e5
theorem RpL.dok {w : World} : ∀ {xs : List L} {vs : List Value} {F : List Nat}, RpL w xs vs F → DOkL xs
  | [], _, _, _ => by simp only [DOkL]
  | _ :: _, _, _, h => by
    simp only [RpL] at h
    obtain ⟨v, vs', F1, F2, _, _, h1, h2⟩ := h
    simp only [DOkL]
    exact ⟨Rp.dok h1, RpL.dok h2⟩
theorem RpE.dok {w : World} : ∀ {es : List (List L)} {vs : List Value} {F : List Nat}, RpE w es vs F → DOkE es
  | [], _, _, _ => by simp only [DOkE]
  | _ :: _, _, _, h => by
    simp only [RpE] at h
    obtain ⟨v1, v2, F1, F2, _, _, h1, h2⟩ := h
    simp only [DOkE]
    exact ⟨RpL.dok h1, RpE.dok h2⟩
end

/-- A size count: what is left, or -1. -/
def szR (b : Nat) (left : Int) : Int := if (b : Int) ≤ left then left - b else -1
def sumBk {α : Type} (f : α → Nat) (xs : List α) : Nat := (xs.map f).sum
def bkS {α : Type} (f : α → Nat) (xs : List α) : Nat := xs.length + sumBk f xs
theorem sumBk_get {α : Type} (f : α → Nat) : ∀ {xs : List α} {x : α}, x ∈ xs → f x ≤ sumBk f xs
  | y :: xs, x, h => by
    rcases List.mem_cons.1 h with rfl | h
    · simp only [sumBk, List.map_cons, List.sum_cons]; omega
    · have := sumBk_get f h; simp only [sumBk, List.map_cons, List.sum_cons] at this ⊢; omega
theorem bkS_get {α : Type} {f : α → Nat} {xs : List α} {x : α} (h : x ∈ xs) : f x ≤ bkS f xs := by have := sumBk_get f h; unfold bkS; omega
theorem bkS_len {α : Type} {f : α → Nat} {xs : List α} : xs.length ≤ bkS f xs := by unfold bkS; omega
theorem bkS_0 {α : Type} (xs : List α) : bkS (fun _ => 0) xs = xs.length := by
  unfold bkS sumBk
  have : (xs.map fun _ => 0).sum = 0 := by induction xs <;> simp_all
  omega
theorem szR_end {left : Int} (h : 0 ≤ left) : some left = some (szR 0 left) := by unfold szR; rw [if_pos (by simpa using h)]; simp
theorem sz_then {b b2 : Nat} {left : Int} {F : Int → Option Int} (h0 : 0 ≤ left) (hF : ∀ x, 0 ≤ x → x ≤ left → F x = some (szR b2 x)) :
    (if (decide (szR b left < 0)) = true then some (-1) else F (szR b left)) = some (szR (b + b2) left) := by
  by_cases h : (b : Int) ≤ left
  · have e : szR b left = left - b := by unfold szR; rw [if_pos h]
    rw [e, if_neg (by simp; omega), hF _ (by omega) (by omega)]
    unfold szR
    by_cases h2 : (b2 : Int) ≤ left - b
    · rw [if_pos h2, if_pos (by omega)]; congr 1; omega
    · rw [if_neg h2, if_neg (by omega)]
  · have e : szR b left = -1 := by unfold szR; rw [if_neg h]
    rw [e, if_pos (by decide)]
    unfold szR
    rw [if_neg (by omega)]
/-- A text's or a row's length taken off. -/
theorem sz_off {b b2 : Nat} {left : Int} {F : Int → Option Int} (h0 : 0 ≤ left) (h1 : left ≤ 1048576) (hb : (b : Int) ≤ 9223372036854775807) (hF : ∀ x, 0 ≤ x → x ≤ left → F x = some (szR b2 x)) :
    (if (decide (IntKind.i64.wrap (left - (b : Int)) < 0)) = true then some (-1) else F (IntKind.i64.wrap (left - (b : Int)))) = some (szR (b + b2) left) := by
  rw [w64 (by omega) (by omega)]
  by_cases h : (b : Int) ≤ left
  · have := sz_then (b := b) (b2 := b2) h0 hF
    unfold szR at this
    rw [if_pos h] at this
    exact this
  · rw [if_pos (by simp; omega)]
    unfold szR
    rw [if_neg (by omega)]
theorem sz_cut {b : Nat} {left : Int} (h0 : 0 ≤ left) (h1 : left ≤ 1048576) (hb : (b : Int) ≤ 9223372036854775807) :
    (∃ z, IntKind.i64.wrap (left - (b : Int)) = z ∧ ¬ (decide (z < 0)) = true ∧ z = left - b ∧ 0 ≤ z ∧ z ≤ 1048576) ∨ ((decide (IntKind.i64.wrap (left - (b : Int)) < 0)) = true ∧ left < b) := by
  rw [w64 (by omega) (by omega)]
  by_cases h : (b : Int) ≤ left
  · exact .inl ⟨_, rfl, by simp; omega, rfl, by omega, by omega⟩
  · exact .inr ⟨by simp; omega, by omega⟩
theorem szR_cut {b : Nat} {left : Int} (h1 : left ≤ 1048576) : (∃ z, szR b left = z ∧ ¬ (decide (z < 0)) = true ∧ z = left - b ∧ 0 ≤ z ∧ z ≤ 1048576) ∨ (szR b left = -1 ∧ left < b) := by
  unfold szR
  by_cases h : (b : Int) ≤ left
  · rw [if_pos h]; exact .inl ⟨_, rfl, by simp; omega, rfl, by omega, by omega⟩
  · rw [if_neg h]; exact .inr ⟨rfl, by omega⟩
theorem szR_neg {b : Nat} {left : Int} (h : left < b) : some (-1) = some (szR b left) := by unfold szR; rw [if_neg (by omega)]
theorem szR_pos {b : Nat} {left z : Int} (h0 : 0 ≤ z) (h : z = left - b) : some z = some (szR b left) := by unfold szR; rw [if_pos (by omega), h]
theorem sz_loop {α : Type} (f : α → Nat) (a0 : List α) (g : α → Int → Option Int) (u : Nat → Int → Int → Option (Int ⊕ Int))
    (hg : ∀ x ∈ a0, ∀ l, 0 ≤ l → l ≤ 1048576 → ((g x l).bind fun y => if (decide (y < 0)) = true then some (-1) else some y) = some (szR (f x) l))
    (hu : ∀ n l i, u (n + 1) l i = if (decide (i < (a0.length : Int))) = true then (at? a0 i).bind fun x => (g x l).bind fun y => if (decide (y < 0)) = true then some (.inr (-1)) else u n y (IntKind.i64.wrap (i + 1)) else some (.inl l))
    (hl : a0.length ≤ 1048576) : ∀ (m n i : Nat) (l : Int), i + m = a0.length → m < n → 0 ≤ l → l ≤ 1048576 → u n l (i : Int) = some (if (sumBk f (a0.drop i) : Int) ≤ l then .inl (l - sumBk f (a0.drop i)) else .inr (-1)) := by
  intro m
  induction m with
  | zero =>
    intro n i l hi hn h0 h1
    obtain ⟨n, rfl⟩ : ∃ j, n = j + 1 := ⟨n - 1, by omega⟩
    rw [hu, if_neg (lt_no (by omega)), List.drop_of_length_le (by omega)]
    simp [sumBk, h0]
  | succ m ih =>
    intro n i l hi hn h0 h1
    obtain ⟨n, rfl⟩ : ∃ j, n = j + 1 := ⟨n - 1, by omega⟩
    have hil : i < a0.length := by omega
    rw [hu, if_pos (lt_yes hil), at_in hil, Option.bind_some, wS i (by omega), List.drop_eq_getElem_cons hil]
    have hx := hg a0[i] (List.getElem_mem hil) l h0 h1
    obtain ⟨y, hy, hx⟩ := Option.bind_eq_some_iff.1 hx
    rw [hy, Option.bind_some]
    have e : (sumBk f (a0[i] :: a0.drop (i + 1)) : Nat) = f a0[i] + sumBk f (a0.drop (i + 1)) := by unfold sumBk; rw [List.map_cons, List.sum_cons]
    rw [e]
    split at hx
    · rename_i hneg
      rw [if_pos hneg]
      have hx := Option.some.inj hx
      unfold szR at hx
      split at hx
      · omega
      · rw [if_neg (by omega)]
    · rename_i hneg
      rw [if_neg hneg]
      have hx := Option.some.inj hx
      unfold szR at hx
      split at hx
      · rw [ih n (i + 1) y (by omega) (by omega) (by omega) (by omega), hx]
        congr 1
        by_cases h2 : (sumBk f (a0.drop (i + 1)) : Int) ≤ l - (f a0[i] : Int)
        · rw [if_pos h2, if_pos (by omega)]; congr 1; omega
        · rw [if_neg h2, if_neg (by omega)]
      · subst hx; simp at hneg
theorem sz_slice {α : Type} (f : α → Nat) (a0 : List α) (g : α → Int → Option Int) (u : Nat → Int → Int → Option (Int ⊕ Int)) (k : Nat)
    (hg : ∀ x ∈ a0, ∀ l, 0 ≤ l → l ≤ 1048576 → ((g x l).bind fun y => if (decide (y < 0)) = true then some (-1) else some y) = some (szR (f x) l))
    (hu : ∀ n l i, u (n + 1) l i = if (decide (i < (a0.length : Int))) = true then (at? a0 i).bind fun x => (g x l).bind fun y => if (decide (y < 0)) = true then some (.inr (-1)) else u n y (IntKind.i64.wrap (i + 1)) else some (.inl l))
    (hk : a0.length < k) (hlen : (a0.length : Int) ≤ 9223372036854775807) (left : Int) (h0 : 0 ≤ left) (h1 : left ≤ 1048576) :
    (if (decide (IntKind.i64.wrap (left - (a0.length : Int)) < 0)) = true then some (-1) else (u k (IntKind.i64.wrap (left - (a0.length : Int))) 0).bind fun | .inl x => some x | .inr z => some z) = some (szR (bkS f a0) left) := by
  rw [w64 (by omega) (by omega)]
  by_cases h : (a0.length : Int) ≤ left
  · rw [if_neg (by simp; omega)]
    have := sz_loop f a0 g u hg hu (by omega) a0.length k 0 (left - a0.length) (by omega) hk (by omega) (by omega)
    rw [show ((0 : Nat) : Int) = 0 from rfl] at this
    rw [this]
    simp only [List.drop_zero, Option.bind_some]
    unfold szR bkS
    by_cases h2 : (sumBk f a0 : Int) ≤ left - a0.length
    · rw [if_pos h2, if_pos (by omega)]; simp only; congr 1; omega
    · rw [if_neg h2, if_neg (by omega)]
  · rw [if_pos (by simp; omega)]
    unfold szR bkS
    rw [if_neg (by omega)]
theorem to_loop {α : Type} (a0 : List α) (g : α → Option α) (u : Nat → List α → Int → Option (List α)) (hg : ∀ x ∈ a0, g x = some x)
    (hu : ∀ n out i, u (n + 1) out i = if (decide (i < (a0.length : Int))) = true then (at? a0 i).bind fun x => (g x).bind fun y => (at? out i).bind fun _ => u n (out.set i.toNat y) (IntKind.i64.wrap (i + 1)) else some out)
    (hl : a0.length ≤ 1048576) : ∀ (m n i : Nat) (out : List α), i + m = a0.length → m < n → out.length = a0.length → out.take i = a0.take i → u n out (i : Int) = some a0 := by
  intro m
  induction m with
  | zero =>
    intro n i out hi hn ho ht
    obtain ⟨n, rfl⟩ : ∃ j, n = j + 1 := ⟨n - 1, by omega⟩
    rw [hu, if_neg (lt_no (by omega))]
    rw [List.take_of_length_le (by omega), List.take_of_length_le (by omega)] at ht
    rw [ht]
  | succ m ih =>
    intro n i out hi hn ho ht
    obtain ⟨n, rfl⟩ : ∃ j, n = j + 1 := ⟨n - 1, by omega⟩
    have hil : i < a0.length := by omega
    rw [hu, if_pos (lt_yes hil), at_in hil, Option.bind_some, hg _ (List.getElem_mem hil), Option.bind_some, at_in (by omega), Option.bind_some, wS i (by omega), Int.toNat_natCast]
    refine ih n (i + 1) _ (by omega) (by omega) (by simp [ho]) ?_
    rw [List.take_add_one, List.take_add_one, List.take_set_of_le (by omega), ht]
    simp [ho, hil]
theorem to_slice {α : Type} (b : Nat) (hb : b ≤ 256) (z : α) (a0 : List α) (g : α → Option α) (u : Nat → List α → Int → Option (List α)) (k : Nat) (hg : ∀ x ∈ a0, g x = some x)
    (hu : ∀ n out i, u (n + 1) out i = if (decide (i < (a0.length : Int))) = true then (at? a0 i).bind fun x => (g x).bind fun y => (at? out i).bind fun _ => u n (out.set i.toNat y) (IntKind.i64.wrap (i + 1)) else some out)
    (hk : a0.length < k) (hl : a0.length ≤ 1048576) : ((mk? b (a0.length : Int)).bind fun n => (u k (List.replicate n z) 0).bind fun r => some r) = some a0 := by
  rw [mk_ok (by omega) hb, Option.bind_some]
  have := to_loop a0 g u hg hu hl a0.length k 0 (List.replicate a0.length z) (by omega) hk (by simp) (by simp)
  rw [show ((0 : Nat) : Int) = 0 from rfl] at this
  rw [this]; rfl
theorem eq_loop {α : Type} (a0 : List α) (g : α → α → Option Bool) (u : Nat → Int → Option (Unit ⊕ Bool)) (hg : ∀ x ∈ a0, g x x = some true)
    (hu : ∀ n i, u (n + 1) i = if (decide (i < (a0.length : Int))) = true then (at? a0 i).bind fun x => (at? a0 i).bind fun y => (g x y).bind fun b => if (!b) = true then some (.inr false) else u n (IntKind.i64.wrap (i + 1)) else some (.inl ()))
    (hl : (a0.length : Int) ≤ 9223372036854775807) : ∀ (m n i : Nat), i + m = a0.length → m < n → u n (i : Int) = some (.inl ()) := by
  intro m
  induction m with
  | zero =>
    intro n i hi hn
    obtain ⟨n, rfl⟩ : ∃ j, n = j + 1 := ⟨n - 1, by omega⟩
    rw [hu, if_neg (lt_no (by omega))]
  | succ m ih =>
    intro n i hi hn
    obtain ⟨n, rfl⟩ : ∃ j, n = j + 1 := ⟨n - 1, by omega⟩
    have hil : i < a0.length := by omega
    rw [hu, if_pos (lt_yes hil), at_in hil, Option.bind_some, Option.bind_some, hg _ (List.getElem_mem hil), Option.bind_some, if_neg (by simp), wS i (by omega)]
    exact ih n (i + 1) (by omega) (by omega)
theorem eq_slice {α : Type} (a0 : List α) (g : α → α → Option Bool) (u : Nat → Int → Option (Unit ⊕ Bool)) (k : Nat) (hg : ∀ x ∈ a0, g x x = some true)
    (hu : ∀ n i, u (n + 1) i = if (decide (i < (a0.length : Int))) = true then (at? a0 i).bind fun x => (at? a0 i).bind fun y => (g x y).bind fun b => if (!b) = true then some (.inr false) else u n (IntKind.i64.wrap (i + 1)) else some (.inl ()))
    (hk : a0.length < k) (hl : (a0.length : Int) ≤ 9223372036854775807) : (if (!decide ((a0.length : Int) = (a0.length : Int))) = true then some false else (u k 0).bind fun | .inl _ => some true | .inr z => some z) = some true := by
  rw [if_neg (by simp)]
  have := eq_loop a0 g u hg hu hl a0.length k 0 (by omega) hk
  rw [show ((0 : Nat) : Int) = 0 from rfl] at this
  rw [this]; rfl
end Go.Proofs.Ytopjlbifglacpaa
