/- BarsOf: the program's answer is the reference's. -/
import Derived.Test.YtbknilpmpjjfpaaVvL
import Derived.Test.YtbknilpmpjjfpaaMd2
import Derived.Test.YtbknilpmpjjfpaaMd3
import Derived.Test.YtbknilpmpjjfpaaMd4
set_option linter.unusedSimpArgs false
set_option linter.unusedVariables false
namespace Go.Proofs.Ytbknilpmpjjfpaa
open Go.RowKit Am
theorem mapI_loop {α β : Type} (b : Nat) (hb : b ≤ 16384) (xs : List α) (m : Int → α → β) (G : Int → α → Option β) (u : Nat → List β → Int → Option (List β)) (hG : ∀ (j : Nat) (h : j < xs.length), G (j : Int) xs[j] = some (m (j : Int) xs[j]))
    (hu : ∀ n out i, u (n + 1) out i = if (decide (i < (xs.length : Int))) = true then (at? xs i).bind fun x => (G i x).bind fun y => (app? b out [y]).bind fun z => u n z (IntKind.i64.wrap (i + 1)) else some out)
    (hl : xs.length ≤ 1073741824) {k : Nat} (hk : xs.length < k) : u k [] 0 = some (xs.mapIdx fun j x => m (j : Int) x) := by
  have := loopE (fun n (s : List β) i => u n s i) (fun i => (xs.mapIdx fun j x => m (j : Int) x).take i) (some (xs.mapIdx fun j x => m (j : Int) x)) xs.length
    (fun n i hi => by
      have hi' : i < (xs.mapIdx fun j x => m (j : Int) x).length := by simpa using hi
      try simp only
      rw [hu, if_pos (lt_yes hi), at_in hi, Option.bind_some, hG i hi, Option.bind_some, app_big (by simp; omega) hb, Option.bind_some, wS i (by omega), List.take_succ_eq_append_getElem hi']
      simp)
    (fun n => by rw [hu, if_neg (lt_no (Nat.le_refl _)), List.take_of_length_le (by simp)]) hk
  simpa using this
def loOf (xs : List Int) (z : Int) : Int := xs.foldl (fun a x => if x < a then x else a) z
def hiOf (xs : List Int) (z : Int) : Int := xs.foldl (fun a x => if x > a then x else a) z
theorem lo_bd (B : Int) : ∀ (xs : List Int) (z : Int), -B ≤ z → z ≤ B → (∀ x ∈ xs, -B ≤ x ∧ x ≤ B) → -B ≤ loOf xs z ∧ loOf xs z ≤ B
  | [], z, h0, h1, _ => ⟨h0, h1⟩
  | x :: xs, z, h0, h1, h => by
    have hx := h x (by simp)
    have := lo_bd B xs (if x < z then x else z) (by split <;> omega) (by split <;> omega) fun y hy => h y (by simp [hy])
    simpa [loOf] using this
theorem hi_bd (B : Int) : ∀ (xs : List Int) (z : Int), -B ≤ z → z ≤ B → (∀ x ∈ xs, -B ≤ x ∧ x ≤ B) → -B ≤ hiOf xs z ∧ hiOf xs z ≤ B
  | [], z, h0, h1, _ => ⟨h0, h1⟩
  | x :: xs, z, h0, h1, h => by
    have hx := h x (by simp)
    have := hi_bd B xs (if x > z then x else z) (by split <;> omega) (by split <;> omega) fun y hy => h y (by simp [hy])
    simpa [hiOf] using this
theorem s_min (a b : Int) : s_l1Min a b = some (if b < a then b else a) := by
  unfold s_l1Min
  by_cases h : a < b
  · rw [if_pos (by simpa using h), if_neg (by omega)]
  · rw [if_neg (by simpa using h)]
    split <;> first | rfl | (congr 1; omega)
theorem isNum_bd {n : Int} (h : isNum n = true) : -1000000000 ≤ n ∧ n ≤ 1000000000 := by simpa [isNum] using h
def partV (a b c d : Int) : Int := if c = 0 then d else IntKind.i64.wrap ((IntKind.i64.wrap (a * b)).tdiv c)
theorem i_part_eq (a b c d : Int) : i_part a b c d = some (partV a b c d) := by
  unfold i_part partV nz?
  by_cases h : c = 0 <;> simp [h]
theorem s_top_eq (x lo hi h : Int) (h1 : -1000000000 ≤ lo ∧ lo ≤ 1000000000) (h2 : -1000000000 ≤ hi ∧ hi ≤ 1000000000) : s_l34Top x lo hi h = some (partV (IntKind.i64.wrap (hi - x)) h (IntKind.i64.wrap (hi - lo)) h) := by
  unfold s_l34Top partV nz?
  have e : IntKind.i64.wrap (hi - lo) = hi - lo := w64 (by omega) (by omega)
  rw [e]
  by_cases hh : hi = lo
  · rw [if_pos (by simpa using hh), if_pos (by omega)]
  · rw [if_neg (by simpa using hh), if_neg (show ¬ hi - lo = 0 by omega)]
    simp only [show hi - lo ≠ 0 by omega, ne_eq, not_false_eq_true, if_true, Option.bind_some]
def numsOf (v : TValue) : List Int := v.list.map (·.n)
theorem s_numbers (v : TValue) (hl : v.list.length ≤ 1048576) {k : Nat} (hk : 1048700 < k) :
    ((∀ x ∈ v.list, x.kind = 1) → s_l7Numbers k v = some (numsOf v, decide (v.kind = 3))) ∧ ((¬ ∀ x ∈ v.list, x.kind = 1) → ∃ p, s_l7Numbers k v = some (p, false)) := by
  have step : ∀ (j : Nat) (_ : j < v.list.length), v.list[j].kind = 1 → ∀ n, s_l7Numbers_u1 v (n + 1) ((v.list.take j).map (·.n)) (j : Int) = s_l7Numbers_u1 v n ((v.list.take (j + 1)).map (·.n)) ((j + 1 : Nat) : Int) := fun j h hk n => by
    rw [s_l7Numbers_u1, if_pos (lt_yes h), at_in h, Option.bind_some, if_neg (by simp [hk]), app_big (by simp; omega) (by omega), Option.bind_some, wS j (by omega), List.take_succ_eq_append_getElem h, List.map_append]
    rfl
  constructor
  · intro ha
    have := loopE (fun n (s : List Int) i => s_l7Numbers_u1 v n s i) (fun i => (v.list.take i).map (·.n)) (some (.inl (numsOf v))) v.list.length
      (fun n i hi => step i hi (ha _ (List.getElem_mem hi)) n)
      (fun n => by
        try simp only
        rw [s_l7Numbers_u1, if_neg (lt_no (Nat.le_refl _)), List.take_length]; rfl) (k := k) (by omega)
    simp only [List.take_zero, List.map_nil] at this
    unfold s_l7Numbers
    rw [this]; rfl
  · intro hn
    have hlt : v.list.findIdx (fun x => !decide (x.kind = 1)) < v.list.length := List.findIdx_lt_length_of_exists (by
      obtain ⟨x, hx⟩ := Classical.not_forall.1 hn
      obtain ⟨h1, h2⟩ := Classical.not_imp.1 hx
      exact ⟨x, h1, by simpa using h2⟩)
    have hj := List.findIdx_getElem (xs := v.list) (p := fun x => !decide (x.kind = 1)) (w := hlt)
    have := loopE (fun n (s : List Int) i => s_l7Numbers_u1 v n s i) (fun i => (v.list.take i).map (·.n)) (some (.inr ((v.list.take (v.list.findIdx fun x => !decide (x.kind = 1))).map (·.n), false))) (v.list.findIdx fun x => !decide (x.kind = 1))
      (fun n i hi => step i (by omega) (by have := List.not_of_lt_findIdx hi; simpa using this) n)
      (fun n => by
        try simp only
        rw [s_l7Numbers_u1, if_pos (lt_yes hlt), at_in hlt, Option.bind_some, if_pos hj]) (k := k) (by omega)
    simp only [List.take_zero, List.map_nil] at this
    unfold s_l7Numbers
    rw [this]
    exact ⟨_, rfl⟩
def barV (w h n lo hi : Int) (i x : Int) : TMark :=
  let t := partV (IntKind.i64.wrap (hi - x)) h (IntKind.i64.wrap (hi - lo)) h
  let z := partV hi h (IntKind.i64.wrap (hi - lo)) h
  ⟨IntKind.i64.wrap ((IntKind.i64.wrap (i * w)).tdiv n), if z < t then z else t, IntKind.i64.wrap (IntKind.i64.wrap ((IntKind.i64.wrap (IntKind.i64.wrap (i + 1) * w)).tdiv n) - IntKind.i64.wrap ((IntKind.i64.wrap (i * w)).tdiv n)), IntKind.i64.wrap ((if z > t then z else t) - (if z < t then z else t))⟩
def barsV (v : TValue) (w h : Int) : List TMark := (numsOf v).mapIdx fun j x => barV w h v.list.length (loOf (numsOf v) 0) (hiOf (numsOf v) 0) (j : Int) x
def canvas (w h : Int) : Bool := (decide (1 ≤ w) && decide (w ≤ 1000)) && (decide (1 ≤ h) && decide (h ≤ 1000))
theorem s_bars (v : TValue) (w h : Int) (hl : v.list.length ≤ 1048576) (h0 : v.list.length ≠ 0) (hn : ∀ x ∈ numsOf v, -1000000000 ≤ x ∧ x ≤ 1000000000) {k : Nat} (hk : 1048700 < k) (b : Bool) :
    (s_BarsOf_u1 (numsOf v, b) k 0 0 0).bind (fun x => (s_BarsOf_u2 w (numsOf v, b) h x.1 x.2 k [] 0).bind fun x14 => some ((TScene.mk w h x14), true)) = some (⟨w, h, barsV v w h⟩, true) := by
  have hln : (numsOf v).length = v.list.length := by simp [numsOf]
  have e1 := fold_loop (numsOf v) (fun (s : Int × Int) x => (if x < s.1 then x else s.1, if x > s.2 then x else s.2)) (fun s x => (s_l1Min s.1 x).bind fun a => (s_l1Max s.2 x).bind fun b => some (a, b)) (0, 0) (fun n s i => s_BarsOf_u1 (numsOf v, b) n s.1 s.2 i)
    (fun s x hx => by rw [s_min, Option.bind_some, s_max, Option.bind_some]) (fun n s i => by
      try simp only
      rw [s_BarsOf_u1]; simp only [Option.bind_assoc, Option.bind_some]) (by omega) (k := k) (by omega)
  have e2 : (numsOf v).foldl (fun (s : Int × Int) x => (if x < s.1 then x else s.1, if x > s.2 then x else s.2)) (0, 0) = (loOf (numsOf v) 0, hiOf (numsOf v) 0) := by
    have : ∀ (xs : List Int) (a c : Int), xs.foldl (fun (s : Int × Int) x => (if x < s.1 then x else s.1, if x > s.2 then x else s.2)) (a, c) = (loOf xs a, hiOf xs c) := by
      intro xs
      induction xs with
      | nil => intro a c; rfl
      | cons x xs ih => intro a c; simp only [List.foldl_cons, ih, loOf, hiOf]
    exact this _ 0 0
  rw [e2] at e1
  simp only at e1
  have hlo := lo_bd 1000000000 (numsOf v) 0 (by omega) (by omega) hn
  have hhi := hi_bd 1000000000 (numsOf v) 0 (by omega) (by omega) hn
  rw [e1, Option.bind_some]
  have hnz : nz? ((numsOf v).length : Int) = some () := by unfold nz?; rw [if_pos (by omega)]
  have e3 := mapI_loop 32 (by omega) (numsOf v) (barV w h v.list.length (loOf (numsOf v) 0) (hiOf (numsOf v) 0)) (fun i x17 => (s_l34Top x17 (loOf (numsOf v) 0) (hiOf (numsOf v) 0) h).bind fun x18 =>
      (s_l34Top 0 (loOf (numsOf v) 0) (hiOf (numsOf v) 0) h).bind fun x19 =>
      (nz? ((numsOf v).length : Int)).bind fun x20 =>
      (s_l1Min x18 x19).bind fun x21 =>
      (nz? ((numsOf v).length : Int)).bind fun x22 =>
      (s_l1Max x18 x19).bind fun x23 =>
      (s_l1Min x18 x19).bind fun x24 => some (TMark.mk (IntKind.i64.wrap ((IntKind.i64.wrap (i * w)).tdiv ((numsOf v).length : Int))) x21 (IntKind.i64.wrap ((IntKind.i64.wrap ((IntKind.i64.wrap ((IntKind.i64.wrap (i + 1)) * w)).tdiv ((numsOf v).length : Int))) - (IntKind.i64.wrap ((IntKind.i64.wrap (i * w)).tdiv ((numsOf v).length : Int))))) (IntKind.i64.wrap (x23 - x24))))
    (s_BarsOf_u2 w (numsOf v, b) h (loOf (numsOf v) 0) (hiOf (numsOf v) 0))
    (fun j hj => by
      rw [s_top_eq _ _ _ _ hlo hhi, Option.bind_some, s_top_eq _ _ _ _ hlo hhi, Option.bind_some, hnz, Option.bind_some, s_min, Option.bind_some, Option.bind_some, s_max, Option.bind_some, Option.bind_some, hln]
      have ez : IntKind.i64.wrap (hiOf (numsOf v) 0 - 0) = hiOf (numsOf v) 0 := by rw [w64 (by omega) (by omega)]; omega
      rw [ez]
      rfl)
    (fun n out i => by rw [s_BarsOf_u2]; simp only [Option.bind_assoc, Option.bind_some]) (by omega) (k := k) (by omega)
  simp only at e3 ⊢
  rw [e3]
  rfl
theorem i_bars (v : TValue) (w h : Int) (hl : v.list.length ≤ 1048576) (h0 : v.list.length ≠ 0) (hn : ∀ x ∈ numsOf v, -1000000000 ≤ x ∧ x ≤ 1000000000) {k : Nat} (hk : 1048700 < k) :
    (i_part (hiOf (numsOf v) 0) h (IntKind.i64.wrap (hiOf (numsOf v) 0 - loOf (numsOf v) 0)) h).bind (fun x10 => (i_BarsOf_u2 v w h (hiOf (numsOf v) 0) (loOf (numsOf v) 0) x10 k [] 0).bind fun x11 => some ((TScene.mk w h x11), true)) = some (⟨w, h, barsV v w h⟩, true) := by
  rw [i_part_eq, Option.bind_some]
  have hnz : nz? (v.list.length : Int) = some () := by unfold nz?; rw [if_pos (by omega)]
  have e3 := mapI_loop 32 (by omega) v.list (fun i (x : TValue) => barV w h v.list.length (loOf (numsOf v) 0) (hiOf (numsOf v) 0) i x.n) (fun i x14 => (i_part (IntKind.i64.wrap (hiOf (numsOf v) 0 - x14.n)) h (IntKind.i64.wrap (hiOf (numsOf v) 0 - loOf (numsOf v) 0)) h).bind fun x15 =>
      (nz? (v.list.length : Int)).bind fun x16 =>
      (nz? (v.list.length : Int)).bind fun x17 => some (TMark.mk (IntKind.i64.wrap ((IntKind.i64.wrap (i * w)).tdiv (v.list.length : Int))) (if partV (hiOf (numsOf v) 0) h (IntKind.i64.wrap (hiOf (numsOf v) 0 - loOf (numsOf v) 0)) h < x15 then partV (hiOf (numsOf v) 0) h (IntKind.i64.wrap (hiOf (numsOf v) 0 - loOf (numsOf v) 0)) h else x15) (IntKind.i64.wrap ((IntKind.i64.wrap ((IntKind.i64.wrap ((IntKind.i64.wrap (i + 1)) * w)).tdiv (v.list.length : Int))) - (IntKind.i64.wrap ((IntKind.i64.wrap (i * w)).tdiv (v.list.length : Int))))) (IntKind.i64.wrap ((if partV (hiOf (numsOf v) 0) h (IntKind.i64.wrap (hiOf (numsOf v) 0 - loOf (numsOf v) 0)) h > x15 then partV (hiOf (numsOf v) 0) h (IntKind.i64.wrap (hiOf (numsOf v) 0 - loOf (numsOf v) 0)) h else x15) - (if partV (hiOf (numsOf v) 0) h (IntKind.i64.wrap (hiOf (numsOf v) 0 - loOf (numsOf v) 0)) h < x15 then partV (hiOf (numsOf v) 0) h (IntKind.i64.wrap (hiOf (numsOf v) 0 - loOf (numsOf v) 0)) h else x15)))))
    (i_BarsOf_u2 v w h (hiOf (numsOf v) 0) (loOf (numsOf v) 0) (partV (hiOf (numsOf v) 0) h (IntKind.i64.wrap (hiOf (numsOf v) 0 - loOf (numsOf v) 0)) h))
    (fun j hj => by
      rw [i_part_eq, Option.bind_some, hnz, Option.bind_some, Option.bind_some]
      rfl)
    (fun n out i => by rw [i_BarsOf_u2]; simp only [Option.bind_assoc, Option.bind_some]) (by omega) (k := k) (by omega)
  rw [e3, Option.bind_some]
  have : (v.list.mapIdx fun j (x : TValue) => barV w h v.list.length (loOf (numsOf v) 0) (hiOf (numsOf v) 0) (j : Int) x.n) = barsV v w h := by
    apply List.ext_getElem
    · simp [barsV, numsOf]
    · intro i h1 h2
      simp [barsV, numsOf]
  rw [this]
theorem i_ends (v : TValue) (hl : v.list.length ≤ 1048576) {k : Nat} (hk : 1048700 < k) :
    ((∀ x ∈ v.list, x.kind = 1) → i_BarsOf_u1 v k 0 0 0 = some (.inl (hiOf (numsOf v) 0, loOf (numsOf v) 0))) ∧ ((¬ ∀ x ∈ v.list, x.kind = 1) → i_BarsOf_u1 v k 0 0 0 = some (.inr ((TScene.mk 0 0 []), false))) := by
  let S : Nat → Int × Int := fun j => (hiOf ((v.list.take j).map (·.n)) 0, loOf ((v.list.take j).map (·.n)) 0)
  have step : ∀ (j : Nat) (_ : j < v.list.length), v.list[j].kind = 1 → ∀ n, i_BarsOf_u1 v (n + 1) (S j).1 (S j).2 (j : Int) = i_BarsOf_u1 v n (S (j + 1)).1 (S (j + 1)).2 ((j + 1 : Nat) : Int) := fun j h hk n => by
    rw [i_BarsOf_u1, if_pos (lt_yes h), at_in h, Option.bind_some, if_neg (by simp [hk]), wS j (by omega)]
    have e : v.list.take (j + 1) = v.list.take j ++ [v.list[j]] := List.take_succ_eq_append_getElem h
    simp only [S, e, List.map_append, hiOf, loOf, List.foldl_append]
    rfl
  constructor
  · intro ha
    have := loopE (fun n (s : Int × Int) i => i_BarsOf_u1 v n s.1 s.2 i) S (some (.inl (hiOf (numsOf v) 0, loOf (numsOf v) 0))) v.list.length
      (fun n i hi => step i hi (ha _ (List.getElem_mem hi)) n)
      (fun n => by
        try simp only
        rw [i_BarsOf_u1, if_neg (lt_no (Nat.le_refl _))]
        simp only [S, List.take_length]; rfl) (k := k) (by omega)
    exact this
  · intro hn
    have hlt : v.list.findIdx (fun x => !decide (x.kind = 1)) < v.list.length := List.findIdx_lt_length_of_exists (by
      obtain ⟨x, hx⟩ := Classical.not_forall.1 hn
      obtain ⟨h1, h2⟩ := Classical.not_imp.1 hx
      exact ⟨x, h1, by simpa using h2⟩)
    have hj := List.findIdx_getElem (xs := v.list) (p := fun x => !decide (x.kind = 1)) (w := hlt)
    exact loopE (fun n (s : Int × Int) i => i_BarsOf_u1 v n s.1 s.2 i) S (some (.inr ((TScene.mk 0 0 []), false))) (v.list.findIdx fun x => !decide (x.kind = 1))
      (fun n i hi => step i (by omega) (by have := List.not_of_lt_findIdx hi; simpa using this) n)
      (fun n => by
        try simp only
        rw [i_BarsOf_u1, if_pos (lt_yes hlt), at_in hlt, Option.bind_some, if_pos hj]) (k := k) (by omega)
theorem i_canvas (w h : Int) : i_isCanvas w h = some (canvas w h) := by
  unfold i_isCanvas canvas
  simp only [within_eq, Option.bind_some]
  cases (decide (1 ≤ w) && decide (w ≤ 1000)) <;> simp
theorem BarsOf_agreeV (v : TValue) (w h : Int) (hb : v.bk ≤ 1048576) : ∃ r : TScene × Bool, ((r = (⟨w, h, barsV v w h⟩, true) ∧ v.list.length ≠ 0 ∧ (∀ x ∈ numsOf v, -1000000000 ≤ x ∧ x ≤ 1000000000) ∧ canvas w h = true) ∨ r = (⟨0, 0, []⟩, false)) ∧ Ev fun k => s_BarsOf k v w h = some r ∧ i_BarsOf k v w h = some r := by
  have hl := (TValue.small hb).list
  obtain ⟨b, hok, hev⟩ := valid_same v hb
  by_cases hv : v.kind = 3 ∧ (∀ x ∈ v.list, x.kind = 1) ∧ b = true ∧ v.list.length ≠ 0 ∧ canvas w h = true
  · obtain ⟨h3, ha, rfl, h0, hc⟩ := hv
    have hn : ∀ x ∈ numsOf v, -1000000000 ≤ x ∧ x ≤ 1000000000 := fun x hx => by
      obtain ⟨y, hy, rfl⟩ := List.mem_map.1 hx
      exact isNum_bd ((hok rfl).els h3 y hy (ha y hy))
    refine ⟨(⟨w, h, barsV v w h⟩, true), .inl ⟨rfl, h0, hn, hc⟩, (hev.and (Ev.ge 1048701)).mono fun k ⟨⟨e1, e2⟩, hk⟩ => ⟨?_, ?_⟩⟩
    · unfold s_BarsOf
      rw [(s_numbers v hl (k := k) (by omega)).1 ha]
      have hz : decide (((numsOf v).length : Int) = 0) = false := by simp [numsOf]; intro e; exact h0 (by simp [e])
      have hc' : (decide (1 ≤ w) && decide (w ≤ 1000)) = true ∧ (decide (1 ≤ h) && decide (h ≤ 1000)) = true := by simpa [canvas] using hc
      simp only [Option.bind_some, e1, l1In_eq, hz, h3, hc'.1, hc'.2]
      exact s_bars v w h hl h0 hn (by omega) _
    · unfold i_BarsOf
      have hz : decide ((v.list.length : Int) = 0) = false := by simp; intro e; exact h0 (by simp [e])
      simp only [Option.bind_some, e2, i_canvas, hz, h3, hc]
      rw [(i_ends v hl (k := k) (by omega)).1 ha]
      exact i_bars v w h hl h0 hn (by omega)
  · refine ⟨(⟨0, 0, []⟩, false), .inr rfl, (hev.and (Ev.ge 1048701)).mono fun k ⟨⟨e1, e2⟩, hk⟩ => ⟨?_, ?_⟩⟩
    · unfold s_BarsOf
      by_cases ha : ∀ x ∈ v.list, x.kind = 1
      · rw [(s_numbers v hl (k := k) (by omega)).1 ha]
        simp only [Option.bind_some, e1, l1In_eq]
        have hln : (numsOf v).length = v.list.length := by simp [numsOf]
        rw [hln]
        by_cases h3 : v.kind = 3
        · by_cases h0 : v.list.length = 0
          · simp [h3, h0]
          · have hz : decide ((v.list.length : Int) = 0) = false := by simp; intro e; exact h0 (by simp [e])
            have hcb : ¬ (b = true ∧ canvas w h = true) := fun hh => hv ⟨h3, ha, hh.1, h0, hh.2⟩
            simp only [h3, hz]
            unfold canvas at hcb
            revert hcb
            cases b <;> cases (decide (1 ≤ w) && decide (w ≤ 1000)) <;> cases (decide (1 ≤ h) && decide (h ≤ 1000)) <;> simp
        · simp [h3]
      · obtain ⟨p, hp⟩ := (s_numbers v hl (k := k) (by omega)).2 ha
        rw [hp]; simp
    · unfold i_BarsOf
      simp only [Option.bind_some, e2, i_canvas]
      by_cases h3 : v.kind = 3
      · by_cases h0 : v.list.length = 0
        · simp [h3, h0]
        · have hz : decide ((v.list.length : Int) = 0) = false := by simp; intro e; exact h0 (by simp [e])
          simp only [h3, hz]
          by_cases ha : ∀ x ∈ v.list, x.kind = 1
          · have hcb : ¬ (b = true ∧ canvas w h = true) := fun hh => hv ⟨h3, ha, hh.1, h0, hh.2⟩
            revert hcb
            cases b <;> cases canvas w h <;> simp
          · rw [(i_ends v hl (k := k) (by omega)).2 ha]
            cases b <;> cases canvas w h <;> simp
      · simp [h3]
end Go.Proofs.Ytbknilpmpjjfpaa
