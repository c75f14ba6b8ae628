/- SizeOf: it answers, by a number that is not greater than what the value holds, plus one. -/
import Derived.Test.YtmiboaogfjgkjaaPkC
import Derived.Test.YtmiboaogfjgkjaaLs
import Derived.Test.YtmiboaogfjgkjaaMd4
import Derived.Test.YtmiboaogfjgkjaaEq4
set_option linter.unusedSimpArgs false
set_option linter.unusedVariables false
namespace Go.Proofs.Ytmiboaogfjgkjaa
open Go.RowKit Am

theorem sum_take_succ {α : Type} (f : α → Nat) (xs : List α) (i : Nat) (h : i < xs.length) : sumBk f (xs.take (i + 1)) = sumBk f (xs.take i) + f xs[i] := by
  unfold sumBk
  rw [List.take_succ_eq_append_getElem h, List.map_append, List.sum_append]
  simp
theorem sum_take_le {α : Type} (f : α → Nat) (xs : List α) (i : Nat) : sumBk f (xs.take i) ≤ sumBk f xs := by
  have h : sumBk f xs = sumBk f (xs.take i) + sumBk f (xs.drop i) := by
    unfold sumBk
    conv => lhs; rw [← List.take_append_drop i xs]
    rw [List.map_append, List.sum_append]
  omega
theorem sum_le {α : Type} {f g : α → Nat} : ∀ {xs : List α}, (∀ x ∈ xs, f x ≤ g x) → sumBk f xs ≤ sumBk g xs
  | [], _ => Nat.le_refl _
  | x :: xs, h => by
    have h1 := h x (by simp)
    have h2 := sum_le (f := f) (g := g) (xs := xs) fun y hy => h y (by simp [hy])
    simp only [sumBk, List.map_cons, List.sum_cons] at h2 ⊢
    omega
theorem sum_one {α : Type} {f : α → Nat} (xs : List α) : sumBk (fun x => f x + 1) xs = sumBk f xs + xs.length := by
  induction xs with
  | nil => rfl
  | cons x xs ih => simp only [sumBk, List.map_cons, List.sum_cons, List.length_cons] at ih ⊢; omega
theorem TRow.bk_two (r : TRow) : r.cells.length + r.from_.length ≤ r.bk := by
  rw [TRow.bk_eq]
  have h1 := bkS_len (f := fun _ : Int => 0) (xs := r.cells)
  have h2 := bkS_len (f := fun _ : TOrigin => 0) (xs := r.from_)
  omega
def rowN (r : TRow) : Nat := r.cells.length + r.from_.length
theorem SizeOf_ok : ∀ v : TValue, v.bk ≤ 1073741824 → ∃ n : Nat, n ≤ v.bk + 1 ∧ Ev fun k => s_SizeOf k v = some (n : Int) := by
  refine TValue.ind fun v ih hb => ?_
  have e := v.bk_eq
  have l1 := bkS_len (f := TValue.bk) (xs := v.list)
  have l2 := bkS_len (f := ByteArray.size) (xs := v.columns)
  have l3 := bkS_len (f := TRow.bk) (xs := v.rows)
  obtain ⟨f, hf⟩ := choose_mem (p := fun y n => n ≤ y.bk + 1 ∧ Ev fun k => s_SizeOf k y = some ((n : Nat) : Int)) v.list fun y hy => ih y hy (by have := bkS_get (f := TValue.bk) hy; omega)
  have hs : sumBk f v.list ≤ bkS TValue.bk v.list := by
    have := sum_le (f := f) (g := fun y => y.bk + 1) (xs := v.list) fun y hy => (hf y hy).1
    rw [sum_one] at this
    unfold bkS; omega
  have hr : sumBk rowN v.rows ≤ bkS TRow.bk v.rows := by
    have := sum_le (f := rowN) (g := TRow.bk) (xs := v.rows) fun y _ => y.bk_two
    unfold bkS; omega
  refine ⟨1 + v.text.size + v.columns.length + sumBk f v.list + sumBk rowN v.rows, by omega, ?_⟩
  refine ((Ev.all v.list fun y hy => (hf y hy).2).and (Ev.ge (v.list.length + v.rows.length + 2))).pred ?_
  rintro k ⟨hx, hk⟩
  rw [s_SizeOf, w64 (n := 1 + (v.text.size : Int)) (by omega) (by omega), w64 (by omega) (by omega)]
  have u1 : s_SizeOf_u1 (s_SizeOf k) v k (1 + (v.text.size : Int) + (v.columns.length : Int)) 0 = some (((1 + v.text.size + v.columns.length + sumBk f v.list : Nat)) : Int) := by
    have := loopE (fun n (s : Nat) i => s_SizeOf_u1 (s_SizeOf k) v n (s : Int) i) (fun i => 1 + v.text.size + v.columns.length + sumBk f (v.list.take i)) (some ((1 + v.text.size + v.columns.length + sumBk f v.list : Nat) : Int)) v.list.length
      (fun n i hi => by
        have h1 := sum_take_succ f v.list i hi
        have h2 := sum_take_le f v.list (i + 1)
        try simp only
        rw [s_SizeOf_u1, if_pos (lt_yes hi), at_in hi, Option.bind_some, hx _ (List.getElem_mem hi), Option.bind_some, wS i (by omega), w64 (by omega) (by omega), h1]
        congr 1; omega)
      (fun n => by
        try simp only
        rw [s_SizeOf_u1, if_neg (lt_no (Nat.le_refl _)), List.take_of_length_le (Nat.le_refl _)]) (k := k) (by omega)
    simp only [List.take_zero] at this
    rw [← this]; congr 1; try simp [sumBk]
  rw [u1, Option.bind_some]
  have u2 := loopE (fun n (s : Nat) i => s_SizeOf_u2 v n (s : Int) i) (fun i => 1 + v.text.size + v.columns.length + sumBk f v.list + sumBk rowN (v.rows.take i)) (some ((1 + v.text.size + v.columns.length + sumBk f v.list + sumBk rowN v.rows : Nat) : Int)) v.rows.length
      (fun n i hi => by
        have h1 := sum_take_succ rowN v.rows i hi
        have h2 := sum_take_le rowN v.rows (i + 1)
        have h3 : rowN v.rows[i] = v.rows[i].cells.length + v.rows[i].from_.length := rfl
        try simp only
        rw [s_SizeOf_u2, if_pos (lt_yes hi), at_in hi, Option.bind_some, wS i (by omega), w64 (n := ((1 + v.text.size + v.columns.length + sumBk f v.list + sumBk rowN (v.rows.take i) : Nat) : Int) + (v.rows[i].cells.length : Int)) (by omega) (by omega), w64 (by omega) (by omega), h1]
        congr 1; omega)
      (fun n => by
        try simp only
        rw [s_SizeOf_u2, if_neg (lt_no (Nat.le_refl _)), List.take_of_length_le (Nat.le_refl _)]) (k := k) (by omega)
  simp only [List.take_zero] at u2
  have e0 : sumBk rowN ([] : List TRow) = 0 := rfl
  rw [e0, Nat.add_zero] at u2
  rw [u2]; rfl
end Go.Proofs.Ytmiboaogfjgkjaa
