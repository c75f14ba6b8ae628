/- FormatView: the program's answer is the reference's. -/
import Derived.Test.YtmiboaogfjgkjaaDoorItL
import Derived.Test.YtmiboaogfjgkjaaDoorLs
import Derived.Test.YtmiboaogfjgkjaaDoorMd0
set_option linter.unusedSimpArgs false
set_option linter.unusedVariables false
namespace Go.Proofs.YtmiboaogfjgkjaaDoor
open Go.RowKit Am
def addLine (a : ByteArray) (x : TLine) : ByteArray := a ++ (toB (Lib.itoa x.cell) ++ (toB (if x.fresh = true then [58, 32] else [63, 32]) ++ (x.text ++ toB [10])))
def I64c (n : Int) : Prop := -9223372036854775808 ≤ n ∧ n ≤ 9223372036854775807
theorem addLine_size (a : ByteArray) (x : TLine) (h : I64c x.cell) : (addLine a x).size ≤ a.size + (24 + x.text.size) := by
  have hl := Lib.itoa_length_le x.cell h.1 h.2
  unfold addLine
  simp only [ByteArray.size_append, toB_size]
  have : (if x.fresh = true then [58, 32] else [63, 32] : List UInt8).length = 2 := by split <;> rfl
  rw [this]
  simp only [List.length_singleton]
  omega
theorem lines_size : ∀ (xs : List TLine) (a : ByteArray), (∀ x ∈ xs, I64c x.cell) → (xs.foldl addLine a).size ≤ a.size + (24 * xs.length + sumBk (fun x : TLine => x.text.size) xs)
  | [], a, _ => by simp [sumBk]
  | x :: xs, a, h => by
    have h1 := lines_size xs (addLine a x) fun y hy => h y (List.mem_cons_of_mem _ hy)
    have h2 := addLine_size a x (h x (List.mem_cons_self ..))
    simp only [List.foldl_cons, List.length_cons, sumBk, List.map_cons, List.sum_cons] at h1 ⊢
    omega
theorem sum_take {α : Type} (f : α → Nat) (xs : List α) (i : Nat) : sumBk f (xs.take i) ≤ sumBk f xs := by
  have : sumBk f xs = sumBk f (xs.take i) + sumBk f (xs.drop i) := by
    unfold sumBk
    rw [← List.sum_append, ← List.map_append, List.take_append_drop]
  omega
theorem FormatView_agree (xs : List TLine) (h : DOk (.sl (xs.map TLine.c))) (hb : bkS TLine.bk xs ≤ 1048576) : ∃ v, Ev fun k => s_FormatView k xs = some v ∧ i_FormatView k xs = some v := by
  have hl := bkS_len (f := TLine.bk) (xs := xs)
  have hc : ∀ x ∈ xs, I64c x.cell := fun x hx => by
    have := (DOk_sl h).2 x hx
    rw [TLine.c_eq] at this
    simp only [DOkL] at this
    exact DOk_int this.1
  have es : sumBk (fun x : TLine => x.text.size) xs ≤ 1048576 := by
    have : (fun x : TLine => x.text.size) = TLine.bk := by funext x; rw [TLine.bk_eq]; rfl
    rw [this]
    unfold bkS at hb
    omega
  have bd : ∀ i, ((xs.take i).foldl addLine (toB [])).size ≤ 30000000 := fun i => by
    have h1 := lines_size (xs.take i) (toB []) fun x hx => hc x (List.mem_of_mem_take hx)
    have h2 := sum_take (fun x : TLine => x.text.size) xs i
    have h3 : (xs.take i).length ≤ xs.length := by simp; omega
    rw [toB_size] at h1
    simp only [List.length_nil] at h1
    omega
  have st : ∀ (x : TLine), x ∈ xs → ∀ a : ByteArray, a.size ≤ 30000000 → I64c x.cell ∧ x.text.size ≤ 1048576 ∧ (Lib.itoa x.cell).length ≤ 21 := fun x hx a _ => by
    have := bkS_get (f := TLine.bk) hx
    rw [TLine.bk_eq] at this
    exact ⟨hc x hx, by omega, Lib.itoa_length_le x.cell (hc x hx).1 (hc x hx).2⟩
  refine ⟨xs.foldl addLine (toB []), (Ev.ge (xs.length + 200)).mono fun k hk => ⟨?_, ?_⟩⟩
  · have key := loopE (fun n (s : ByteArray) i => s_FormatView_u1 k xs n s i) (fun i => (xs.take i).foldl addLine (toB [])) (some (xs.foldl addLine (toB []))) xs.length
      (fun n i hi => by
        have hm := List.getElem_mem hi
        obtain ⟨g1, g2, g3⟩ := st _ hm _ (bd i)
        have hs := bd i
        have e : (if (!xs[i].fresh) = true then some (⟨#[63, 32]⟩ : ByteArray) else some (⟨#[58, 32]⟩ : ByteArray)) = some (toB (if xs[i].fresh = true then [58, 32] else [63, 32])) := by cases xs[i].fresh <;> rfl
        have el : (if xs[i].fresh = true then [58, 32] else [63, 32] : List UInt8).length = 2 := by split <;> rfl
        try simp only
        rw [s_FormatView_u1, if_pos (lt_yes hi), at_in hi, Option.bind_some, e, Option.bind_some, Option.bind_some, s_int _ g1.1 g1.2 (by omega), Option.bind_some]
        rw [cat_ok (by rw [toB_size]; omega), Option.bind_some, cat_ok (by rw [ByteArray.size_append, toB_size, toB_size, el]; omega), Option.bind_some, cat_ok (by rw [ByteArray.size_append, ByteArray.size_append, toB_size, toB_size, el]; omega), Option.bind_some]
        rw [show (⟨#[10]⟩ : ByteArray) = toB [10] from rfl, cat_ok (by rw [ByteArray.size_append, ByteArray.size_append, ByteArray.size_append, toB_size, toB_size, toB_size, el]; simp; omega), Option.bind_some, wS i (by omega), List.take_succ_eq_append_getElem hi, List.foldl_append]
        simp only [List.foldl_cons, List.foldl_nil, addLine, ByteArray.append_assoc])
      (fun n => by
        try simp only
        rw [s_FormatView_u1, if_neg (lt_no (Nat.le_refl _)), List.take_length]) (k := k) (by omega)
    unfold s_FormatView
    simp only [List.take_zero, List.foldl_nil] at key
    rw [show (⟨#[]⟩ : ByteArray) = toB [] from rfl, key]; rfl
  · have key := loopE (fun n (s : ByteArray) i => i_FormatView_u1 xs n s i) (fun i => (xs.take i).foldl addLine (toB [])) (some (xs.foldl addLine (toB []))) xs.length
      (fun n i hi => by
        have hm := List.getElem_mem hi
        obtain ⟨g1, g2, g3⟩ := st _ hm _ (bd i)
        have hs := bd i
        have e : (if (!xs[i].fresh) = true then some (⟨#[63]⟩ : ByteArray) else some (⟨#[58]⟩ : ByteArray)) = some (toB (if xs[i].fresh = true then [58] else [63])) := by cases xs[i].fresh <;> rfl
        have el : (if xs[i].fresh = true then [58] else [63] : List UInt8).length = 1 := by split <;> rfl
        have ej : toB (if xs[i].fresh = true then [58, 32] else [63, 32]) = toB (if xs[i].fresh = true then [58] else [63]) ++ toB [32] := by rw [toB_app]; cases xs[i].fresh <;> rfl
        try simp only
        rw [i_FormatView_u1, if_pos (lt_yes hi), at_in hi, Option.bind_some, e, Option.bind_some, i_int, Option.bind_some]
        rw [cat_ok (by rw [toB_size]; omega), Option.bind_some, cat_ok (by rw [ByteArray.size_append, toB_size, toB_size, el]; omega), Option.bind_some]
        rw [show (⟨#[32]⟩ : ByteArray) = toB [32] from rfl, show (⟨#[10]⟩ : ByteArray) = toB [10] from rfl]
        rw [cat_ok (by rw [ByteArray.size_append, ByteArray.size_append, toB_size, toB_size, toB_size, el]; simp; omega), Option.bind_some, cat_ok (by rw [ByteArray.size_append, ByteArray.size_append, ByteArray.size_append, toB_size, toB_size, toB_size, el]; simp; omega), Option.bind_some]
        rw [cat_ok (by rw [ByteArray.size_append, ByteArray.size_append, ByteArray.size_append, ByteArray.size_append, toB_size, toB_size, toB_size, toB_size, el]; simp; omega), Option.bind_some, wS i (by omega), List.take_succ_eq_append_getElem hi, List.foldl_append]
        simp only [List.foldl_cons, List.foldl_nil, addLine, ej, ByteArray.append_assoc])
      (fun n => by
        try simp only
        rw [i_FormatView_u1, if_neg (lt_no (Nat.le_refl _)), List.take_length]) (k := k) (by omega)
    unfold i_FormatView
    simp only [List.take_zero, List.foldl_nil] at key
    rw [show (⟨#[]⟩ : ByteArray) = toB [] from rfl, key]; rfl
end Go.Proofs.YtmiboaogfjgkjaaDoor
