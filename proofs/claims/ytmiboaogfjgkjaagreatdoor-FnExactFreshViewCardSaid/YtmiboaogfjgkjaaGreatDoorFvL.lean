/- FormatValue and CellLine: the program's text is the reference's. -/
import Derived.Test.YtmiboaogfjgkjaaGreatDoorVvL
import Derived.Test.YtmiboaogfjgkjaaGreatDoorItL
import Derived.Test.YtmiboaogfjgkjaaGreatDoorLm
import Derived.Lib.Join
import Derived.Test.YtmiboaogfjgkjaaGreatDoorMd1
import Derived.Test.YtmiboaogfjgkjaaGreatDoorMd2
import Derived.Test.YtmiboaogfjgkjaaGreatDoorMd3
set_option linter.unusedSimpArgs false
set_option linter.unusedVariables false
namespace Go.Proofs.YtmiboaogfjgkjaaGreatDoor
open Go.RowKit Am
theorem litB (l : List UInt8) : (ByteArray.mk l.toArray) = toB l := rfl
theorem sumBk_take {α : Type} (f : α → Nat) (xs : List α) (i : Nat) : sumBk f (xs.take i) ≤ sumBk f xs := by
  have : sumBk f xs = sumBk f (xs.take i) + sumBk f (xs.drop i) := by
    unfold sumBk
    rw [← List.sum_append, ← List.map_append, List.take_append_drop]
  omega
theorem sumBk_le {α : Type} (f : α → Nat) (B : Nat) : ∀ (xs : List α), (∀ x ∈ xs, f x ≤ B) → sumBk f xs ≤ B * xs.length
  | [], _ => by simp [sumBk]
  | x :: xs, h => by
    have h1 := sumBk_le f B xs fun y hy => h y (List.mem_cons_of_mem _ hy)
    have h2 := h x (List.mem_cons_self ..)
    simp only [sumBk, List.map_cons, List.sum_cons, List.length_cons] at h1 ⊢
    rw [Nat.mul_add]; omega
def sz (c : Nat) (xs : List ByteArray) : Nat := sumBk (fun x => x.size + c) xs
theorem joinTail_le (sep : List UInt8) : ∀ xs : List ByteArray, (Lib.joinTail sep (xs.map (·.data.toList))).length ≤ sz sep.length xs
  | [] => by simp [Lib.joinTail]
  | x :: xs => by
    have h := joinTail_le sep xs
    have e : x.data.toList.length = x.size := by rw [Array.length_toList]; rfl
    simp only [Lib.joinTail, List.map_cons, List.flatten_cons, List.length_append, sz, sumBk, List.sum_cons] at h ⊢
    omega
theorem join_le (sep : List UInt8) (xs : List ByteArray) : (Lib.join (xs.map (·.data.toList)) sep).length ≤ sz sep.length xs := by
  cases xs with
  | nil => simp [Lib.join_nil]
  | cons x xs =>
    have h := joinTail_le sep xs
    have e : x.data.toList.length = x.size := by rw [Array.length_toList]; rfl
    rw [List.map_cons, Lib.join_cons, List.length_append]
    simp only [sz, sumBk, List.map_cons, List.sum_cons] at h ⊢
    omega
theorem join_snoc (x : List UInt8) (r : List (List UInt8)) (y sep : List UInt8) : Lib.join (x :: r ++ [y]) sep = Lib.join (x :: r) sep ++ (sep ++ y) := by
  rw [List.cons_append, Lib.join_cons, Lib.join_cons]; simp [Lib.joinTail]
def jn (xs : List ByteArray) (sep : List UInt8) : ByteArray := toB (Lib.join (xs.map (·.data.toList)) sep)
theorem jn_size (xs : List ByteArray) (sep : List UInt8) : (jn xs sep).size ≤ sz sep.length xs := by unfold jn; rw [toB_size]; exact join_le sep xs
def sB (l : List UInt8) : List Int := l.map fun c => (c.toNat : Int)
theorem bStr_sB (l : List UInt8) : bStr (sB l) = toB l := by
  have key : ∀ (l : List UInt8) (s : ByteArray), (sB l).foldl (fun r n => r.push (UInt8.ofNat n.toNat)) s = s ++ toB l := by
    intro l
    induction l with
    | nil => intro s; apply ByteArray.ext; rw [ByteArray.data_append]; simp [sB, toB]
    | cons c l ih =>
      intro s
      show (sB l).foldl _ (s.push (UInt8.ofNat ((c.toNat : Int)).toNat)) = _
      rw [ih]
      apply ByteArray.ext
      rw [ByteArray.data_append, ByteArray.data_append]
      simp [ByteArray.push, toB]
  have := key l ByteArray.empty
  unfold bStr
  rw [this]
  apply ByteArray.ext
  rw [ByteArray.data_append]
  show #[] ++ l.toArray = l.toArray
  simp
theorem app_sB (a b : List UInt8) (h : (a ++ b).length ≤ 1099511627776) : app? 1 (sB a) (sB b) = some (sB (a ++ b)) := by
  unfold app?
  rw [if_pos (by simp [sB] at h ⊢; omega)]
  simp [sB]
theorem s_join (xs : List ByteArray) (sep : ByteArray) (hb : sz sep.data.toList.length xs ≤ 1099511627776) (hl : xs.length ≤ 4294967296) {k : Nat} (hk : xs.length < k) : s_Join k xs sep = some (jn xs sep.data.toList) := by
  have key := loopE (fun n (s : List Int) i => s_Join_u1 xs sep n s i) (fun i => sB (Lib.join ((xs.take i).map (·.data.toList)) sep.data.toList)) (some (sB (Lib.join (xs.map (·.data.toList)) sep.data.toList))) xs.length
    (fun n i hi => by
      have hle : (Lib.join ((xs.take (i + 1)).map (·.data.toList)) sep.data.toList).length ≤ 1099511627776 := by
        have h1 := join_le sep.data.toList (xs.take (i + 1))
        have h2 : sz sep.data.toList.length (xs.take (i + 1)) ≤ sz sep.data.toList.length xs := sumBk_take _ xs (i + 1)
        omega
      have e := List.take_succ_eq_append_getElem hi
      try simp only
      rw [s_Join_u1, if_pos (lt_yes hi), at_in hi]
      by_cases h0 : 0 < i
      · obtain ⟨x, r, hx⟩ : ∃ x r, xs.take i = x :: r := by
          cases h : xs.take i with
          | nil => have hz : (xs.take i).length = i := by { rw [List.length_take]; omega }
                   rw [h] at hz; simp at hz; omega
          | cons x r => exact ⟨x, r, rfl⟩
        have e2 : Lib.join ((xs.take (i + 1)).map (·.data.toList)) sep.data.toList = Lib.join ((xs.take i).map (·.data.toList)) sep.data.toList ++ (sep.data.toList ++ xs[i].data.toList) := by
          rw [e, hx, List.map_append, List.map_cons]; exact join_snoc ..
        rw [e2] at hle ⊢
        have a1 := app_sB (Lib.join ((xs.take i).map (·.data.toList)) sep.data.toList) sep.data.toList (by simp at hle ⊢; omega)
        have a2 := app_sB (Lib.join ((xs.take i).map (·.data.toList)) sep.data.toList ++ sep.data.toList) xs[i].data.toList (by simp at hle ⊢; omega)
        rw [if_pos (by simpa using h0), show sBytes sep = sB sep.data.toList from rfl, a1, Option.bind_some, Option.bind_some, Option.bind_some, show sBytes xs[i] = sB xs[i].data.toList from rfl, a2, Option.bind_some, wS i (by omega), List.append_assoc]
      · obtain rfl : i = 0 := by omega
        have e2 : Lib.join ((xs.take (0 + 1)).map (·.data.toList)) sep.data.toList = xs[0].data.toList := by
          rw [e, List.take_zero, List.nil_append, List.map_cons, List.map_nil, Lib.join_one]
        rw [e2] at hle ⊢
        have a2 := app_sB [] xs[0].data.toList (by simpa using hle)
        rw [if_neg (by simp), Option.bind_some, Option.bind_some, List.take_zero, List.map_nil, Lib.join_nil, show sBytes xs[0] = sB xs[0].data.toList from rfl, a2, Option.bind_some, wS 0 (by omega), List.nil_append])
    (fun n => by
      try simp only
      rw [s_Join_u1, if_neg (lt_no (Nat.le_refl _)), List.take_length]) hk
  unfold s_Join
  simp only [List.take_zero, List.map_nil, Lib.join_nil] at key
  rw [show ([] : List Int) = sB [] from rfl, key, Option.bind_some, bStr_sB]; rfl
theorem i_join (xs : List ByteArray) (sep : ByteArray) (hb : sz sep.data.toList.length xs ≤ 1099511627776) (hl : xs.length ≤ 4294967296) : i_Join xs sep = some (jn xs sep.data.toList) := by
  unfold i_Join x_strings_Join
  have h1 := join_le sep.data.toList xs
  rw [if_pos ⟨by omega, by omega⟩]; rfl
def brk (ts : List ByteArray) : ByteArray := toB [91] ++ jn ts [44, 32] ++ toB [93]
theorem brk_size (ts : List ByteArray) : (brk ts).size ≤ sz 2 ts + 2 := by
  have : (jn ts [44, 32]).size ≤ sz 2 ts := jn_size ts [44, 32]
  unfold brk
  simp only [ByteArray.size_append, toB_size, List.length_cons, List.length_nil]
  omega
theorem s_brk {α : Type} (ts : List ByteArray) (hb : sz 2 ts ≤ 109951162777) (hl : ts.length ≤ 4294967296) {k : Nat} (hk : ts.length < k) (f : ByteArray → Option α) :
    ((s_Join k ts (⟨#[44, 32]⟩ : ByteArray)).bind fun x => (cat? (⟨#[91]⟩ : ByteArray) x).bind fun y => (cat? y (⟨#[93]⟩ : ByteArray)).bind fun z => f z) = f (brk ts) := by
  have h : (jn ts [44, 32]).size ≤ sz 2 ts := jn_size ts [44, 32]
  rw [s_join ts _ (by show sz 2 ts ≤ _; omega) hl hk, Option.bind_some]
  show ((cat? (toB [91]) (jn ts [44, 32])).bind fun y => (cat? y (toB [93])).bind fun z => f z) = _
  rw [cat_ok (by simp only [toB_size, List.length_cons, List.length_nil]; omega), Option.bind_some, cat_ok (by simp only [ByteArray.size_append, toB_size, List.length_cons, List.length_nil]; omega), Option.bind_some]; rfl
theorem i_brk (ts : List ByteArray) (hb : sz 2 ts ≤ 109951162777) (hl : ts.length ≤ 4294967296) : i_listText ts = some (brk ts) := by
  have h : (jn ts [44, 32]).size ≤ sz 2 ts := jn_size ts [44, 32]
  unfold i_listText
  rw [i_join ts _ (by show sz 2 ts ≤ _; omega) hl, Option.bind_some]
  show ((cat? (toB [91]) (jn ts [44, 32])).bind fun y => (cat? y (toB [93])).bind fun z => some z) = _
  rw [cat_ok (by simp only [toB_size, List.length_cons, List.length_nil]; omega), Option.bind_some, cat_ok (by simp only [ByteArray.size_append, toB_size, List.length_cons, List.length_nil]; omega), Option.bind_some]; rfl
theorem mapA_loop {α β : Type} (w : Nat) (hw : w ≤ 100) (xs : List α) (t : α → β) (G : Int → Option β) (u : Nat → List β → Int → Option (List β)) (hG : ∀ (j : Nat) (h : j < xs.length), G (j : Int) = some (t xs[j]))
    (hu : ∀ n s i, u (n + 1) s i = if decide (i < (xs.length : Int)) = true then (G i).bind fun y => (app? w s [y]).bind fun z => u n z (IntKind.i64.wrap (i + 1)) else some s) (hl : xs.length ≤ 4294967296) {k : Nat} (hk : xs.length < k) : u k [] 0 = some (xs.map t) := by
  have := loopE u (fun i => (xs.take i).map t) (some (xs.map t)) xs.length
    (fun n i hi => by
      have ha : app? w ((xs.take i).map t) [t xs[i]] = some ((xs.take i).map t ++ [t xs[i]]) := by
        unfold app?
        have h1 : ((xs.take i).map t).length + [t xs[i]].length ≤ 4294967297 := by simp; omega
        have h2 : (((xs.take i).map t).length + [t xs[i]].length) * w ≤ 4294967297 * 100 := Nat.mul_le_mul h1 hw
        rw [if_pos ⟨by omega, by omega⟩]
      rw [hu, if_pos (lt_yes hi), hG i hi, Option.bind_some, ha, Option.bind_some, wS i (by omega), List.take_succ_eq_append_getElem hi, List.map_append]
      rfl)
    (fun n => by rw [hu, if_neg (lt_no (Nat.le_refl _)), List.take_length]) hk
  simpa using this
theorem isNum_range {n : Int} (h : isNum n = true) : -9223372036854775808 ≤ n ∧ n ≤ 9223372036854775807 := by
  unfold isNum at h
  simp only [Bool.and_eq_true, decide_eq_true_eq] at h
  omega
theorem num_size {n : Int} (h : isNum n = true) : (toB (Lib.itoa n)).size ≤ 21 := by
  have h1 := isNum_range h
  have := Lib.itoa_length_le n h1.1 h1.2
  rw [toB_size]; omega
def nums (ns : List Int) : List ByteArray := ns.map fun n => toB (Lib.itoa n)
def RowOk (r : TRow) : Prop := r.cells.length ≤ 4 ∧ ∀ n ∈ r.cells, isNum n = true
theorem nums_sz {r : TRow} (h : RowOk r) : sz 2 (nums r.cells) ≤ 92 := by
  have := sumBk_le (fun x : ByteArray => x.size + 2) 23 (nums r.cells) fun x hx => by
    unfold nums at hx
    obtain ⟨n, hn, rfl⟩ := List.mem_map.1 hx
    have := num_size (h.2 n hn)
    omega
  have e : (nums r.cells).length = r.cells.length := by simp [nums]
  have := h.1
  unfold sz; omega
def rowT (r : TRow) : ByteArray := brk (nums r.cells)
theorem rowT_size {r : TRow} (h : RowOk r) : (rowT r).size ≤ 94 := by have h1 := nums_sz h; have h2 := brk_size (nums r.cells); unfold rowT; omega
theorem rows_sz {rs : List TRow} (h : ∀ r ∈ rs, RowOk r) (hl : rs.length ≤ 12) : sz 2 (rs.map rowT) ≤ 1152 := by
  have := sumBk_le (fun x : ByteArray => x.size + 2) 96 (rs.map rowT) fun x hx => by
    obtain ⟨r, hr, rfl⟩ := List.mem_map.1 hx
    have := rowT_size (h r hr)
    omega
  rw [List.length_map] at this
  unfold sz; omega
theorem s_rows {rs : List TRow} (h : ∀ r ∈ rs, RowOk r) (hl : rs.length ≤ 12) {k : Nat} (hk : 200 < k) : s_l4Rows k rs = some (brk (rs.map rowT)) := by
  unfold s_l4Rows
  have inner : ∀ (j : Nat) (hj : j < rs.length), s_l4Rows_u2 k rs (j : Int) k [] 0 = some (nums rs[j].cells) := fun j hj => by
    have hr := h _ (List.getElem_mem hj)
    exact mapA_loop 16 (by omega) rs[j].cells (fun n => toB (Lib.itoa n)) (fun i => (at? rs[j].cells i).bind fun x8 => s_FormatInt k x8) (s_l4Rows_u2 k rs (j : Int))
      (fun i hi => by have := isNum_range (hr.2 _ (List.getElem_mem hi)); rw [at_in hi, Option.bind_some, s_int _ this.1 this.2 (by omega)])
      (fun n s i => by rw [s_l4Rows_u2, at_in hj, Option.bind_some]; simp only [Option.bind_assoc]) (by have := hr.1; omega) (by have := hr.1; omega)
  have := mapA_loop 16 (by omega) rs rowT (fun i => (s_l4Rows_u2 k rs i k ([] : List ByteArray) 0).bind fun x4 => (s_Join k x4 (⟨#[44, 32]⟩ : ByteArray)).bind fun x11 => (cat? (⟨#[91]⟩ : ByteArray) x11).bind fun x12 => (cat? x12 (⟨#[93]⟩ : ByteArray)).bind fun x13 => some x13) (s_l4Rows_u1 k rs)
    (fun j hj => by
      have hr := h _ (List.getElem_mem hj)
      have := nums_sz hr
      rw [inner j hj, Option.bind_some, s_brk _ (by omega) (by simp [nums]; have := hr.1; omega) (by simp [nums]; have := hr.1; omega)]; rfl)
    (fun n s i => by rw [s_l4Rows_u1]; simp only [Option.bind_assoc, Option.bind_some]) (by omega) (k := k) (by omega)
  have hz := rows_sz h hl
  rw [this, Option.bind_some, s_brk _ (by omega) (by simp; omega) (by simp; omega)]
theorem i_rows {v : TValue} (h : ∀ r ∈ v.rows, RowOk r) (hl : v.rows.length ≤ 12) {k : Nat} (hk : 200 < k) : i_FormatValue_u2 k v k [] 0 = some (v.rows.map rowT) := by
  have inner : ∀ r ∈ v.rows, i_FormatValue_u3 r k [] 0 = some (nums r.cells) := fun r hm => by
    have hr := h _ hm
    exact mapA_loop 16 (by omega) r.cells (fun n => toB (Lib.itoa n)) (fun i => (at? r.cells i).bind fun x8 => i_FormatInt x8) (i_FormatValue_u3 r)
      (fun i hi => by rw [at_in hi, Option.bind_some, i_int])
      (fun n s i => by rw [i_FormatValue_u3]; simp only [Option.bind_assoc]) (by have := hr.1; omega) (by have := hr.1; omega)
  exact mapA_loop 16 (by omega) v.rows rowT (fun i => (at? v.rows i).bind fun r => (i_FormatValue_u3 r k ([] : List ByteArray) 0).bind fun x4 => i_listText x4) (i_FormatValue_u2 k v)
    (fun j hj => by
      have hm := List.getElem_mem hj
      have hr := h _ hm
      have := nums_sz hr
      rw [at_in hj, Option.bind_some, inner _ hm, Option.bind_some, i_brk _ (by omega) (by simp [nums]; have := hr.1; omega)]; rfl)
    (fun n s i => by rw [i_FormatValue_u2]; simp only [Option.bind_assoc]) (by omega) (by omega)
theorem errs {n : Int} (h1 : 1 ≤ n) (h8 : n ≤ 8) : ∃ e : ByteArray, e.size ≤ 100 ∧ s_ErrorName n = some e ∧ i_ErrorName n = some e := by
  have : n = 1 ∨ n = 2 ∨ n = 3 ∨ n = 4 ∨ n = 5 ∨ n = 6 ∨ n = 7 ∨ n = 8 := by omega
  rcases this with rfl | rfl | rfl | rfl | rfl | rfl | rfl | rfl <;> exact ⟨_, by decide, rfl, rfl⟩
end Go.Proofs.YtmiboaogfjgkjaaGreatDoor
