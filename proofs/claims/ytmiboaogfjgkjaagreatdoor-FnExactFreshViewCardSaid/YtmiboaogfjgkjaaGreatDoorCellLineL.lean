/- CellLine: the program's line is the reference's. -/
import Derived.Test.YtmiboaogfjgkjaaGreatDoorFvL
import Derived.Test.YtmiboaogfjgkjaaGreatDoorMd1
import Derived.Test.YtmiboaogfjgkjaaGreatDoorMd2
import Derived.Test.YtmiboaogfjgkjaaGreatDoorMd3
set_option linter.unusedSimpArgs false
set_option linter.unusedVariables false
namespace Go.Proofs.YtmiboaogfjgkjaaGreatDoor
open Go.RowKit Am
theorem text_same (v : TValue) (hb : v.bk ≤ 1048576) (b : TValue → Bool) (f : TValue → ByteArray) (d : Int) (hv : validCore b d v = true)
    (hI : Ev fun k => i_IsValidValue k v = some true)
    (hf : ∀ x ∈ v.list, (f x).size + 2 ≤ 1000 * (x.bk + 1) ∧ (b x = true → Ev fun k => s_l4Text k x = some (f x) ∧ i_FormatValue k x = some (f x))) :
    ∃ t : ByteArray, t.size + 2 ≤ 1000 * (v.bk + 1) ∧ Ev fun k => s_l4Text k v = some t ∧ i_FormatValue k v = some t := by
  have sm := TValue.small hb
  have bk := TValue.bk_eq v
  unfold validCore at hv
  by_cases h1 : v.kind = 1
  · simp only [h1] at hv
    simp only [if_true, Bool.and_eq_true] at hv
    have hn := hv.2
    have hr := isNum_range hn
    have hs := num_size hn
    refine ⟨toB (Lib.itoa v.n), by omega, (hI.and (Ev.ge 200)).pred fun k ⟨hV, hk⟩ => ⟨?_, ?_⟩⟩
    · rw [s_l4Text, if_pos (by simp [h1]), s_int _ hr.1 hr.2 (by omega)]; rfl
    · rw [i_FormatValue, hV, Option.bind_some, if_neg (by simp), if_pos (by simp [h1]), i_int]; rfl
  by_cases h2 : v.kind = 2
  · simp only [h2] at hv
    simp [textOk] at hv
    have ht : v.text.size ≤ 20 := by have := hv.2.2; omega
    refine ⟨toB [34] ++ v.text ++ toB [34], by simp only [ByteArray.size_append, toB_size, List.length_cons, List.length_nil]; omega, (hI.and (Ev.ge 200)).pred fun k ⟨hV, hk⟩ => ⟨?_, ?_⟩⟩
    · rw [s_l4Text, if_neg (by simp [h2]), if_pos (by simp [h2])]
      simp only [litB]
      rw [cat_ok (by simp only [toB_size, List.length_cons, List.length_nil]; omega), Option.bind_some, cat_ok (by simp only [ByteArray.size_append, toB_size, List.length_cons, List.length_nil]; omega), Option.bind_some]
    · rw [i_FormatValue, hV, Option.bind_some, if_neg (by simp), if_neg (by simp [h2]), if_pos (by simp [h2])]
      simp only [litB]
      rw [cat_ok (by simp only [toB_size, List.length_cons, List.length_nil]; omega), Option.bind_some, cat_ok (by simp only [ByteArray.size_append, toB_size, List.length_cons, List.length_nil]; omega), Option.bind_some]
  by_cases h4 : v.kind = 4
  · simp only [h4] at hv
    simp at hv
    have hn := hv.1.2
    have hm := hv.2
    have hr := isNum_range hn
    have hs := num_size hn
    have hr2 := isNum_range hm
    have hs2 := num_size hm
    rw [toB_size] at hs hs2
    refine ⟨toB [114, 97, 110, 103, 101, 40] ++ toB (Lib.itoa v.n) ++ toB [44, 32] ++ toB (Lib.itoa v.step) ++ toB [41], by simp only [ByteArray.size_append, toB_size, List.length_cons, List.length_nil]; omega, (hI.and (Ev.ge 200)).pred fun k ⟨hV, hk⟩ => ⟨?_, ?_⟩⟩
    · rw [s_l4Text, if_neg (by simp [h4]), if_neg (by simp [h4]), if_pos (by simp [h4]), s_int _ hr.1 hr.2 (by omega), Option.bind_some, s_int _ hr2.1 hr2.2 (by omega)]
      simp only [litB, Option.bind_some]
      rw [cat_ok (by simp only [toB_size, List.length_cons, List.length_nil]; omega), Option.bind_some]
      rw [cat_ok (by simp only [ByteArray.size_append, toB_size, List.length_cons, List.length_nil]; omega), Option.bind_some]
      rw [cat_ok (by simp only [ByteArray.size_append, toB_size, List.length_cons, List.length_nil]; omega), Option.bind_some]
      rw [cat_ok (by simp only [ByteArray.size_append, toB_size, List.length_cons, List.length_nil]; omega), Option.bind_some]
    · rw [i_FormatValue, hV, Option.bind_some, if_neg (by simp), if_neg (by simp [h4]), if_neg (by simp [h4]), if_pos (by simp [h4]), i_int, i_int]
      simp only [litB, Option.bind_some]
      rw [cat_ok (by simp only [toB_size, List.length_cons, List.length_nil]; omega), Option.bind_some]
      rw [cat_ok (by simp only [ByteArray.size_append, toB_size, List.length_cons, List.length_nil]; omega), Option.bind_some]
      rw [cat_ok (by simp only [ByteArray.size_append, toB_size, List.length_cons, List.length_nil]; omega), Option.bind_some]
      rw [cat_ok (by simp only [ByteArray.size_append, toB_size, List.length_cons, List.length_nil]; omega), Option.bind_some]
  by_cases h5 : v.kind = 5
  · simp only [h5] at hv
    simp [tableOk, colsOk] at hv
    have hl : v.list = [] := by have := hv.1.1.1.1; simpa using this
    have hc4 : v.columns.length ≤ 4 := by omega
    have hc1 : 1 ≤ v.columns.length := by omega
    have hcb := bkS_len (f := ByteArray.size) (xs := v.columns)
    have hr12 : v.rows.length ≤ 12 := by omega
    have hnm : ∀ s ∈ v.columns, s.size ≤ 8 := by
      intro s hs
      have : nameOk s = true := by
        have := hv.2.1.1.1.1 s hs
        simpa using this
      unfold nameOk at this
      simp at this
      omega
    have hrows : ∀ r ∈ v.rows, RowOk r := by
      intro r hr
      have := hv.2.2 r hr
      unfold rowBad at this
      simp at this
      refine ⟨by omega, this.2⟩
    have hcz : sz 1 v.columns ≤ 36 := by
      have := sumBk_le (fun x : ByteArray => x.size + 1) 9 v.columns fun x hx => by have := hnm x hx; omega
      unfold sz; omega
    have hj : (jn v.columns [32]).size ≤ sz 1 v.columns := jn_size v.columns [32]
    have hz := rows_sz hrows hr12
    have hB := brk_size (v.rows.map rowT)
    refine ⟨toB [116, 97, 98, 108, 101, 40, 34] ++ jn v.columns [32] ++ toB [34, 44, 32] ++ brk (v.rows.map rowT) ++ toB [41], by simp only [ByteArray.size_append, toB_size, List.length_cons, List.length_nil]; omega, (hI.and (Ev.ge 300)).pred fun k ⟨hV, hk⟩ => ⟨?_, ?_⟩⟩
    · rw [s_l4Text, if_neg (by simp [h5]), if_neg (by simp [h5]), if_neg (by simp [h5]), if_pos (by simp [h5]), s_join v.columns _ (by show sz 1 v.columns ≤ _; omega) (by omega) (by omega), Option.bind_some, s_rows hrows hr12 (by omega)]
      show ((cat? _ (jn v.columns [32])).bind _) = _
      simp only [litB, Option.bind_some]
      rw [cat_ok (by simp only [toB_size, List.length_cons, List.length_nil]; omega), Option.bind_some]
      rw [cat_ok (by simp only [ByteArray.size_append, toB_size, List.length_cons, List.length_nil]; omega), Option.bind_some]
      rw [cat_ok (by simp only [ByteArray.size_append, toB_size, List.length_cons, List.length_nil]; omega), Option.bind_some]
      rw [cat_ok (by simp only [ByteArray.size_append, toB_size, List.length_cons, List.length_nil]; omega), Option.bind_some]
    · have e1 : i_FormatValue_u1 (i_FormatValue k) v k [] 0 = some [] := by
        obtain ⟨k, rfl⟩ : ∃ j, k = j + 1 := ⟨k - 1, by omega⟩
        rw [i_FormatValue_u1, hl]; rfl
      rw [i_FormatValue, hV, Option.bind_some, if_neg (by simp), if_neg (by simp [h5]), if_neg (by simp [h5]), if_neg (by simp [h5]), if_neg (by simp [h5]), e1, Option.bind_some, i_rows hrows hr12 (by omega), Option.bind_some, if_pos (by simp [h5]), i_join v.columns _ (by show sz 1 v.columns ≤ _; omega) (by omega), Option.bind_some, i_brk _ (by omega) (by simp; omega)]
      show ((cat? _ (jn v.columns [32])).bind _) = _
      simp only [litB, Option.bind_some]
      rw [cat_ok (by simp only [toB_size, List.length_cons, List.length_nil]; omega), Option.bind_some]
      rw [cat_ok (by simp only [ByteArray.size_append, toB_size, List.length_cons, List.length_nil]; omega), Option.bind_some]
      rw [cat_ok (by simp only [ByteArray.size_append, toB_size, List.length_cons, List.length_nil]; omega), Option.bind_some]
      rw [cat_ok (by simp only [ByteArray.size_append, toB_size, List.length_cons, List.length_nil]; omega), Option.bind_some]
  by_cases h6 : v.kind = 6
  · simp only [h6] at hv
    simp at hv
    obtain ⟨e, he, es, ei⟩ := errs hv.2.1 hv.2.2
    refine ⟨toB [101, 114, 114, 111, 114, 32] ++ e, by simp only [ByteArray.size_append, toB_size, List.length_cons, List.length_nil]; omega, (hI.and (Ev.ge 200)).pred fun k ⟨hV, hk⟩ => ⟨?_, ?_⟩⟩
    · rw [s_l4Text, if_neg (by simp [h6]), if_neg (by simp [h6]), if_neg (by simp [h6]), if_neg (by simp [h6]), if_pos (by simp [h6]), es, Option.bind_some]
      simp only [litB]
      rw [cat_ok (by simp only [toB_size, List.length_cons, List.length_nil]; omega), Option.bind_some]
    · rw [i_FormatValue, hV, Option.bind_some, if_neg (by simp), if_neg (by simp [h6]), if_neg (by simp [h6]), if_neg (by simp [h6]), if_pos (by simp [h6]), ei, Option.bind_some]
      simp only [litB]
      rw [cat_ok (by simp only [toB_size, List.length_cons, List.length_nil]; omega), Option.bind_some]
  by_cases h3 : v.kind = 3
  · simp only [h3] at hv
    simp [listOk] at hv
    have hrw : v.rows = [] := by have := hv.1.1.1.1.2; simpa using this
    have hbx : ∀ x ∈ v.list, b x = true := fun x hx => (hv.2.1 x hx).2
    have hz : sz 2 (v.list.map f) ≤ 1000 * bkS TValue.bk v.list := by
      have key : ∀ xs : List TValue, (∀ x ∈ xs, (f x).size + 2 ≤ 1000 * (x.bk + 1)) → sz 2 (xs.map f) ≤ 1000 * bkS TValue.bk xs := by
        intro xs
        induction xs with
        | nil => intro _; simp [sz, sumBk]
        | cons x xs ih =>
          intro h
          have g1 := ih fun y hy => h y (List.mem_cons_of_mem _ hy)
          have g2 := h x (List.mem_cons_self ..)
          simp only [sz, sumBk, bkS, List.map_cons, List.sum_cons, List.length_cons] at g1 ⊢
          omega
      exact key _ fun x hx => (hf x hx).1
    have hll := sm.list
    have hB := brk_size (v.list.map f)
    have hbz : 1000 * bkS TValue.bk v.list ≤ 1000 * 1048576 := Nat.mul_le_mul_left _ (by omega)
    have hall := Ev.all v.list fun x hx => (hf x hx).2 (hbx x hx)
    refine ⟨brk (v.list.map f), by omega, ((hall.and (hI.and (Ev.ge 1048700))).pred fun k ⟨ha, hV, hk⟩ => ⟨?_, ?_⟩)⟩
    · have e1 := mapA_loop 16 (by omega) v.list f (fun i => (at? v.list i).bind fun x => s_l4Text k x) (s_l4Text_u1 (s_l4Text k) v)
        (fun i hi => by rw [at_in hi, Option.bind_some, (ha _ (List.getElem_mem hi)).1])
        (fun n s i => by rw [s_l4Text_u1]; simp only [Option.bind_assoc]) (by omega) (k := k) (by omega)
      rw [s_l4Text, if_neg (by simp [h3]), if_neg (by simp [h3]), if_neg (by simp [h3]), if_neg (by simp [h3]), if_neg (by simp [h3]), e1, Option.bind_some, s_brk _ (by omega) (by simp; omega) (by simp; omega)]
    · have e1 := mapA_loop 16 (by omega) v.list f (fun i => (at? v.list i).bind fun x => i_FormatValue k x) (i_FormatValue_u1 (i_FormatValue k) v)
        (fun i hi => by rw [at_in hi, Option.bind_some, (ha _ (List.getElem_mem hi)).2])
        (fun n s i => by rw [i_FormatValue_u1]; simp only [Option.bind_assoc]) (by omega) (k := k) (by omega)
      have e2 : i_FormatValue_u2 k v k (v.list.map f) 0 = some (v.list.map f) := by
        have : ∀ n xs, i_FormatValue_u2 k v (n + 1) xs 0 = some xs := fun n xs => by rw [i_FormatValue_u2, hrw]; rfl
        obtain ⟨j, hj⟩ : ∃ j, k = j + 1 := ⟨k - 1, by omega⟩
        have := this j (v.list.map f)
        rw [← hj] at this
        exact this
      rw [i_FormatValue, hV, Option.bind_some, if_neg (by simp), if_neg (by simp [h3]), if_neg (by simp [h3]), if_neg (by simp [h3]), if_neg (by simp [h3]), e1, Option.bind_some, e2, Option.bind_some, if_neg (by simp [h3]), i_brk _ (by omega) (by simp; omega)]; rfl
  · simp [h1, h2, h3, h4, h5, h6] at hv
theorem fv_same : ∀ v : TValue, v.bk ≤ 1048576 → ∃ p : Bool × ByteArray, p.2.size + 2 ≤ 1000 * (v.bk + 1) ∧ (Ev fun k => s_IsValidValue k v = some p.1 ∧ i_IsValidValue k v = some p.1) ∧ (p.1 = true → Ev fun k => s_l4Text k v = some p.2 ∧ i_FormatValue k v = some p.2) := by
  refine TValue.ind fun v ih hb => ?_
  have sm := TValue.small hb
  have hl := sm.list
  obtain ⟨q, hq⟩ := choose_mem v.list (p := fun x (p : Bool × ByteArray) => p.2.size + 2 ≤ 1000 * (x.bk + 1) ∧ (Ev fun k => s_IsValidValue k x = some p.1 ∧ i_IsValidValue k x = some p.1) ∧ (p.1 = true → Ev fun k => s_l4Text k x = some p.2 ∧ i_FormatValue k x = some p.2)) fun y hy => ih y hy (by have := TValue.list_bk hy; omega)
  obtain ⟨d, hd⟩ := depth_same v hb
  have hall := Ev.all v.list fun x hx => (hq x hx).2.1
  have e1 : Ev fun k => s_l3List k v = some (listOk (fun x => (q x).1) d v) := ((hall.and (hd.and (Ev.ge 1048700))).pred fun k ⟨h1, h2, h3⟩ => s_list_eq (fun x => (q x).1) d v hl (by omega) (fun x hx => (h1 x hx).1) h2.1)
  have e2 : Ev fun k => s_IsValidValue k v = some (validCore (fun x => (q x).1) d v) ∧ i_IsValidValue k v = some (validCore (fun x => (q x).1) d v) := ((hall.and (hd.and (e1.and (Ev.ge 1048701)))).pred fun k ⟨h1, h2, h3, h4⟩ => ⟨s_valid_eq (fun x => (q x).1) d v sm (by omega) fun _ => h3, i_valid_eq (fun x => (q x).1) d v sm (by omega) (fun x hx => (h1 x hx).2) h2.2⟩)
  cases hv : validCore (fun x => (q x).1) d v with
  | false => rw [hv] at e2; exact ⟨(false, toB []), by rw [toB_size]; simp; omega, e2, fun h => by cases h⟩
  | true =>
    rw [hv] at e2
    obtain ⟨t, ht, he⟩ := text_same v hb (fun x => (q x).1) (fun x => (q x).2) d hv (e2.mono fun k h => h.2) fun x hx => ⟨(hq x hx).1, (hq x hx).2.2⟩
    exact ⟨(true, t), ht, e2, fun _ => he⟩
theorem FormatValue_agree (v : TValue) (hb : v.bk ≤ 1048576) : ∃ t : ByteArray, t.size + 2 ≤ 1000 * (v.bk + 1) ∧ Ev fun k => s_FormatValue k v = some t ∧ i_FormatValue k v = some t := by
  obtain ⟨⟨b, t⟩, ht, hv, he⟩ := fv_same v hb
  cases b with
  | true =>
    refine ⟨t, ht, ((hv.and (he rfl)).mono fun k ⟨h1, h2⟩ => ⟨?_, h2.2⟩)⟩
    unfold s_FormatValue
    rw [h1.1, Option.bind_some, if_neg (by simp), h2.1]; rfl
  | false =>
    have hs : Ev fun k => s_FormatValue k v = some (toB []) := hv.mono fun k h1 => by
      unfold s_FormatValue
      rw [h1.1, Option.bind_some, if_pos (by simp)]; rfl
    have hi : Ev fun k => i_FormatValue k v = some (toB []) := hv.pred fun k h1 => by
      rw [i_FormatValue, h1.2, Option.bind_some, if_pos (by simp)]; rfl
    exact ⟨toB [], by rw [toB_size]; simp; omega, hs.and hi⟩
theorem CellLine_tot (c : TCell) (hc : c.bk ≤ 1048576) (v : TValue) (hb : v.bk ≤ 1048576) (a2 : Bool) : ∃ r : TLine, r.bk ≤ c.bk + 6 + 1000 * (v.bk + 1) ∧ Ev fun k => s_CellLine k c v a2 = some r ∧ i_CellLine k c v a2 = some r := by
  obtain ⟨t, ht, he⟩ := FormatValue_agree v hb
  have e := TCell.bk_eq c
  by_cases h1 : c.kind = 1
  · exact ⟨⟨c.id, true, c.code⟩, by rw [TLine.bk_eq]; show c.code.size + 0 ≤ c.bk + 6 + 1000 * (v.bk + 1); omega, Ev.of fun k => ⟨by unfold s_CellLine; rw [if_pos (by simpa using h1)], by unfold i_CellLine; rw [if_pos (by simpa using h1)]⟩⟩
  cases a2 with
  | false =>
    refine ⟨⟨c.id, false, c.name ++ toB [32, 61, 32, 46, 46, 46]⟩, by rw [TLine.bk_eq]; simp only [ByteArray.size_append, toB_size, List.length_cons, List.length_nil]; omega, Ev.of fun k => ⟨?_, ?_⟩⟩
    · unfold s_CellLine
      simp only [litB]
      rw [if_neg (by simpa using h1), if_pos (by simp), cat_ok (by simp only [toB_size, List.length_cons, List.length_nil]; omega), Option.bind_some]
    · unfold i_CellLine
      simp only [litB]
      rw [if_neg (by simpa using h1), if_neg (by simp), cat_ok (by simp only [toB_size, List.length_cons, List.length_nil]; omega), Option.bind_some]
  | true =>
    refine ⟨⟨c.id, true, c.name ++ toB [32, 61, 32] ++ t⟩, by rw [TLine.bk_eq]; simp only [ByteArray.size_append, toB_size, List.length_cons, List.length_nil]; omega, he.mono fun k h => ⟨?_, ?_⟩⟩
    · unfold s_CellLine
      simp only [litB]
      rw [if_neg (by simpa using h1), if_neg (by simp), cat_ok (by simp only [toB_size, List.length_cons, List.length_nil]; omega), Option.bind_some, h.1, Option.bind_some, cat_ok (by simp only [ByteArray.size_append, toB_size, List.length_cons, List.length_nil]; omega), Option.bind_some]
    · unfold i_CellLine
      simp only [litB]
      rw [if_neg (by simpa using h1), if_pos (by trivial), cat_ok (by simp only [toB_size, List.length_cons, List.length_nil]; omega), Option.bind_some, h.2, Option.bind_some, cat_ok (by simp only [ByteArray.size_append, toB_size, List.length_cons, List.length_nil]; omega), Option.bind_some]
end Go.Proofs.YtmiboaogfjgkjaaGreatDoor
