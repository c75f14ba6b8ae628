/- Copies of values. -/
import Derived.Test.YtbknilpmpjjfpaaMapL
import Derived.Test.YtbknilpmpjjfpaaLs
import Derived.Test.YtbknilpmpjjfpaaMd6
import Derived.Test.YtbknilpmpjjfpaaMd8
set_option linter.unusedSimpArgs false
set_option linter.unusedVariables false
namespace Go.Proofs.Ytbknilpmpjjfpaa
open Go.RowKit Am
theorem TRow.lensB (r : TRow) : r.cells.length ≤ r.bk ∧ r.from_.length ≤ r.bk := by
  have h2 := r.bk_eq
  have h3 := bkS_len (f := fun _ : Int => 0) (xs := r.cells)
  have h4 := bkS_len (f := fun _ : TOrigin => 0) (xs := r.from_)
  constructor <;> omega
theorem s_rowCopy (r : TRow) (h : r.bk ≤ 1073741824) : s_l3Row r = some r := by
  obtain ⟨h1, h2⟩ := r.lensB
  unfold s_l3Row
  rw [app_big (by simp; omega) (by omega), Option.bind_some, app_big (by simp; omega) (by omega)]; rfl
theorem i_rowCopy (r : TRow) (h : r.bk ≤ 1073741824) : i_copyRow r = some r := by
  obtain ⟨h1, h2⟩ := r.lensB
  unfold i_copyRow
  rw [app_big (by simp; omega) (by omega), Option.bind_some, app_big (by simp; omega) (by omega)]; rfl
structure VLens (v : TValue) : Prop where
  list : v.list.length ≤ v.bk
  cols : v.columns.length ≤ v.bk
  rows : v.rows.length ≤ v.bk
  text : v.text.size ≤ v.bk
  row : ∀ r ∈ v.rows, r.bk ≤ v.bk
  el : ∀ x ∈ v.list, x.bk ≤ v.bk
  col : ∀ s ∈ v.columns, s.size ≤ v.bk
theorem TValue.lens' (v : TValue) : VLens v := by
  have e := v.bk_eq
  have l1 := bkS_len (f := TValue.bk) (xs := v.list)
  have l2 := bkS_len (f := ByteArray.size) (xs := v.columns)
  have l3 := bkS_len (f := TRow.bk) (xs := v.rows)
  exact ⟨by omega, by omega, by omega, by omega, fun r hr => by have := bkS_get (f := TRow.bk) hr; omega, fun r hr => by have := bkS_get (f := TValue.bk) hr; omega, fun r hr => by have := bkS_get (f := ByteArray.size) hr; omega⟩
theorem s_valueCopy : ∀ v : TValue, v.bk ≤ 1073741824 → Ev fun k => s_l3Copy k v = some v := by
  refine TValue.ind fun v ih hb => ?_
  have l := v.lens'
  have := l.list; have := l.cols; have := l.rows
  refine ((Ev.all v.list fun y hy => ih y hy (by have := l.el y hy; omega)).and (Ev.ge (v.list.length + v.rows.length + 2))).pred ?_
  rintro k ⟨hx, hk⟩
  rw [s_l3Copy, app_big (by simp; omega) (by omega), Option.bind_some,
    copy_loop 112 (by omega) v.list (s_l3Copy k) (s_l3Copy_u1 (s_l3Copy k) v) hx (fun n out i => by rw [s_l3Copy_u1]) (by omega) (by omega), Option.bind_some,
    copy_loop 48 (by omega) v.rows s_l3Row (s_l3Copy_u2 v) (fun r hr => s_rowCopy r (by have := l.row r hr; omega)) (fun n out i => by rw [s_l3Copy_u2]) (by omega) (by omega)]
  simp only [Option.bind_some, List.nil_append]
  cases v; rfl
theorem i_valueCopy : ∀ v : TValue, v.bk ≤ 1073741824 → Ev fun k => i_copyValue k v = some v := by
  refine TValue.ind fun v ih hb => ?_
  have l := v.lens'
  have := l.list; have := l.cols; have := l.rows
  refine Ev.pred (p := fun k => i_copyValue (k + 1) v = some v) (((Ev.all v.list fun y hy => ih y hy (by have := l.el y hy; omega)).and (Ev.ge (v.list.length + v.rows.length + 2))).pred ?_) fun k h => h
  rintro k ⟨hx, hk⟩
  rw [i_copyValue, i_copyValues,
    copy_loop 112 (by omega) v.list (i_copyValue k) (i_copyValues_u1 (i_copyValue k) v.list) hx (fun n out i => by rw [i_copyValues_u1]) (by omega) (by omega), Option.bind_some, Option.bind_some,
    app_big (by simp; omega) (by omega), Option.bind_some,
    copy_loop 48 (by omega) v.rows i_copyRow (i_copyValue_u1 v) (fun r hr => i_rowCopy r (by have := l.row r hr; omega)) (fun n out i => by rw [i_copyValue_u1]) (by omega) (by omega)]
  simp only [Option.bind_some, List.nil_append]
  cases v; rfl
end Go.Proofs.Ytbknilpmpjjfpaa
