/- HasRow: the program's and the reference's answer alike. -/
import Derived.Test.YtopjlbifglacpaaLg
import Derived.Test.YtopjlbifglacpaaLs
namespace Go.Proofs.Ytopjlbifglacpaa
open Go.RowKit Am

def eqI (x y : Int) : Bool := decide (x = y)
def eqO (x y : TOrigin) : Bool := decide (x.cell = y.cell) && decide (x.row = y.row)
theorem s_l1Ints_eq (a b : List Int) (hl : (a.length : Int) ≤ 9223372036854775807) {k : Nat} (hk : a.length < k) : s_l1Ints k a b = some (sameL eqI a b) := by
  unfold s_l1Ints
  exact same_law a b eqI (fun x y => some (!decide (x = y))) (s_l1Ints_u1 a b) (fun _ _ _ _ => rfl) (fun n i => by rw [s_l1Ints_u1]; rfl) hl hk
theorem i_same_int_eq (a b : List Int) (hl : (a.length : Int) ≤ 9223372036854775807) {k : Nat} (hk : a.length < k) : i_same_int k a b = some (sameL eqI a b) := by
  unfold i_same_int
  exact same_law a b eqI (fun x y => some (!decide (x = y))) (i_same_int_u1 a b) (fun _ _ _ _ => rfl) (fun n i => by rw [i_same_int_u1]; rfl) hl hk
theorem s_l3Origins_eq (a b : List TOrigin) (hl : (a.length : Int) ≤ 9223372036854775807) {k : Nat} (hk : a.length < k) : s_l3Origins k a b = some (sameL eqO a b) := by
  unfold s_l3Origins
  exact same_law a b eqO (fun x y => some (!(decide (x.cell = y.cell) && decide (x.row = y.row)))) (s_l3Origins_u1 a b) (fun _ _ _ _ => rfl) (fun n i => by rw [s_l3Origins_u1]; rfl) hl hk
theorem i_same_Origin_eq (a b : List TOrigin) (hl : (a.length : Int) ≤ 9223372036854775807) {k : Nat} (hk : a.length < k) : i_same_Origin k a b = some (sameL eqO a b) := by
  unfold i_same_Origin
  exact same_law a b eqO (fun x y => some (!(decide (x.cell = y.cell) && decide (x.row = y.row)))) (i_same_Origin_u1 a b) (fun _ _ _ _ => rfl) (fun n i => by rw [i_same_Origin_u1]; rfl) hl hk

def rowIs (r x : TRow) : Bool := sameL eqI x.cells r.cells && sameL eqO x.from_ r.from_
theorem row_ok {x : TRow} (h : DOkL x.c) : (x.cells.length : Int) ≤ 9223372036854775807 ∧ (x.from_.length : Int) ≤ 9223372036854775807 := by
  rw [TRow.c_eq] at h
  simp only [DOkL] at h
  exact ⟨(DOk_sl h.1).1, (DOk_sl h.2.1).1⟩
theorem HasRow_agree (t : TValue) (ht : DOkL t.c) (bt : t.bk ≤ 1048576) (r : TRow) (_hr : DOkL r.c) (_br : r.bk ≤ 1048576) : ∃ v, Ev fun k => s_HasRow k t r = some v ∧ i_HasRow k t r = some v := by
  rw [TValue.c_eq] at ht
  simp only [DOkL] at ht
  obtain ⟨hl, hrows⟩ := DOk_sl ht.2.2.2.2.2.2.1
  refine ⟨t.rows.any (rowIs r), ?_⟩
  refine ((Ev.ge (t.rows.length + 1)).and (Ev.all (p := fun x k => x.cells.length < k ∧ x.from_.length < k) t.rows fun x _ => ((Ev.ge (x.cells.length + 1)).and (Ev.ge (x.from_.length + 1))).mono fun k h => ⟨by omega, by omega⟩)).mono ?_
  rintro k ⟨hk, hx⟩
  constructor
  · unfold s_HasRow
    rw [any_loop0 t.rows (rowIs r) (fun x3 => (s_l1Ints k x3.cells r.cells).bind fun x4 => if x4 then (s_l3Origins k x3.from_ r.from_).bind fun x5 => some x5 else some false) true () (s_HasRow_u1 k t r)
      (fun x hm => by
        obtain ⟨l1, l2⟩ := row_ok (hrows x hm)
        rw [s_l1Ints_eq _ _ l1 (hx x hm).1, s_l3Origins_eq _ _ l2 (hx x hm).2]
        unfold rowIs
        cases sameL eqI x.cells r.cells <;> simp)
      (fun n i => by rw [s_HasRow_u1]; simp only [Option.bind_assoc]) hl (by omega)]
    cases t.rows.any (rowIs r) <;> rfl
  · unfold i_HasRow
    rw [any_loop0 t.rows (rowIs r) (fun x3 => (i_same_int k x3.cells r.cells).bind fun x4 => if x4 then (i_same_Origin k x3.from_ r.from_).bind fun x5 => some x5 else some false) true () (i_HasRow_u1 k t r)
      (fun x hm => by
        obtain ⟨l1, l2⟩ := row_ok (hrows x hm)
        rw [i_same_int_eq _ _ l1 (hx x hm).1, i_same_Origin_eq _ _ l2 (hx x hm).2]
        unfold rowIs
        cases sameL eqI x.cells r.cells <;> simp)
      (fun n i => by rw [i_HasRow_u1]) hl (by omega)]
    cases t.rows.any (rowIs r) <;> rfl
end Go.Proofs.Ytopjlbifglacpaa
