/- The laws' own functions: size counts, copies, comparisons. Written by a program of mine. -/
import Derived.Test.YtmiboaogfjgkjaaDoorPkC
import Derived.Test.YtmiboaogfjgkjaaDoorSx
import Derived.Test.YtmiboaogfjgkjaaDoorMdA0
import Derived.Test.YtmiboaogfjgkjaaDoorMdA1
import Derived.Test.YtmiboaogfjgkjaaDoorMdA2
set_option linter.unusedSimpArgs false
set_option linter.unusedVariables false
namespace Go.Proofs.YtmiboaogfjgkjaaDoor
open Go.RowKit Am
-- Line
def TLine.bk (x : TLine) : Nat := x.text.size + (0)
theorem TLine.bk_eq (x : TLine) : x.bk = x.text.size + (0) := rfl
theorem w_szLine_law (x : TLine) (hf : DOkL x.c) : ∀ left : Int, 0 ≤ left → left ≤ 1048576 → w_szLine x left = some (szR (x.bk) left) := by
  have hf' := hf; rw [TLine.c_eq] at hf'; simp only [DOkL] at hf'; obtain ⟨f0, f1, f2, _⟩ := hf'
  intro left l0 l1
  rw [TLine.bk_eq]
  unfold w_szLine
  rcases sz_cut (b := x.text.size) l0 l1 (DOk_str f2) with ⟨z0, e0, g0, q0, p0, r0⟩ | ⟨g0, q0⟩
  rotate_left
  · rw [if_pos g0]; exact szR_neg (by omega)
  rw [e0, if_neg g0]
  exact szR_pos p0 (by omega)
theorem w_toLine_law (x : TLine) (hb : x.bk ≤ 1048576) : w_toLine x = some x := by
  unfold w_toLine
  all_goals (first | rfl | (cases x; rfl))
theorem w_eqLine_law (x : TLine) (hb : x.bk ≤ 1073741824) : w_eqLine x x = some true := by
  unfold w_eqLine
  simp []
theorem w_szLineS_law (xs : List TLine) (hf : DOk (.sl (xs.map TLine.c))) : Ev fun k => ∀ left : Int, 0 ≤ left → left ≤ 1048576 → w_szLineS k xs left = some (szR (bkS TLine.bk xs) left) := by
  have hx : ∀ x ∈ xs, ∀ left : Int, 0 ≤ left → left ≤ 1048576 → w_szLine x left = some (szR (TLine.bk x) left) := fun x hm => w_szLine_law x ((DOk_sl hf).2 x hm)
  refine (Ev.ge (xs.length + 1)).mono fun k hk => ?_
  intro left l0 l1
  unfold w_szLineS
  refine sz_slice TLine.bk xs (w_szLine) (w_szLineS_u1 xs) k (fun x hm l p q => ?_) (fun n l i => by rw [w_szLineS_u1]) (by omega) (DOk_sl hf).1 left l0 l1
  rw [hx x hm l p q, Option.bind_some]; have := sz_then (b := TLine.bk x) (b2 := 0) (F := fun z => some z) p fun z pz _ => szR_end pz; exact this
theorem w_toLineS_law (xs : List TLine) (hb : bkS TLine.bk xs ≤ 1048576) : Ev fun k => w_toLineS k xs = some xs := by
  have hx : ∀ x ∈ xs, w_toLine x = some x := fun x hm => w_toLine_law x (by have := bkS_get (f := TLine.bk) hm; omega)
  refine (Ev.ge (xs.length + 1)).mono fun k hk => ?_
  unfold w_toLineS
  exact to_slice _ (by omega) _ xs (w_toLine) (w_toLineS_u1 xs) k (fun x hm => hx x hm) (fun n out i => by rw [w_toLineS_u1]) (by omega) (by have := bkS_len (f := TLine.bk) (xs := xs); omega)
theorem w_eqLineS_law (xs : List TLine) (hb : bkS TLine.bk xs ≤ 1073741824) : Ev fun k => w_eqLineS k xs xs = some true := by
  have hx : ∀ x ∈ xs, w_eqLine x x = some true := fun x hm => w_eqLine_law x (by have := bkS_get (f := TLine.bk) hm; omega)
  refine (Ev.ge (xs.length + 1)).mono fun k hk => ?_
  unfold w_eqLineS
  exact eq_slice xs (w_eqLine) (w_eqLineS_u1 xs xs) k (fun x hm => hx x hm) (fun n i => by rw [w_eqLineS_u1]) (by omega) (by have := bkS_len (f := TLine.bk) (xs := xs); omega)
-- Cell
-- Origin
-- Row
-- Value
end Go.Proofs.YtmiboaogfjgkjaaDoor
