/- The laws' own functions: size counts, copies, comparisons. Written by a program of mine. -/
import Derived.Test.YtopjlbifglacpaaLw
import Derived.Test.YtopjlbifglacpaaMd
set_option linter.unusedSimpArgs false
set_option linter.unusedVariables false
namespace Go.Proofs.Ytopjlbifglacpaa
open Go.RowKit Am

-- Line
def TLine.bk (x : TLine) : Nat := x.text.size + (0)
theorem TLine.bk_eq (x : TLine) : x.bk = x.text.size + (0) := rfl
theorem w_szLine_law (x : TLine) (hf : DOkL x.c) : ∀ left : Int, 0 ≤ left → left ≤ 1048576 → w_szLine x left = some (szR (x.bk) left) := by
  have hf' := hf; rw [TLine.c_eq] at hf'; simp only [DOkL] at hf'; obtain ⟨f0, f1, f2, _⟩ := hf'
  intro left l0 l1
  rw [TLine.bk_eq]
  unfold w_szLine
  rcases sz_cut (b := x.text.size) l0 l1 (DOk_str f2) with ⟨z0, e0, g0, q0, p0, r0⟩ | ⟨g0, q0⟩
  rotate_left
  · rw [if_pos g0]; exact szR_neg (by omega)
  rw [e0, if_neg g0]
  exact szR_pos p0 (by omega)
theorem w_toLine_law (x : TLine) (hb : x.bk ≤ 1048576) : w_toLine x = some x := by
  unfold w_toLine
  all_goals (first | rfl | (cases x; rfl))
theorem w_eqLine_law (x : TLine) (hb : x.bk ≤ 1048576) : w_eqLine x x = some true := by
  unfold w_eqLine
  simp []
theorem w_szLineS_law (xs : List TLine) (hf : DOk (.sl (xs.map TLine.c))) : Ev fun k => ∀ left : Int, 0 ≤ left → left ≤ 1048576 → w_szLineS k xs left = some (szR (bkS TLine.bk xs) left) := by
  have hx : ∀ x ∈ xs, ∀ left : Int, 0 ≤ left → left ≤ 1048576 → w_szLine x left = some (szR (TLine.bk x) left) := fun x hm => w_szLine_law x ((DOk_sl hf).2 x hm)
  refine (Ev.ge (xs.length + 1)).mono fun k hk => ?_
  intro left l0 l1
  unfold w_szLineS
  refine sz_slice TLine.bk xs (w_szLine) (w_szLineS_u1 xs) k (fun x hm l p q => ?_) (fun n l i => by rw [w_szLineS_u1]) (by omega) (DOk_sl hf).1 left l0 l1
  rw [hx x hm l p q, Option.bind_some]; have := sz_then (b := TLine.bk x) (b2 := 0) (F := fun z => some z) p fun z pz _ => szR_end pz; exact this
theorem w_toLineS_law (xs : List TLine) (hb : bkS TLine.bk xs ≤ 1048576) : Ev fun k => w_toLineS k xs = some xs := by
  have hx : ∀ x ∈ xs, w_toLine x = some x := fun x hm => w_toLine_law x (by have := bkS_get (f := TLine.bk) hm; omega)
  refine (Ev.ge (xs.length + 1)).mono fun k hk => ?_
  unfold w_toLineS
  exact to_slice _ (by omega) _ xs (w_toLine) (w_toLineS_u1 xs) k (fun x hm => hx x hm) (fun n out i => by rw [w_toLineS_u1]) (by omega) (by have := bkS_len (f := TLine.bk) (xs := xs); omega)
theorem w_eqLineS_law (xs : List TLine) (hb : bkS TLine.bk xs ≤ 1048576) : Ev fun k => w_eqLineS k xs xs = some true := by
  have hx : ∀ x ∈ xs, w_eqLine x x = some true := fun x hm => w_eqLine_law x (by have := bkS_get (f := TLine.bk) hm; omega)
  refine (Ev.ge (xs.length + 1)).mono fun k hk => ?_
  unfold w_eqLineS
  exact eq_slice xs (w_eqLine) (w_eqLineS_u1 xs xs) k (fun x hm => hx x hm) (fun n i => by rw [w_eqLineS_u1]) (by omega) (by have := bkS_len (f := TLine.bk) (xs := xs); omega)
-- Mark
theorem w_toMark_law (x : TMark) : w_toMark x = some x := by
  unfold w_toMark
  all_goals (first | rfl | (cases x; rfl))
theorem w_eqMark_law (x : TMark) : w_eqMark x x = some true := by
  unfold w_eqMark
  simp []
theorem w_szMarkS_law (xs : List TMark) (hf : DOk (.sl (xs.map TMark.c))) : ∀ left : Int, 0 ≤ left → left ≤ 1048576 → w_szMarkS xs left = some (szR (bkS (fun _ => 0) xs) left) := by
  intro left l0 l1
  unfold w_szMarkS
  have := sz_off (b := xs.length) (b2 := 0) (F := fun z => some z) l0 l1 (DOk_sl hf).1 fun x p _ => szR_end p
  have e : bkS (fun _ => 0) xs = xs.length + 0 := bkS_0 xs
  rw [e]; exact this
theorem w_toMarkS_law (xs : List TMark) (hb : bkS (fun _ => 0) xs ≤ 1048576) : Ev fun k => w_toMarkS k xs = some xs := by
  have hx : ∀ x ∈ xs, w_toMark x = some x := fun x hm => w_toMark_law x
  refine (Ev.ge (xs.length + 1)).mono fun k hk => ?_
  unfold w_toMarkS
  exact to_slice _ (by omega) _ xs (w_toMark) (w_toMarkS_u1 xs) k (fun x hm => hx x hm) (fun n out i => by rw [w_toMarkS_u1]) (by omega) (by have := bkS_len (f := (fun _ => 0)) (xs := xs); omega)
theorem w_eqMarkS_law (xs : List TMark) (hb : bkS (fun _ => 0) xs ≤ 1048576) : Ev fun k => w_eqMarkS k xs xs = some true := by
  have hx : ∀ x ∈ xs, w_eqMark x x = some true := fun x hm => w_eqMark_law x
  refine (Ev.ge (xs.length + 1)).mono fun k hk => ?_
  unfold w_eqMarkS
  exact eq_slice xs (w_eqMark) (w_eqMarkS_u1 xs xs) k (fun x hm => hx x hm) (fun n i => by rw [w_eqMarkS_u1]) (by omega) (by have := bkS_len (f := (fun _ => 0)) (xs := xs); omega)
-- Scene
def TScene.bk (x : TScene) : Nat := bkS (fun _ => 0) x.marks + (0)
theorem TScene.bk_eq (x : TScene) : x.bk = bkS (fun _ => 0) x.marks + (0) := rfl
theorem w_szScene_law (x : TScene) (hf : DOkL x.c) : ∀ left : Int, 0 ≤ left → left ≤ 1048576 → w_szScene x left = some (szR (x.bk) left) := by
  have hf' := hf; rw [TScene.c_eq] at hf'; simp only [DOkL] at hf'; obtain ⟨f0, f1, f2, _⟩ := hf'
  have h0 := w_szMarkS_law x.marks f2
  intro left l0 l1
  rw [TScene.bk_eq]
  unfold w_szScene
  rw [h0 left l0 l1, Option.bind_some]
  rcases szR_cut (b := bkS (fun _ => 0) x.marks) l1 with ⟨z0, e0, g0, q0, p0, r0⟩ | ⟨e0, q0⟩
  rotate_left
  · rw [e0, if_pos (by decide)]; exact szR_neg (by omega)
  rw [e0, if_neg g0]
  exact szR_pos p0 (by omega)
theorem w_toScene_law (x : TScene) (hb : x.bk ≤ 1048576) : Ev fun k => w_toScene k x = some x := by
  refine (w_toMarkS_law x.marks (by have := TScene.bk_eq x; omega)).mono ?_
  rintro k h0
  unfold w_toScene
  rw [h0, Option.bind_some]
  all_goals (first | rfl | (cases x; rfl))
theorem w_eqScene_law (x : TScene) (hb : x.bk ≤ 1048576) : Ev fun k => w_eqScene k x x = some true := by
  refine (w_eqMarkS_law x.marks (by have := TScene.bk_eq x; omega)).mono ?_
  rintro k h0
  unfold w_eqScene
  simp [h0]
-- Change
def TChange.bk (x : TChange) : Nat := TLine.bk x.line + (0)
theorem TChange.bk_eq (x : TChange) : x.bk = TLine.bk x.line + (0) := rfl
theorem w_szChange_law (x : TChange) (hf : DOkL x.c) : ∀ left : Int, 0 ≤ left → left ≤ 1048576 → w_szChange x left = some (szR (x.bk) left) := by
  have hf' := hf; rw [TChange.c_eq] at hf'; simp only [DOkL] at hf'; obtain ⟨f0, f1, f2, f3, _⟩ := hf'
  have h0 := w_szLine_law x.line (by rw [TLine.c_eq]; exact ⟨f1, f2, f3, trivial⟩)
  intro left l0 l1
  rw [TChange.bk_eq]
  unfold w_szChange
  rw [h0 left l0 l1, Option.bind_some]
  rcases szR_cut (b := TLine.bk x.line) l1 with ⟨z0, e0, g0, q0, p0, r0⟩ | ⟨e0, q0⟩
  rotate_left
  · rw [e0, if_pos (by decide)]; exact szR_neg (by omega)
  rw [e0, if_neg g0]
  exact szR_pos p0 (by omega)
theorem w_toChange_law (x : TChange) (hb : x.bk ≤ 1048576) : w_toChange x = some x := by
  have h0 := w_toLine_law x.line (by have := TChange.bk_eq x; omega)
  unfold w_toChange
  rw [h0, Option.bind_some]
  all_goals (first | rfl | (cases x; rfl))
theorem w_eqChange_law (x : TChange) (hb : x.bk ≤ 1048576) : w_eqChange x x = some true := by
  have h0 := w_eqLine_law x.line (by have := TChange.bk_eq x; omega)
  unfold w_eqChange
  simp [h0]
theorem w_szChangeS_law (xs : List TChange) (hf : DOk (.sl (xs.map TChange.c))) : Ev fun k => ∀ left : Int, 0 ≤ left → left ≤ 1048576 → w_szChangeS k xs left = some (szR (bkS TChange.bk xs) left) := by
  have hx : ∀ x ∈ xs, ∀ left : Int, 0 ≤ left → left ≤ 1048576 → w_szChange x left = some (szR (TChange.bk x) left) := fun x hm => w_szChange_law x ((DOk_sl hf).2 x hm)
  refine (Ev.ge (xs.length + 1)).mono fun k hk => ?_
  intro left l0 l1
  unfold w_szChangeS
  refine sz_slice TChange.bk xs (w_szChange) (w_szChangeS_u1 xs) k (fun x hm l p q => ?_) (fun n l i => by rw [w_szChangeS_u1]) (by omega) (DOk_sl hf).1 left l0 l1
  rw [hx x hm l p q, Option.bind_some]; have := sz_then (b := TChange.bk x) (b2 := 0) (F := fun z => some z) p fun z pz _ => szR_end pz; exact this
theorem w_toChangeS_law (xs : List TChange) (hb : bkS TChange.bk xs ≤ 1048576) : Ev fun k => w_toChangeS k xs = some xs := by
  have hx : ∀ x ∈ xs, w_toChange x = some x := fun x hm => w_toChange_law x (by have := bkS_get (f := TChange.bk) hm; omega)
  refine (Ev.ge (xs.length + 1)).mono fun k hk => ?_
  unfold w_toChangeS
  exact to_slice _ (by omega) _ xs (w_toChange) (w_toChangeS_u1 xs) k (fun x hm => hx x hm) (fun n out i => by rw [w_toChangeS_u1]) (by omega) (by have := bkS_len (f := TChange.bk) (xs := xs); omega)
theorem w_eqChangeS_law (xs : List TChange) (hb : bkS TChange.bk xs ≤ 1048576) : Ev fun k => w_eqChangeS k xs xs = some true := by
  have hx : ∀ x ∈ xs, w_eqChange x x = some true := fun x hm => w_eqChange_law x (by have := bkS_get (f := TChange.bk) hm; omega)
  refine (Ev.ge (xs.length + 1)).mono fun k hk => ?_
  unfold w_eqChangeS
  exact eq_slice xs (w_eqChange) (w_eqChangeS_u1 xs xs) k (fun x hm => hx x hm) (fun n i => by rw [w_eqChangeS_u1]) (by omega) (by have := bkS_len (f := TChange.bk) (xs := xs); omega)
-- Diff
def TDiff.bk (x : TDiff) : Nat := bkS TChange.bk x.changes + (0)
theorem TDiff.bk_eq (x : TDiff) : x.bk = bkS TChange.bk x.changes + (0) := rfl
theorem w_szDiff_law (x : TDiff) (hf : DOkL x.c) : Ev fun k => ∀ left : Int, 0 ≤ left → left ≤ 1048576 → w_szDiff k x left = some (szR (x.bk) left) := by
  have hf' := hf; rw [TDiff.c_eq] at hf'; simp only [DOkL] at hf'; obtain ⟨f0, f1, _⟩ := hf'
  refine (w_szChangeS_law x.changes f1).mono ?_
  rintro k h0
  intro left l0 l1
  rw [TDiff.bk_eq]
  unfold w_szDiff
  rw [h0 left l0 l1, Option.bind_some]
  rcases szR_cut (b := bkS TChange.bk x.changes) l1 with ⟨z0, e0, g0, q0, p0, r0⟩ | ⟨e0, q0⟩
  rotate_left
  · rw [e0, if_pos (by decide)]; exact szR_neg (by omega)
  rw [e0, if_neg g0]
  exact szR_pos p0 (by omega)
theorem w_toDiff_law (x : TDiff) (hb : x.bk ≤ 1048576) : Ev fun k => w_toDiff k x = some x := by
  refine (w_toChangeS_law x.changes (by have := TDiff.bk_eq x; omega)).mono ?_
  rintro k h0
  unfold w_toDiff
  rw [h0, Option.bind_some]
  all_goals (first | rfl | (cases x; rfl))
theorem w_eqDiff_law (x : TDiff) (hb : x.bk ≤ 1048576) : Ev fun k => w_eqDiff k x x = some true := by
  refine (w_eqChangeS_law x.changes (by have := TDiff.bk_eq x; omega)).mono ?_
  rintro k h0
  unfold w_eqDiff
  simp [h0]
theorem w_szIntS_law (xs : List Int) (hf : DOk (.sl (xs.map iC))) : ∀ left : Int, 0 ≤ left → left ≤ 1048576 → w_szIntS xs left = some (szR (bkS (fun _ => 0) xs) left) := by
  intro left l0 l1
  unfold w_szIntS
  have := sz_off (b := xs.length) (b2 := 0) (F := fun z => some z) l0 l1 (DOk_sl hf).1 fun x p _ => szR_end p
  have e : bkS (fun _ => 0) xs = xs.length + 0 := bkS_0 xs
  rw [e]; exact this
theorem w_toIntS_law (xs : List Int) (hb : bkS (fun _ => 0) xs ≤ 1048576) : Ev fun k => w_toIntS k xs = some xs := by
  refine (Ev.ge (xs.length + 1)).mono fun k hk => ?_
  unfold w_toIntS
  exact to_slice _ (by omega) _ xs (fun x => some x) (w_toIntS_u1 xs) k (fun x hm => rfl) (fun n out i => by rw [w_toIntS_u1]; rfl) (by omega) (by have := bkS_len (f := (fun _ => 0)) (xs := xs); omega)
theorem w_eqIntS_law (xs : List Int) (hb : bkS (fun _ => 0) xs ≤ 1048576) : Ev fun k => w_eqIntS k xs xs = some true := by
  refine (Ev.ge (xs.length + 1)).mono fun k hk => ?_
  unfold w_eqIntS
  exact eq_slice xs (fun x y => some (decide (x = y))) (w_eqIntS_u1 xs xs) k (fun x hm => by simp) (fun n i => by rw [w_eqIntS_u1]; rfl) (by omega) (by have := bkS_len (f := (fun _ => 0)) (xs := xs); omega)
-- Cell
def TCell.bk (x : TCell) : Nat := x.name.size + (x.code.size + (0))
theorem TCell.bk_eq (x : TCell) : x.bk = x.name.size + (x.code.size + (0)) := rfl
theorem w_szCell_law (x : TCell) (hf : DOkL x.c) : ∀ left : Int, 0 ≤ left → left ≤ 1048576 → w_szCell x left = some (szR (x.bk) left) := by
  have hf' := hf; rw [TCell.c_eq] at hf'; simp only [DOkL] at hf'; obtain ⟨f0, f1, f2, f3, f4, f5, _⟩ := hf'
  intro left l0 l1
  rw [TCell.bk_eq]
  unfold w_szCell
  rcases sz_cut (b := x.name.size) l0 l1 (DOk_str f3) with ⟨z0, e0, g0, q0, p0, r0⟩ | ⟨g0, q0⟩
  rotate_left
  · rw [if_pos g0]; exact szR_neg (by omega)
  rw [e0, if_neg g0]
  rcases sz_cut (b := x.code.size) p0 r0 (DOk_str f4) with ⟨z1, e1, g1, q1, p1, r1⟩ | ⟨g1, q1⟩
  rotate_left
  · rw [if_pos g1]; exact szR_neg (by omega)
  rw [e1, if_neg g1]
  exact szR_pos p1 (by omega)
theorem w_toCell_law (x : TCell) (hb : x.bk ≤ 1048576) : w_toCell x = some x := by
  unfold w_toCell
  all_goals (first | rfl | (cases x; rfl))
theorem w_eqCell_law (x : TCell) (hb : x.bk ≤ 1048576) : w_eqCell x x = some true := by
  unfold w_eqCell
  simp []
theorem w_szCellS_law (xs : List TCell) (hf : DOk (.sl (xs.map TCell.c))) : Ev fun k => ∀ left : Int, 0 ≤ left → left ≤ 1048576 → w_szCellS k xs left = some (szR (bkS TCell.bk xs) left) := by
  have hx : ∀ x ∈ xs, ∀ left : Int, 0 ≤ left → left ≤ 1048576 → w_szCell x left = some (szR (TCell.bk x) left) := fun x hm => w_szCell_law x ((DOk_sl hf).2 x hm)
  refine (Ev.ge (xs.length + 1)).mono fun k hk => ?_
  intro left l0 l1
  unfold w_szCellS
  refine sz_slice TCell.bk xs (w_szCell) (w_szCellS_u1 xs) k (fun x hm l p q => ?_) (fun n l i => by rw [w_szCellS_u1]) (by omega) (DOk_sl hf).1 left l0 l1
  rw [hx x hm l p q, Option.bind_some]; have := sz_then (b := TCell.bk x) (b2 := 0) (F := fun z => some z) p fun z pz _ => szR_end pz; exact this
theorem w_toCellS_law (xs : List TCell) (hb : bkS TCell.bk xs ≤ 1048576) : Ev fun k => w_toCellS k xs = some xs := by
  have hx : ∀ x ∈ xs, w_toCell x = some x := fun x hm => w_toCell_law x (by have := bkS_get (f := TCell.bk) hm; omega)
  refine (Ev.ge (xs.length + 1)).mono fun k hk => ?_
  unfold w_toCellS
  exact to_slice _ (by omega) _ xs (w_toCell) (w_toCellS_u1 xs) k (fun x hm => hx x hm) (fun n out i => by rw [w_toCellS_u1]) (by omega) (by have := bkS_len (f := TCell.bk) (xs := xs); omega)
theorem w_eqCellS_law (xs : List TCell) (hb : bkS TCell.bk xs ≤ 1048576) : Ev fun k => w_eqCellS k xs xs = some true := by
  have hx : ∀ x ∈ xs, w_eqCell x x = some true := fun x hm => w_eqCell_law x (by have := bkS_get (f := TCell.bk) hm; omega)
  refine (Ev.ge (xs.length + 1)).mono fun k hk => ?_
  unfold w_eqCellS
  exact eq_slice xs (w_eqCell) (w_eqCellS_u1 xs xs) k (fun x hm => hx x hm) (fun n i => by rw [w_eqCellS_u1]) (by omega) (by have := bkS_len (f := TCell.bk) (xs := xs); omega)
-- Notebook
def TNotebook.bk (x : TNotebook) : Nat := bkS TCell.bk x.cells + (0)
theorem TNotebook.bk_eq (x : TNotebook) : x.bk = bkS TCell.bk x.cells + (0) := rfl
theorem w_szNotebook_law (x : TNotebook) (hf : DOkL x.c) : Ev fun k => ∀ left : Int, 0 ≤ left → left ≤ 1048576 → w_szNotebook k x left = some (szR (x.bk) left) := by
  have hf' := hf; rw [TNotebook.c_eq] at hf'; simp only [DOkL] at hf'; obtain ⟨f0, _⟩ := hf'
  refine (w_szCellS_law x.cells f0).mono ?_
  rintro k h0
  intro left l0 l1
  rw [TNotebook.bk_eq]
  unfold w_szNotebook
  rw [h0 left l0 l1, Option.bind_some]
  rcases szR_cut (b := bkS TCell.bk x.cells) l1 with ⟨z0, e0, g0, q0, p0, r0⟩ | ⟨e0, q0⟩
  rotate_left
  · rw [e0, if_pos (by decide)]; exact szR_neg (by omega)
  rw [e0, if_neg g0]
  exact szR_pos p0 (by omega)
theorem w_toNotebook_law (x : TNotebook) (hb : x.bk ≤ 1048576) : Ev fun k => w_toNotebook k x = some x := by
  refine (w_toCellS_law x.cells (by have := TNotebook.bk_eq x; omega)).mono ?_
  rintro k h0
  unfold w_toNotebook
  rw [h0, Option.bind_some]
  all_goals (first | rfl | (cases x; rfl))
theorem w_eqNotebook_law (x : TNotebook) (hb : x.bk ≤ 1048576) : Ev fun k => w_eqNotebook k x x = some true := by
  refine (w_eqCellS_law x.cells (by have := TNotebook.bk_eq x; omega)).mono ?_
  rintro k h0
  unfold w_eqNotebook
  simp [h0]
theorem w_szStringS_law (xs : List ByteArray) (hf : DOk (.sl (xs.map sC))) : Ev fun k => ∀ left : Int, 0 ≤ left → left ≤ 1048576 → w_szStringS k xs left = some (szR (bkS ByteArray.size xs) left) := by
  refine (Ev.ge (xs.length + 1)).mono fun k hk => ?_
  intro left l0 l1
  unfold w_szStringS
  refine sz_slice ByteArray.size xs (fun x l => some (IntKind.i64.wrap (l - (x.size : Int)))) (w_szStringS_u1 xs) k (fun x hm l p q => ?_) (fun n l i => by rw [w_szStringS_u1]; rfl) (by omega) (DOk_sl hf).1 left l0 l1
  have := sz_off (b := x.size) (b2 := 0) (F := fun z => some z) p q (DOk_str ((DOk_sl hf).2 x hm).1) fun z pz _ => szR_end pz; exact this
theorem w_toStringS_law (xs : List ByteArray) (hb : bkS ByteArray.size xs ≤ 1048576) : Ev fun k => w_toStringS k xs = some xs := by
  refine (Ev.ge (xs.length + 1)).mono fun k hk => ?_
  unfold w_toStringS
  exact to_slice _ (by omega) _ xs (fun x => some x) (w_toStringS_u1 xs) k (fun x hm => rfl) (fun n out i => by rw [w_toStringS_u1]; rfl) (by omega) (by have := bkS_len (f := ByteArray.size) (xs := xs); omega)
theorem w_eqStringS_law (xs : List ByteArray) (hb : bkS ByteArray.size xs ≤ 1048576) : Ev fun k => w_eqStringS k xs xs = some true := by
  refine (Ev.ge (xs.length + 1)).mono fun k hk => ?_
  unfold w_eqStringS
  exact eq_slice xs (fun x y => some (decide (x = y))) (w_eqStringS_u1 xs xs) k (fun x hm => by simp) (fun n i => by rw [w_eqStringS_u1]; rfl) (by omega) (by have := bkS_len (f := ByteArray.size) (xs := xs); omega)
-- Origin
theorem w_toOrigin_law (x : TOrigin) : w_toOrigin x = some x := by
  unfold w_toOrigin
  all_goals (first | rfl | (cases x; rfl))
theorem w_eqOrigin_law (x : TOrigin) : w_eqOrigin x x = some true := by
  unfold w_eqOrigin
  simp []
theorem w_szOriginS_law (xs : List TOrigin) (hf : DOk (.sl (xs.map TOrigin.c))) : ∀ left : Int, 0 ≤ left → left ≤ 1048576 → w_szOriginS xs left = some (szR (bkS (fun _ => 0) xs) left) := by
  intro left l0 l1
  unfold w_szOriginS
  have := sz_off (b := xs.length) (b2 := 0) (F := fun z => some z) l0 l1 (DOk_sl hf).1 fun x p _ => szR_end p
  have e : bkS (fun _ => 0) xs = xs.length + 0 := bkS_0 xs
  rw [e]; exact this
theorem w_toOriginS_law (xs : List TOrigin) (hb : bkS (fun _ => 0) xs ≤ 1048576) : Ev fun k => w_toOriginS k xs = some xs := by
  have hx : ∀ x ∈ xs, w_toOrigin x = some x := fun x hm => w_toOrigin_law x
  refine (Ev.ge (xs.length + 1)).mono fun k hk => ?_
  unfold w_toOriginS
  exact to_slice _ (by omega) _ xs (w_toOrigin) (w_toOriginS_u1 xs) k (fun x hm => hx x hm) (fun n out i => by rw [w_toOriginS_u1]) (by omega) (by have := bkS_len (f := (fun _ => 0)) (xs := xs); omega)
theorem w_eqOriginS_law (xs : List TOrigin) (hb : bkS (fun _ => 0) xs ≤ 1048576) : Ev fun k => w_eqOriginS k xs xs = some true := by
  have hx : ∀ x ∈ xs, w_eqOrigin x x = some true := fun x hm => w_eqOrigin_law x
  refine (Ev.ge (xs.length + 1)).mono fun k hk => ?_
  unfold w_eqOriginS
  exact eq_slice xs (w_eqOrigin) (w_eqOriginS_u1 xs xs) k (fun x hm => hx x hm) (fun n i => by rw [w_eqOriginS_u1]) (by omega) (by have := bkS_len (f := (fun _ => 0)) (xs := xs); omega)
-- Row
def TRow.bk (x : TRow) : Nat := bkS (fun _ => 0) x.cells + (bkS (fun _ => 0) x.from_ + (0))
theorem TRow.bk_eq (x : TRow) : x.bk = bkS (fun _ => 0) x.cells + (bkS (fun _ => 0) x.from_ + (0)) := rfl
theorem w_szRow_law (x : TRow) (hf : DOkL x.c) : ∀ left : Int, 0 ≤ left → left ≤ 1048576 → w_szRow x left = some (szR (x.bk) left) := by
  have hf' := hf; rw [TRow.c_eq] at hf'; simp only [DOkL] at hf'; obtain ⟨f0, f1, _⟩ := hf'
  have h0 := w_szIntS_law x.cells f0
  have h1 := w_szOriginS_law x.from_ f1
  intro left l0 l1
  rw [TRow.bk_eq]
  unfold w_szRow
  rw [h0 left l0 l1, Option.bind_some]
  rcases szR_cut (b := bkS (fun _ => 0) x.cells) l1 with ⟨z0, e0, g0, q0, p0, r0⟩ | ⟨e0, q0⟩
  rotate_left
  · rw [e0, if_pos (by decide)]; exact szR_neg (by omega)
  rw [e0, if_neg g0]
  rw [h1 z0 p0 r0, Option.bind_some]
  rcases szR_cut (b := bkS (fun _ => 0) x.from_) r0 with ⟨z1, e1, g1, q1, p1, r1⟩ | ⟨e1, q1⟩
  rotate_left
  · rw [e1, if_pos (by decide)]; exact szR_neg (by omega)
  rw [e1, if_neg g1]
  exact szR_pos p1 (by omega)
theorem w_toRow_law (x : TRow) (hb : x.bk ≤ 1048576) : Ev fun k => w_toRow k x = some x := by
  refine ((w_toIntS_law x.cells (by have := TRow.bk_eq x; omega)).and (w_toOriginS_law x.from_ (by have := TRow.bk_eq x; omega))).mono ?_
  rintro k ⟨h0, h1⟩
  unfold w_toRow
  rw [h0, Option.bind_some]
  rw [h1, Option.bind_some]
  all_goals (first | rfl | (cases x; rfl))
theorem w_eqRow_law (x : TRow) (hb : x.bk ≤ 1048576) : Ev fun k => w_eqRow k x x = some true := by
  refine ((w_eqIntS_law x.cells (by have := TRow.bk_eq x; omega)).and (w_eqOriginS_law x.from_ (by have := TRow.bk_eq x; omega))).mono ?_
  rintro k ⟨h0, h1⟩
  unfold w_eqRow
  simp [h0, h1]
theorem w_szRowS_law (xs : List TRow) (hf : DOk (.sl (xs.map TRow.c))) : Ev fun k => ∀ left : Int, 0 ≤ left → left ≤ 1048576 → w_szRowS k xs left = some (szR (bkS TRow.bk xs) left) := by
  have hx : ∀ x ∈ xs, ∀ left : Int, 0 ≤ left → left ≤ 1048576 → w_szRow x left = some (szR (TRow.bk x) left) := fun x hm => w_szRow_law x ((DOk_sl hf).2 x hm)
  refine (Ev.ge (xs.length + 1)).mono fun k hk => ?_
  intro left l0 l1
  unfold w_szRowS
  refine sz_slice TRow.bk xs (w_szRow) (w_szRowS_u1 xs) k (fun x hm l p q => ?_) (fun n l i => by rw [w_szRowS_u1]) (by omega) (DOk_sl hf).1 left l0 l1
  rw [hx x hm l p q, Option.bind_some]; have := sz_then (b := TRow.bk x) (b2 := 0) (F := fun z => some z) p fun z pz _ => szR_end pz; exact this
theorem w_toRowS_law (xs : List TRow) (hb : bkS TRow.bk xs ≤ 1048576) : Ev fun k => w_toRowS k xs = some xs := by
  refine ((Ev.all xs fun x hm => w_toRow_law x (by have := bkS_get (f := TRow.bk) hm; omega)).and (Ev.ge (xs.length + 1))).mono ?_
  rintro k ⟨hx, hk⟩
  unfold w_toRowS
  exact to_slice _ (by omega) _ xs (w_toRow k) (w_toRowS_u1 k xs) k (fun x hm => hx x hm) (fun n out i => by rw [w_toRowS_u1]) (by omega) (by have := bkS_len (f := TRow.bk) (xs := xs); omega)
theorem w_eqRowS_law (xs : List TRow) (hb : bkS TRow.bk xs ≤ 1048576) : Ev fun k => w_eqRowS k xs xs = some true := by
  refine ((Ev.all xs fun x hm => w_eqRow_law x (by have := bkS_get (f := TRow.bk) hm; omega)).and (Ev.ge (xs.length + 1))).mono ?_
  rintro k ⟨hx, hk⟩
  unfold w_eqRowS
  exact eq_slice xs (w_eqRow k) (w_eqRowS_u1 k xs xs) k (fun x hm => hx x hm) (fun n i => by rw [w_eqRowS_u1]) (by omega) (by have := bkS_len (f := TRow.bk) (xs := xs); omega)
-- Value
mutual
def TValue.bk : TValue → Nat
  | ⟨kind, n, step, text, list, columns, rows⟩ => text.size + ((list.length + TValue.bks list) + (bkS ByteArray.size columns + (bkS TRow.bk rows + (0))))
def TValue.bks : List TValue → Nat
  | [] => 0
  | x :: xs => TValue.bk x + TValue.bks xs
end
theorem TValue.bks_eq : ∀ xs : List TValue, TValue.bks xs = sumBk TValue.bk xs
  | [] => rfl
  | x :: xs => by rw [TValue.bks, TValue.bks_eq xs]; rfl
theorem TValue.bk_eq (x : TValue) : x.bk = x.text.size + (bkS TValue.bk x.list + (bkS ByteArray.size x.columns + (bkS TRow.bk x.rows + (0)))) := by
  cases x; simp only [TValue.bk, TValue.bks_eq, bkS]
theorem TValue.ind {p : TValue → Prop} (h : ∀ x, (∀ y ∈ x.list, p y) → p x) : ∀ x, p x
  | ⟨kind, n, step, text, list, columns, rows⟩ => h _ fun y hy => TValue.ind h y
termination_by x => SizeOf.sizeOf x
decreasing_by
  have := List.sizeOf_lt_of_mem hy
  simp at this ⊢; omega
theorem w_szValueS_ind (xs : List TValue) (hf : DOk (.sl (xs.map TValue.c))) (ih : ∀ x ∈ xs, Ev fun k => ∀ left : Int, 0 ≤ left → left ≤ 1048576 → w_szValue k x left = some (szR (TValue.bk x) left)) : Ev fun k => ∀ left : Int, 0 ≤ left → left ≤ 1048576 → w_szValueS k xs left = some (szR (bkS TValue.bk xs) left) := by
  refine ((Ev.all xs ih).and (Ev.ge (xs.length + 1))).pred ?_
  rintro k ⟨hx, hk⟩
  intro left l0 l1
  rw [w_szValueS]
  refine sz_slice TValue.bk xs (w_szValue k) (w_szValueS_u1 (w_szValue k) xs) k (fun x hm l p q => ?_) (fun n l i => by rw [w_szValueS_u1]) (by omega) (DOk_sl hf).1 left l0 l1
  rw [hx x hm l p q, Option.bind_some]; have := sz_then (b := TValue.bk x) (b2 := 0) (F := fun z => some z) p fun z pz _ => szR_end pz; exact this
theorem w_toValueS_ind (xs : List TValue) (hb : bkS TValue.bk xs ≤ 1048576) (ih : ∀ x ∈ xs, Ev fun k => w_toValue k x = some x) : Ev fun k => w_toValueS k xs = some xs := by
  refine ((Ev.all xs ih).and (Ev.ge (xs.length + 1))).pred ?_
  rintro k ⟨hx, hk⟩
  rw [w_toValueS]
  exact to_slice _ (by omega) _ xs (w_toValue k) (w_toValueS_u1 (w_toValue k) xs) k (fun x hm => hx x hm) (fun n out i => by rw [w_toValueS_u1]) (by omega) (by have := bkS_len (f := TValue.bk) (xs := xs); omega)
theorem w_eqValueS_ind (xs : List TValue) (hb : bkS TValue.bk xs ≤ 1048576) (ih : ∀ x ∈ xs, Ev fun k => w_eqValue k x x = some true) : Ev fun k => w_eqValueS k xs xs = some true := by
  refine ((Ev.all xs ih).and (Ev.ge (xs.length + 1))).pred ?_
  rintro k ⟨hx, hk⟩
  rw [w_eqValueS]
  exact eq_slice xs (w_eqValue k) (w_eqValueS_u1 (w_eqValue k) xs xs) k (fun x hm => hx x hm) (fun n i => by rw [w_eqValueS_u1]) (by omega) (by have := bkS_len (f := TValue.bk) (xs := xs); omega)
theorem w_szValue_law (x : TValue) (hf : DOkL x.c) : Ev fun k => ∀ left : Int, 0 ≤ left → left ≤ 1048576 → w_szValue k x left = some (szR (x.bk) left) := by
  revert hf
  refine TValue.ind (p := fun x => DOkL x.c → Ev fun k => ∀ left : Int, 0 ≤ left → left ≤ 1048576 → w_szValue k x left = some (szR (x.bk) left)) ?_ x; clear x
  intro x ih hf
  have hf' := hf; rw [TValue.c_eq] at hf'; simp only [DOkL] at hf'; obtain ⟨f0, f1, f2, f3, f4, f5, f6, _⟩ := hf'
  refine ((w_szValueS_ind x.list f4 fun y hy => ih y hy ((DOk_sl f4).2 y hy)).and ((w_szStringS_law x.columns f5).and (w_szRowS_law x.rows f6))).pred ?_
  rintro k ⟨h0, h1, h2⟩
  intro left l0 l1
  rw [TValue.bk_eq]
  rw [w_szValue]
  rcases sz_cut (b := x.text.size) l0 l1 (DOk_str f3) with ⟨z0, e0, g0, q0, p0, r0⟩ | ⟨g0, q0⟩
  rotate_left
  · rw [if_pos g0]; exact szR_neg (by omega)
  rw [e0, if_neg g0]
  rw [h0 z0 p0 r0, Option.bind_some]
  rcases szR_cut (b := bkS TValue.bk x.list) r0 with ⟨z1, e1, g1, q1, p1, r1⟩ | ⟨e1, q1⟩
  rotate_left
  · rw [e1, if_pos (by decide)]; exact szR_neg (by omega)
  rw [e1, if_neg g1]
  rw [h1 z1 p1 r1, Option.bind_some]
  rcases szR_cut (b := bkS ByteArray.size x.columns) r1 with ⟨z2, e2, g2, q2, p2, r2⟩ | ⟨e2, q2⟩
  rotate_left
  · rw [e2, if_pos (by decide)]; exact szR_neg (by omega)
  rw [e2, if_neg g2]
  rw [h2 z2 p2 r2, Option.bind_some]
  rcases szR_cut (b := bkS TRow.bk x.rows) r2 with ⟨z3, e3, g3, q3, p3, r3⟩ | ⟨e3, q3⟩
  rotate_left
  · rw [e3, if_pos (by decide)]; exact szR_neg (by omega)
  rw [e3, if_neg g3]
  exact szR_pos p3 (by omega)
theorem w_toValue_law (x : TValue) (hb : x.bk ≤ 1048576) : Ev fun k => w_toValue k x = some x := by
  revert hb
  refine TValue.ind (p := fun x => x.bk ≤ 1048576 → Ev fun k => w_toValue k x = some x) ?_ x; clear x
  intro x ih hb
  refine ((w_toValueS_ind x.list (by have := TValue.bk_eq x; omega) fun y hy => ih y hy (by have := bkS_get (f := TValue.bk) hy; have := TValue.bk_eq x; omega)).and ((w_toStringS_law x.columns (by have := TValue.bk_eq x; omega)).and (w_toRowS_law x.rows (by have := TValue.bk_eq x; omega)))).pred ?_
  rintro k ⟨h0, h1, h2⟩
  rw [w_toValue]
  rw [h0, Option.bind_some]
  rw [h1, Option.bind_some]
  rw [h2, Option.bind_some]
  all_goals (first | rfl | (cases x; rfl))
theorem w_eqValue_law (x : TValue) (hb : x.bk ≤ 1048576) : Ev fun k => w_eqValue k x x = some true := by
  revert hb
  refine TValue.ind (p := fun x => x.bk ≤ 1048576 → Ev fun k => w_eqValue k x x = some true) ?_ x; clear x
  intro x ih hb
  refine ((w_eqValueS_ind x.list (by have := TValue.bk_eq x; omega) fun y hy => ih y hy (by have := bkS_get (f := TValue.bk) hy; have := TValue.bk_eq x; omega)).and ((w_eqStringS_law x.columns (by have := TValue.bk_eq x; omega)).and (w_eqRowS_law x.rows (by have := TValue.bk_eq x; omega)))).pred ?_
  rintro k ⟨h0, h1, h2⟩
  rw [w_eqValue]
  simp [h0, h1, h2]
-- Expr
mutual
def TExpr.bk : TExpr → Nat
  | ⟨kind, n, text, args⟩ => text.size + ((args.length + TExpr.bks args) + (0))
def TExpr.bks : List TExpr → Nat
  | [] => 0
  | x :: xs => TExpr.bk x + TExpr.bks xs
end
theorem TExpr.bks_eq : ∀ xs : List TExpr, TExpr.bks xs = sumBk TExpr.bk xs
  | [] => rfl
  | x :: xs => by rw [TExpr.bks, TExpr.bks_eq xs]; rfl
theorem TExpr.bk_eq (x : TExpr) : x.bk = x.text.size + (bkS TExpr.bk x.args + (0)) := by
  cases x; simp only [TExpr.bk, TExpr.bks_eq, bkS]
theorem TExpr.ind {p : TExpr → Prop} (h : ∀ x, (∀ y ∈ x.args, p y) → p x) : ∀ x, p x
  | ⟨kind, n, text, args⟩ => h _ fun y hy => TExpr.ind h y
termination_by x => SizeOf.sizeOf x
decreasing_by
  have := List.sizeOf_lt_of_mem hy
  simp at this ⊢; omega
theorem w_szExprS_ind (xs : List TExpr) (hf : DOk (.sl (xs.map TExpr.c))) (ih : ∀ x ∈ xs, Ev fun k => ∀ left : Int, 0 ≤ left → left ≤ 1048576 → w_szExpr k x left = some (szR (TExpr.bk x) left)) : Ev fun k => ∀ left : Int, 0 ≤ left → left ≤ 1048576 → w_szExprS k xs left = some (szR (bkS TExpr.bk xs) left) := by
  refine ((Ev.all xs ih).and (Ev.ge (xs.length + 1))).pred ?_
  rintro k ⟨hx, hk⟩
  intro left l0 l1
  rw [w_szExprS]
  refine sz_slice TExpr.bk xs (w_szExpr k) (w_szExprS_u1 (w_szExpr k) xs) k (fun x hm l p q => ?_) (fun n l i => by rw [w_szExprS_u1]) (by omega) (DOk_sl hf).1 left l0 l1
  rw [hx x hm l p q, Option.bind_some]; have := sz_then (b := TExpr.bk x) (b2 := 0) (F := fun z => some z) p fun z pz _ => szR_end pz; exact this
theorem w_toExprS_ind (xs : List TExpr) (hb : bkS TExpr.bk xs ≤ 1048576) (ih : ∀ x ∈ xs, Ev fun k => w_toExpr k x = some x) : Ev fun k => w_toExprS k xs = some xs := by
  refine ((Ev.all xs ih).and (Ev.ge (xs.length + 1))).pred ?_
  rintro k ⟨hx, hk⟩
  rw [w_toExprS]
  exact to_slice _ (by omega) _ xs (w_toExpr k) (w_toExprS_u1 (w_toExpr k) xs) k (fun x hm => hx x hm) (fun n out i => by rw [w_toExprS_u1]) (by omega) (by have := bkS_len (f := TExpr.bk) (xs := xs); omega)
theorem w_eqExprS_ind (xs : List TExpr) (hb : bkS TExpr.bk xs ≤ 1048576) (ih : ∀ x ∈ xs, Ev fun k => w_eqExpr k x x = some true) : Ev fun k => w_eqExprS k xs xs = some true := by
  refine ((Ev.all xs ih).and (Ev.ge (xs.length + 1))).pred ?_
  rintro k ⟨hx, hk⟩
  rw [w_eqExprS]
  exact eq_slice xs (w_eqExpr k) (w_eqExprS_u1 (w_eqExpr k) xs xs) k (fun x hm => hx x hm) (fun n i => by rw [w_eqExprS_u1]) (by omega) (by have := bkS_len (f := TExpr.bk) (xs := xs); omega)
theorem w_szExpr_law (x : TExpr) (hf : DOkL x.c) : Ev fun k => ∀ left : Int, 0 ≤ left → left ≤ 1048576 → w_szExpr k x left = some (szR (x.bk) left) := by
  revert hf
  refine TExpr.ind (p := fun x => DOkL x.c → Ev fun k => ∀ left : Int, 0 ≤ left → left ≤ 1048576 → w_szExpr k x left = some (szR (x.bk) left)) ?_ x; clear x
  intro x ih hf
  have hf' := hf; rw [TExpr.c_eq] at hf'; simp only [DOkL] at hf'; obtain ⟨f0, f1, f2, f3, _⟩ := hf'
  refine (w_szExprS_ind x.args f3 fun y hy => ih y hy ((DOk_sl f3).2 y hy)).pred ?_
  rintro k h0
  intro left l0 l1
  rw [TExpr.bk_eq]
  rw [w_szExpr]
  rcases sz_cut (b := x.text.size) l0 l1 (DOk_str f2) with ⟨z0, e0, g0, q0, p0, r0⟩ | ⟨g0, q0⟩
  rotate_left
  · rw [if_pos g0]; exact szR_neg (by omega)
  rw [e0, if_neg g0]
  rw [h0 z0 p0 r0, Option.bind_some]
  rcases szR_cut (b := bkS TExpr.bk x.args) r0 with ⟨z1, e1, g1, q1, p1, r1⟩ | ⟨e1, q1⟩
  rotate_left
  · rw [e1, if_pos (by decide)]; exact szR_neg (by omega)
  rw [e1, if_neg g1]
  exact szR_pos p1 (by omega)
theorem w_toExpr_law (x : TExpr) (hb : x.bk ≤ 1048576) : Ev fun k => w_toExpr k x = some x := by
  revert hb
  refine TExpr.ind (p := fun x => x.bk ≤ 1048576 → Ev fun k => w_toExpr k x = some x) ?_ x; clear x
  intro x ih hb
  refine (w_toExprS_ind x.args (by have := TExpr.bk_eq x; omega) fun y hy => ih y hy (by have := bkS_get (f := TExpr.bk) hy; have := TExpr.bk_eq x; omega)).pred ?_
  rintro k h0
  rw [w_toExpr]
  rw [h0, Option.bind_some]
  all_goals (first | rfl | (cases x; rfl))
theorem w_eqExpr_law (x : TExpr) (hb : x.bk ≤ 1048576) : Ev fun k => w_eqExpr k x x = some true := by
  revert hb
  refine TExpr.ind (p := fun x => x.bk ≤ 1048576 → Ev fun k => w_eqExpr k x x = some true) ?_ x; clear x
  intro x ih hb
  refine (w_eqExprS_ind x.args (by have := TExpr.bk_eq x; omega) fun y hy => ih y hy (by have := bkS_get (f := TExpr.bk) hy; have := TExpr.bk_eq x; omega)).pred ?_
  rintro k h0
  rw [w_eqExpr]
  simp [h0]
end Go.Proofs.Ytopjlbifglacpaa
