/- The laws' own functions: size counts, copies, comparisons. Written by a program of mine. -/
import Derived.Test.YtbknilpmpjjfpaaGreatPkC
import Derived.Test.YtbknilpmpjjfpaaGreatSx
import Derived.Test.YtbknilpmpjjfpaaGreatMdA0
import Derived.Test.YtbknilpmpjjfpaaGreatMdA1
import Derived.Test.YtbknilpmpjjfpaaGreatMdA2
import Derived.Test.YtbknilpmpjjfpaaGreatMdA3
import Derived.Test.YtbknilpmpjjfpaaGreatMdA4
set_option linter.unusedSimpArgs false
set_option linter.unusedVariables false
namespace Go.Proofs.YtbknilpmpjjfpaaGreat
open Go.RowKit Am
-- Cell
def TCell.bk (x : TCell) : Nat := x.name.size + (x.code.size + (0))
theorem TCell.bk_eq (x : TCell) : x.bk = x.name.size + (x.code.size + (0)) := rfl
theorem w_szCell_law (x : TCell) (hf : DOkL x.c) : ∀ left : Int, 0 ≤ left → left ≤ 1048576 → w_szCell x left = some (szR (x.bk) left) := by
  have hf' := hf; rw [TCell.c_eq] at hf'; simp only [DOkL] at hf'; obtain ⟨f0, f1, f2, f3, f4, f5, _⟩ := hf'
  intro left l0 l1
  rw [TCell.bk_eq]
  unfold w_szCell
  rcases sz_cut (b := x.name.size) l0 l1 (DOk_str f3) with ⟨z0, e0, g0, q0, p0, r0⟩ | ⟨g0, q0⟩
  rotate_left
  · rw [if_pos g0]; exact szR_neg (by omega)
  rw [e0, if_neg g0]
  rcases sz_cut (b := x.code.size) p0 r0 (DOk_str f4) with ⟨z1, e1, g1, q1, p1, r1⟩ | ⟨g1, q1⟩
  rotate_left
  · rw [if_pos g1]; exact szR_neg (by omega)
  rw [e1, if_neg g1]
  exact szR_pos p1 (by omega)
theorem w_toCell_law (x : TCell) (hb : x.bk ≤ 1048576) : w_toCell x = some x := by
  unfold w_toCell
  all_goals (first | rfl | (cases x; rfl))
theorem w_eqCell_law (x : TCell) (hb : x.bk ≤ 1073741824) : w_eqCell x x = some true := by
  unfold w_eqCell
  simp []
theorem w_szCellS_law (xs : List TCell) (hf : DOk (.sl (xs.map TCell.c))) : Ev fun k => ∀ left : Int, 0 ≤ left → left ≤ 1048576 → w_szCellS k xs left = some (szR (bkS TCell.bk xs) left) := by
  have hx : ∀ x ∈ xs, ∀ left : Int, 0 ≤ left → left ≤ 1048576 → w_szCell x left = some (szR (TCell.bk x) left) := fun x hm => w_szCell_law x ((DOk_sl hf).2 x hm)
  refine (Ev.ge (xs.length + 1)).mono fun k hk => ?_
  intro left l0 l1
  unfold w_szCellS
  refine sz_slice TCell.bk xs (w_szCell) (w_szCellS_u1 xs) k (fun x hm l p q => ?_) (fun n l i => by rw [w_szCellS_u1]) (by omega) (DOk_sl hf).1 left l0 l1
  rw [hx x hm l p q, Option.bind_some]; have := sz_then (b := TCell.bk x) (b2 := 0) (F := fun z => some z) p fun z pz _ => szR_end pz; exact this
theorem w_toCellS_law (xs : List TCell) (hb : bkS TCell.bk xs ≤ 1048576) : Ev fun k => w_toCellS k xs = some xs := by
  have hx : ∀ x ∈ xs, w_toCell x = some x := fun x hm => w_toCell_law x (by have := bkS_get (f := TCell.bk) hm; omega)
  refine (Ev.ge (xs.length + 1)).mono fun k hk => ?_
  unfold w_toCellS
  exact to_slice _ (by omega) _ xs (w_toCell) (w_toCellS_u1 xs) k (fun x hm => hx x hm) (fun n out i => by rw [w_toCellS_u1]) (by omega) (by have := bkS_len (f := TCell.bk) (xs := xs); omega)
theorem w_eqCellS_law (xs : List TCell) (hb : bkS TCell.bk xs ≤ 1073741824) : Ev fun k => w_eqCellS k xs xs = some true := by
  have hx : ∀ x ∈ xs, w_eqCell x x = some true := fun x hm => w_eqCell_law x (by have := bkS_get (f := TCell.bk) hm; omega)
  refine (Ev.ge (xs.length + 1)).mono fun k hk => ?_
  unfold w_eqCellS
  exact eq_slice xs (w_eqCell) (w_eqCellS_u1 xs xs) k (fun x hm => hx x hm) (fun n i => by rw [w_eqCellS_u1]) (by omega) (by have := bkS_len (f := TCell.bk) (xs := xs); omega)
-- Notebook
def TNotebook.bk (x : TNotebook) : Nat := bkS TCell.bk x.cells + (0)
theorem TNotebook.bk_eq (x : TNotebook) : x.bk = bkS TCell.bk x.cells + (0) := rfl
theorem w_szNotebook_law (x : TNotebook) (hf : DOkL x.c) : Ev fun k => ∀ left : Int, 0 ≤ left → left ≤ 1048576 → w_szNotebook k x left = some (szR (x.bk) left) := by
  have hf' := hf; rw [TNotebook.c_eq] at hf'; simp only [DOkL] at hf'; obtain ⟨f0, _⟩ := hf'
  refine (w_szCellS_law x.cells f0).mono ?_
  rintro k h0
  intro left l0 l1
  rw [TNotebook.bk_eq]
  unfold w_szNotebook
  rw [h0 left l0 l1, Option.bind_some]
  rcases szR_cut (b := bkS TCell.bk x.cells) l1 with ⟨z0, e0, g0, q0, p0, r0⟩ | ⟨e0, q0⟩
  rotate_left
  · rw [e0, if_pos (by decide)]; exact szR_neg (by omega)
  rw [e0, if_neg g0]
  exact szR_pos p0 (by omega)
theorem w_toNotebook_law (x : TNotebook) (hb : x.bk ≤ 1048576) : Ev fun k => w_toNotebook k x = some x := by
  refine (w_toCellS_law x.cells (by have := TNotebook.bk_eq x; omega)).mono ?_
  rintro k h0
  unfold w_toNotebook
  rw [h0, Option.bind_some]
  all_goals (first | rfl | (cases x; rfl))
theorem w_eqNotebook_law (x : TNotebook) (hb : x.bk ≤ 1073741824) : Ev fun k => w_eqNotebook k x x = some true := by
  refine (w_eqCellS_law x.cells (by have := TNotebook.bk_eq x; omega)).mono ?_
  rintro k h0
  unfold w_eqNotebook
  simp [h0]
-- File
def TFile.bk (x : TFile) : Nat := x.name.size + (0)
theorem TFile.bk_eq (x : TFile) : x.bk = x.name.size + (0) := rfl
theorem w_szFile_law (x : TFile) (hf : DOkL x.c) : ∀ left : Int, 0 ≤ left → left ≤ 1048576 → w_szFile x left = some (szR (x.bk) left) := by
  have hf' := hf; rw [TFile.c_eq] at hf'; simp only [DOkL] at hf'; obtain ⟨f0, f1, _⟩ := hf'
  intro left l0 l1
  rw [TFile.bk_eq]
  unfold w_szFile
  rcases sz_cut (b := x.name.size) l0 l1 (DOk_str f0) with ⟨z0, e0, g0, q0, p0, r0⟩ | ⟨g0, q0⟩
  rotate_left
  · rw [if_pos g0]; exact szR_neg (by omega)
  rw [e0, if_neg g0]
  exact szR_pos p0 (by omega)
theorem w_toFile_law (x : TFile) (hb : x.bk ≤ 1048576) : w_toFile x = some x := by
  unfold w_toFile
  all_goals (first | rfl | (cases x; rfl))
theorem w_eqFile_law (x : TFile) (hb : x.bk ≤ 1073741824) : w_eqFile x x = some true := by
  unfold w_eqFile
  simp []
theorem w_szFileS_law (xs : List TFile) (hf : DOk (.sl (xs.map TFile.c))) : Ev fun k => ∀ left : Int, 0 ≤ left → left ≤ 1048576 → w_szFileS k xs left = some (szR (bkS TFile.bk xs) left) := by
  have hx : ∀ x ∈ xs, ∀ left : Int, 0 ≤ left → left ≤ 1048576 → w_szFile x left = some (szR (TFile.bk x) left) := fun x hm => w_szFile_law x ((DOk_sl hf).2 x hm)
  refine (Ev.ge (xs.length + 1)).mono fun k hk => ?_
  intro left l0 l1
  unfold w_szFileS
  refine sz_slice TFile.bk xs (w_szFile) (w_szFileS_u1 xs) k (fun x hm l p q => ?_) (fun n l i => by rw [w_szFileS_u1]) (by omega) (DOk_sl hf).1 left l0 l1
  rw [hx x hm l p q, Option.bind_some]; have := sz_then (b := TFile.bk x) (b2 := 0) (F := fun z => some z) p fun z pz _ => szR_end pz; exact this
theorem w_toFileS_law (xs : List TFile) (hb : bkS TFile.bk xs ≤ 1048576) : Ev fun k => w_toFileS k xs = some xs := by
  have hx : ∀ x ∈ xs, w_toFile x = some x := fun x hm => w_toFile_law x (by have := bkS_get (f := TFile.bk) hm; omega)
  refine (Ev.ge (xs.length + 1)).mono fun k hk => ?_
  unfold w_toFileS
  exact to_slice _ (by omega) _ xs (w_toFile) (w_toFileS_u1 xs) k (fun x hm => hx x hm) (fun n out i => by rw [w_toFileS_u1]) (by omega) (by have := bkS_len (f := TFile.bk) (xs := xs); omega)
theorem w_eqFileS_law (xs : List TFile) (hb : bkS TFile.bk xs ≤ 1073741824) : Ev fun k => w_eqFileS k xs xs = some true := by
  have hx : ∀ x ∈ xs, w_eqFile x x = some true := fun x hm => w_eqFile_law x (by have := bkS_get (f := TFile.bk) hm; omega)
  refine (Ev.ge (xs.length + 1)).mono fun k hk => ?_
  unfold w_eqFileS
  exact eq_slice xs (w_eqFile) (w_eqFileS_u1 xs xs) k (fun x hm => hx x hm) (fun n i => by rw [w_eqFileS_u1]) (by omega) (by have := bkS_len (f := TFile.bk) (xs := xs); omega)
-- World
def TWorld.bk (x : TWorld) : Nat := bkS TFile.bk x.files + (0)
theorem TWorld.bk_eq (x : TWorld) : x.bk = bkS TFile.bk x.files + (0) := rfl
theorem w_szWorld_law (x : TWorld) (hf : DOkL x.c) : Ev fun k => ∀ left : Int, 0 ≤ left → left ≤ 1048576 → w_szWorld k x left = some (szR (x.bk) left) := by
  have hf' := hf; rw [TWorld.c_eq] at hf'; simp only [DOkL] at hf'; obtain ⟨f0, f1, f2, _⟩ := hf'
  refine (w_szFileS_law x.files f2).mono ?_
  rintro k h0
  intro left l0 l1
  rw [TWorld.bk_eq]
  unfold w_szWorld
  rw [h0 left l0 l1, Option.bind_some]
  rcases szR_cut (b := bkS TFile.bk x.files) l1 with ⟨z0, e0, g0, q0, p0, r0⟩ | ⟨e0, q0⟩
  rotate_left
  · rw [e0, if_pos (by decide)]; exact szR_neg (by omega)
  rw [e0, if_neg g0]
  exact szR_pos p0 (by omega)
theorem w_toWorld_law (x : TWorld) (hb : x.bk ≤ 1048576) : Ev fun k => w_toWorld k x = some x := by
  refine (w_toFileS_law x.files (by have := TWorld.bk_eq x; omega)).mono ?_
  rintro k h0
  unfold w_toWorld
  rw [h0, Option.bind_some]
  all_goals (first | rfl | (cases x; rfl))
theorem w_eqWorld_law (x : TWorld) (hb : x.bk ≤ 1073741824) : Ev fun k => w_eqWorld k x x = some true := by
  refine (w_eqFileS_law x.files (by have := TWorld.bk_eq x; omega)).mono ?_
  rintro k h0
  unfold w_eqWorld
  simp [h0]
theorem w_szStringS_law (xs : List ByteArray) (hf : DOk (.sl (xs.map sC))) : Ev fun k => ∀ left : Int, 0 ≤ left → left ≤ 1048576 → w_szStringS k xs left = some (szR (bkS ByteArray.size xs) left) := by
  refine (Ev.ge (xs.length + 1)).mono fun k hk => ?_
  intro left l0 l1
  unfold w_szStringS
  refine sz_slice ByteArray.size xs (fun x l => some (IntKind.i64.wrap (l - (x.size : Int)))) (w_szStringS_u1 xs) k (fun x hm l p q => ?_) (fun n l i => by rw [w_szStringS_u1]; rfl) (by omega) (DOk_sl hf).1 left l0 l1
  have := sz_off (b := x.size) (b2 := 0) (F := fun z => some z) p q (DOk_str ((DOk_sl hf).2 x hm).1) fun z pz _ => szR_end pz; exact this
theorem w_toStringS_law (xs : List ByteArray) (hb : bkS ByteArray.size xs ≤ 1048576) : Ev fun k => w_toStringS k xs = some xs := by
  refine (Ev.ge (xs.length + 1)).mono fun k hk => ?_
  unfold w_toStringS
  exact to_slice _ (by omega) _ xs (fun x => some x) (w_toStringS_u1 xs) k (fun x hm => rfl) (fun n out i => by rw [w_toStringS_u1]; rfl) (by omega) (by have := bkS_len (f := ByteArray.size) (xs := xs); omega)
theorem w_eqStringS_law (xs : List ByteArray) (hb : bkS ByteArray.size xs ≤ 1073741824) : Ev fun k => w_eqStringS k xs xs = some true := by
  refine (Ev.ge (xs.length + 1)).mono fun k hk => ?_
  unfold w_eqStringS
  exact eq_slice xs (fun x y => some (decide (x = y))) (w_eqStringS_u1 xs xs) k (fun x hm => by simp) (fun n i => by rw [w_eqStringS_u1]; rfl) (by omega) (by have := bkS_len (f := ByteArray.size) (xs := xs); omega)
theorem w_szIntS_law (xs : List Int) (hf : DOk (.sl (xs.map iC))) : ∀ left : Int, 0 ≤ left → left ≤ 1048576 → w_szIntS xs left = some (szR (bkS (fun _ => 0) xs) left) := by
  intro left l0 l1
  unfold w_szIntS
  have := sz_off (b := xs.length) (b2 := 0) (F := fun z => some z) l0 l1 (DOk_sl hf).1 fun x p _ => szR_end p
  have e : bkS (fun _ => 0) xs = xs.length + 0 := bkS_0 xs
  rw [e]; exact this
theorem w_toIntS_law (xs : List Int) (hb : bkS (fun _ => 0) xs ≤ 1048576) : Ev fun k => w_toIntS k xs = some xs := by
  refine (Ev.ge (xs.length + 1)).mono fun k hk => ?_
  unfold w_toIntS
  exact to_slice _ (by omega) _ xs (fun x => some x) (w_toIntS_u1 xs) k (fun x hm => rfl) (fun n out i => by rw [w_toIntS_u1]; rfl) (by omega) (by have := bkS_len (f := (fun _ => 0)) (xs := xs); omega)
theorem w_eqIntS_law (xs : List Int) (hb : bkS (fun _ => 0) xs ≤ 1073741824) : Ev fun k => w_eqIntS k xs xs = some true := by
  refine (Ev.ge (xs.length + 1)).mono fun k hk => ?_
  unfold w_eqIntS
  exact eq_slice xs (fun x y => some (decide (x = y))) (w_eqIntS_u1 xs xs) k (fun x hm => by simp) (fun n i => by rw [w_eqIntS_u1]; rfl) (by omega) (by have := bkS_len (f := (fun _ => 0)) (xs := xs); omega)
-- Origin
theorem w_toOrigin_law (x : TOrigin) : w_toOrigin x = some x := by
  unfold w_toOrigin
  all_goals (first | rfl | (cases x; rfl))
theorem w_eqOrigin_law (x : TOrigin) : w_eqOrigin x x = some true := by
  unfold w_eqOrigin
  simp []
theorem w_szOriginS_law (xs : List TOrigin) (hf : DOk (.sl (xs.map TOrigin.c))) : ∀ left : Int, 0 ≤ left → left ≤ 1048576 → w_szOriginS xs left = some (szR (bkS (fun _ => 0) xs) left) := by
  intro left l0 l1
  unfold w_szOriginS
  have := sz_off (b := xs.length) (b2 := 0) (F := fun z => some z) l0 l1 (DOk_sl hf).1 fun x p _ => szR_end p
  have e : bkS (fun _ => 0) xs = xs.length + 0 := bkS_0 xs
  rw [e]; exact this
theorem w_toOriginS_law (xs : List TOrigin) (hb : bkS (fun _ => 0) xs ≤ 1048576) : Ev fun k => w_toOriginS k xs = some xs := by
  have hx : ∀ x ∈ xs, w_toOrigin x = some x := fun x hm => w_toOrigin_law x
  refine (Ev.ge (xs.length + 1)).mono fun k hk => ?_
  unfold w_toOriginS
  exact to_slice _ (by omega) _ xs (w_toOrigin) (w_toOriginS_u1 xs) k (fun x hm => hx x hm) (fun n out i => by rw [w_toOriginS_u1]) (by omega) (by have := bkS_len (f := (fun _ => 0)) (xs := xs); omega)
theorem w_eqOriginS_law (xs : List TOrigin) (hb : bkS (fun _ => 0) xs ≤ 1073741824) : Ev fun k => w_eqOriginS k xs xs = some true := by
  have hx : ∀ x ∈ xs, w_eqOrigin x x = some true := fun x hm => w_eqOrigin_law x
  refine (Ev.ge (xs.length + 1)).mono fun k hk => ?_
  unfold w_eqOriginS
  exact eq_slice xs (w_eqOrigin) (w_eqOriginS_u1 xs xs) k (fun x hm => hx x hm) (fun n i => by rw [w_eqOriginS_u1]) (by omega) (by have := bkS_len (f := (fun _ => 0)) (xs := xs); omega)
-- Row
def TRow.bk (x : TRow) : Nat := bkS (fun _ => 0) x.cells + (bkS (fun _ => 0) x.from_ + (0))
theorem TRow.bk_eq (x : TRow) : x.bk = bkS (fun _ => 0) x.cells + (bkS (fun _ => 0) x.from_ + (0)) := rfl
theorem w_szRow_law (x : TRow) (hf : DOkL x.c) : ∀ left : Int, 0 ≤ left → left ≤ 1048576 → w_szRow x left = some (szR (x.bk) left) := by
  have hf' := hf; rw [TRow.c_eq] at hf'; simp only [DOkL] at hf'; obtain ⟨f0, f1, _⟩ := hf'
  have h0 := w_szIntS_law x.cells f0
  have h1 := w_szOriginS_law x.from_ f1
  intro left l0 l1
  rw [TRow.bk_eq]
  unfold w_szRow
  rw [h0 left l0 l1, Option.bind_some]
  rcases szR_cut (b := bkS (fun _ => 0) x.cells) l1 with ⟨z0, e0, g0, q0, p0, r0⟩ | ⟨e0, q0⟩
  rotate_left
  · rw [e0, if_pos (by decide)]; exact szR_neg (by omega)
  rw [e0, if_neg g0]
  rw [h1 z0 p0 r0, Option.bind_some]
  rcases szR_cut (b := bkS (fun _ => 0) x.from_) r0 with ⟨z1, e1, g1, q1, p1, r1⟩ | ⟨e1, q1⟩
  rotate_left
  · rw [e1, if_pos (by decide)]; exact szR_neg (by omega)
  rw [e1, if_neg g1]
  exact szR_pos p1 (by omega)
theorem w_toRow_law (x : TRow) (hb : x.bk ≤ 1048576) : Ev fun k => w_toRow k x = some x := by
  refine ((w_toIntS_law x.cells (by have := TRow.bk_eq x; omega)).and (w_toOriginS_law x.from_ (by have := TRow.bk_eq x; omega))).mono ?_
  rintro k ⟨h0, h1⟩
  unfold w_toRow
  rw [h0, Option.bind_some]
  rw [h1, Option.bind_some]
  all_goals (first | rfl | (cases x; rfl))
theorem w_eqRow_law (x : TRow) (hb : x.bk ≤ 1073741824) : Ev fun k => w_eqRow k x x = some true := by
  refine ((w_eqIntS_law x.cells (by have := TRow.bk_eq x; omega)).and (w_eqOriginS_law x.from_ (by have := TRow.bk_eq x; omega))).mono ?_
  rintro k ⟨h0, h1⟩
  unfold w_eqRow
  simp [h0, h1]
theorem w_szRowS_law (xs : List TRow) (hf : DOk (.sl (xs.map TRow.c))) : Ev fun k => ∀ left : Int, 0 ≤ left → left ≤ 1048576 → w_szRowS k xs left = some (szR (bkS TRow.bk xs) left) := by
  have hx : ∀ x ∈ xs, ∀ left : Int, 0 ≤ left → left ≤ 1048576 → w_szRow x left = some (szR (TRow.bk x) left) := fun x hm => w_szRow_law x ((DOk_sl hf).2 x hm)
  refine (Ev.ge (xs.length + 1)).mono fun k hk => ?_
  intro left l0 l1
  unfold w_szRowS
  refine sz_slice TRow.bk xs (w_szRow) (w_szRowS_u1 xs) k (fun x hm l p q => ?_) (fun n l i => by rw [w_szRowS_u1]) (by omega) (DOk_sl hf).1 left l0 l1
  rw [hx x hm l p q, Option.bind_some]; have := sz_then (b := TRow.bk x) (b2 := 0) (F := fun z => some z) p fun z pz _ => szR_end pz; exact this
theorem w_toRowS_law (xs : List TRow) (hb : bkS TRow.bk xs ≤ 1048576) : Ev fun k => w_toRowS k xs = some xs := by
  refine ((Ev.all xs fun x hm => w_toRow_law x (by have := bkS_get (f := TRow.bk) hm; omega)).and (Ev.ge (xs.length + 1))).mono ?_
  rintro k ⟨hx, hk⟩
  unfold w_toRowS
  exact to_slice _ (by omega) _ xs (w_toRow k) (w_toRowS_u1 k xs) k (fun x hm => hx x hm) (fun n out i => by rw [w_toRowS_u1]) (by omega) (by have := bkS_len (f := TRow.bk) (xs := xs); omega)
theorem w_eqRowS_law (xs : List TRow) (hb : bkS TRow.bk xs ≤ 1073741824) : Ev fun k => w_eqRowS k xs xs = some true := by
  refine ((Ev.all xs fun x hm => w_eqRow_law x (by have := bkS_get (f := TRow.bk) hm; omega)).and (Ev.ge (xs.length + 1))).mono ?_
  rintro k ⟨hx, hk⟩
  unfold w_eqRowS
  exact eq_slice xs (w_eqRow k) (w_eqRowS_u1 k xs xs) k (fun x hm => hx x hm) (fun n i => by rw [w_eqRowS_u1]) (by omega) (by have := bkS_len (f := TRow.bk) (xs := xs); omega)
-- Value
mutual
def TValue.bk : TValue → Nat
  | ⟨kind, n, step, text, list, columns, rows⟩ => text.size + ((list.length + TValue.bks list) + (bkS ByteArray.size columns + (bkS TRow.bk rows + (0))))
def TValue.bks : List TValue → Nat
  | [] => 0
  | x :: xs => TValue.bk x + TValue.bks xs
end
theorem TValue.bks_eq : ∀ xs : List TValue, TValue.bks xs = sumBk TValue.bk xs
  | [] => rfl
  | x :: xs => by rw [TValue.bks, TValue.bks_eq xs]; rfl
theorem TValue.bk_eq (x : TValue) : x.bk = x.text.size + (bkS TValue.bk x.list + (bkS ByteArray.size x.columns + (bkS TRow.bk x.rows + (0)))) := by
  cases x; simp only [TValue.bk, TValue.bks_eq, bkS]
theorem TValue.ind {p : TValue → Prop} (h : ∀ x, (∀ y ∈ x.list, p y) → p x) : ∀ x, p x
  | ⟨kind, n, step, text, list, columns, rows⟩ => h _ fun y hy => TValue.ind h y
termination_by x => SizeOf.sizeOf x
decreasing_by
  have := List.sizeOf_lt_of_mem hy
  simp at this ⊢; omega
theorem w_szValueS_ind (xs : List TValue) (hf : DOk (.sl (xs.map TValue.c))) (ih : ∀ x ∈ xs, Ev fun k => ∀ left : Int, 0 ≤ left → left ≤ 1048576 → w_szValue k x left = some (szR (TValue.bk x) left)) : Ev fun k => ∀ left : Int, 0 ≤ left → left ≤ 1048576 → w_szValueS k xs left = some (szR (bkS TValue.bk xs) left) := by
  refine ((Ev.all xs ih).and (Ev.ge (xs.length + 1))).pred ?_
  rintro k ⟨hx, hk⟩
  intro left l0 l1
  rw [w_szValueS]
  refine sz_slice TValue.bk xs (w_szValue k) (w_szValueS_u1 (w_szValue k) xs) k (fun x hm l p q => ?_) (fun n l i => by rw [w_szValueS_u1]) (by omega) (DOk_sl hf).1 left l0 l1
  rw [hx x hm l p q, Option.bind_some]; have := sz_then (b := TValue.bk x) (b2 := 0) (F := fun z => some z) p fun z pz _ => szR_end pz; exact this
theorem w_toValueS_ind (xs : List TValue) (hb : bkS TValue.bk xs ≤ 1048576) (ih : ∀ x ∈ xs, Ev fun k => w_toValue k x = some x) : Ev fun k => w_toValueS k xs = some xs := by
  refine ((Ev.all xs ih).and (Ev.ge (xs.length + 1))).pred ?_
  rintro k ⟨hx, hk⟩
  rw [w_toValueS]
  exact to_slice _ (by omega) _ xs (w_toValue k) (w_toValueS_u1 (w_toValue k) xs) k (fun x hm => hx x hm) (fun n out i => by rw [w_toValueS_u1]) (by omega) (by have := bkS_len (f := TValue.bk) (xs := xs); omega)
theorem w_eqValueS_ind (xs : List TValue) (hb : bkS TValue.bk xs ≤ 1073741824) (ih : ∀ x ∈ xs, Ev fun k => w_eqValue k x x = some true) : Ev fun k => w_eqValueS k xs xs = some true := by
  refine ((Ev.all xs ih).and (Ev.ge (xs.length + 1))).pred ?_
  rintro k ⟨hx, hk⟩
  rw [w_eqValueS]
  exact eq_slice xs (w_eqValue k) (w_eqValueS_u1 (w_eqValue k) xs xs) k (fun x hm => hx x hm) (fun n i => by rw [w_eqValueS_u1]) (by omega) (by have := bkS_len (f := TValue.bk) (xs := xs); omega)
theorem w_szValue_law (x : TValue) (hf : DOkL x.c) : Ev fun k => ∀ left : Int, 0 ≤ left → left ≤ 1048576 → w_szValue k x left = some (szR (x.bk) left) := by
  revert hf
  refine TValue.ind (p := fun x => DOkL x.c → Ev fun k => ∀ left : Int, 0 ≤ left → left ≤ 1048576 → w_szValue k x left = some (szR (x.bk) left)) ?_ x; clear x
  intro x ih hf
  have hf' := hf; rw [TValue.c_eq] at hf'; simp only [DOkL] at hf'; obtain ⟨f0, f1, f2, f3, f4, f5, f6, _⟩ := hf'
  refine ((w_szValueS_ind x.list f4 fun y hy => ih y hy ((DOk_sl f4).2 y hy)).and ((w_szStringS_law x.columns f5).and (w_szRowS_law x.rows f6))).pred ?_
  rintro k ⟨h0, h1, h2⟩
  intro left l0 l1
  rw [TValue.bk_eq]
  rw [w_szValue]
  rcases sz_cut (b := x.text.size) l0 l1 (DOk_str f3) with ⟨z0, e0, g0, q0, p0, r0⟩ | ⟨g0, q0⟩
  rotate_left
  · rw [if_pos g0]; exact szR_neg (by omega)
  rw [e0, if_neg g0]
  rw [h0 z0 p0 r0, Option.bind_some]
  rcases szR_cut (b := bkS TValue.bk x.list) r0 with ⟨z1, e1, g1, q1, p1, r1⟩ | ⟨e1, q1⟩
  rotate_left
  · rw [e1, if_pos (by decide)]; exact szR_neg (by omega)
  rw [e1, if_neg g1]
  rw [h1 z1 p1 r1, Option.bind_some]
  rcases szR_cut (b := bkS ByteArray.size x.columns) r1 with ⟨z2, e2, g2, q2, p2, r2⟩ | ⟨e2, q2⟩
  rotate_left
  · rw [e2, if_pos (by decide)]; exact szR_neg (by omega)
  rw [e2, if_neg g2]
  rw [h2 z2 p2 r2, Option.bind_some]
  rcases szR_cut (b := bkS TRow.bk x.rows) r2 with ⟨z3, e3, g3, q3, p3, r3⟩ | ⟨e3, q3⟩
  rotate_left
  · rw [e3, if_pos (by decide)]; exact szR_neg (by omega)
  rw [e3, if_neg g3]
  exact szR_pos p3 (by omega)
theorem w_toValue_law (x : TValue) (hb : x.bk ≤ 1048576) : Ev fun k => w_toValue k x = some x := by
  revert hb
  refine TValue.ind (p := fun x => x.bk ≤ 1048576 → Ev fun k => w_toValue k x = some x) ?_ x; clear x
  intro x ih hb
  refine ((w_toValueS_ind x.list (by have := TValue.bk_eq x; omega) fun y hy => ih y hy (by have := bkS_get (f := TValue.bk) hy; have := TValue.bk_eq x; omega)).and ((w_toStringS_law x.columns (by have := TValue.bk_eq x; omega)).and (w_toRowS_law x.rows (by have := TValue.bk_eq x; omega)))).pred ?_
  rintro k ⟨h0, h1, h2⟩
  rw [w_toValue]
  rw [h0, Option.bind_some]
  rw [h1, Option.bind_some]
  rw [h2, Option.bind_some]
  all_goals (first | rfl | (cases x; rfl))
theorem w_eqValue_law (x : TValue) (hb : x.bk ≤ 1073741824) : Ev fun k => w_eqValue k x x = some true := by
  revert hb
  refine TValue.ind (p := fun x => x.bk ≤ 1073741824 → Ev fun k => w_eqValue k x x = some true) ?_ x; clear x
  intro x ih hb
  refine ((w_eqValueS_ind x.list (by have := TValue.bk_eq x; omega) fun y hy => ih y hy (by have := bkS_get (f := TValue.bk) hy; have := TValue.bk_eq x; omega)).and ((w_eqStringS_law x.columns (by have := TValue.bk_eq x; omega)).and (w_eqRowS_law x.rows (by have := TValue.bk_eq x; omega)))).pred ?_
  rintro k ⟨h0, h1, h2⟩
  rw [w_eqValue]
  simp [h0, h1, h2]
-- Read
def TRead.bk (x : TRead) : Nat := x.text.size + (TValue.bk x.result + (0))
theorem TRead.bk_eq (x : TRead) : x.bk = x.text.size + (TValue.bk x.result + (0)) := rfl
theorem w_szRead_law (x : TRead) (hf : DOkL x.c) : Ev fun k => ∀ left : Int, 0 ≤ left → left ≤ 1048576 → w_szRead k x left = some (szR (x.bk) left) := by
  have hf' := hf; rw [TRead.c_eq] at hf'; simp only [DOkL] at hf'; obtain ⟨f0, f1, f2, f3, f4, f5, f6, f7, f8, f9, f10, _⟩ := hf'
  refine (w_szValue_law x.result (by rw [TValue.c_eq]; exact ⟨f4, f5, f6, f7, f8, f9, f10, trivial⟩)).mono ?_
  rintro k h0
  intro left l0 l1
  rw [TRead.bk_eq]
  unfold w_szRead
  rcases sz_cut (b := x.text.size) l0 l1 (DOk_str f3) with ⟨z0, e0, g0, q0, p0, r0⟩ | ⟨g0, q0⟩
  rotate_left
  · rw [if_pos g0]; exact szR_neg (by omega)
  rw [e0, if_neg g0]
  rw [h0 z0 p0 r0, Option.bind_some]
  rcases szR_cut (b := TValue.bk x.result) r0 with ⟨z1, e1, g1, q1, p1, r1⟩ | ⟨e1, q1⟩
  rotate_left
  · rw [e1, if_pos (by decide)]; exact szR_neg (by omega)
  rw [e1, if_neg g1]
  exact szR_pos p1 (by omega)
theorem w_toRead_law (x : TRead) (hb : x.bk ≤ 1048576) : Ev fun k => w_toRead k x = some x := by
  refine (w_toValue_law x.result (by have := TRead.bk_eq x; omega)).mono ?_
  rintro k h0
  unfold w_toRead
  rw [h0, Option.bind_some]
  all_goals (first | rfl | (cases x; rfl))
theorem w_eqRead_law (x : TRead) (hb : x.bk ≤ 1073741824) : Ev fun k => w_eqRead k x x = some true := by
  refine (w_eqValue_law x.result (by have := TRead.bk_eq x; omega)).mono ?_
  rintro k h0
  unfold w_eqRead
  simp [h0]
theorem w_szReadS_law (xs : List TRead) (hf : DOk (.sl (xs.map TRead.c))) : Ev fun k => ∀ left : Int, 0 ≤ left → left ≤ 1048576 → w_szReadS k xs left = some (szR (bkS TRead.bk xs) left) := by
  refine ((Ev.all xs fun x hm => w_szRead_law x ((DOk_sl hf).2 x hm)).and (Ev.ge (xs.length + 1))).mono ?_
  rintro k ⟨hx, hk⟩
  intro left l0 l1
  unfold w_szReadS
  refine sz_slice TRead.bk xs (w_szRead k) (w_szReadS_u1 k xs) k (fun x hm l p q => ?_) (fun n l i => by rw [w_szReadS_u1]) (by omega) (DOk_sl hf).1 left l0 l1
  rw [hx x hm l p q, Option.bind_some]; have := sz_then (b := TRead.bk x) (b2 := 0) (F := fun z => some z) p fun z pz _ => szR_end pz; exact this
theorem w_toReadS_law (xs : List TRead) (hb : bkS TRead.bk xs ≤ 1048576) : Ev fun k => w_toReadS k xs = some xs := by
  refine ((Ev.all xs fun x hm => w_toRead_law x (by have := bkS_get (f := TRead.bk) hm; omega)).and (Ev.ge (xs.length + 1))).mono ?_
  rintro k ⟨hx, hk⟩
  unfold w_toReadS
  exact to_slice _ (by omega) _ xs (w_toRead k) (w_toReadS_u1 k xs) k (fun x hm => hx x hm) (fun n out i => by rw [w_toReadS_u1]) (by omega) (by have := bkS_len (f := TRead.bk) (xs := xs); omega)
theorem w_eqReadS_law (xs : List TRead) (hb : bkS TRead.bk xs ≤ 1073741824) : Ev fun k => w_eqReadS k xs xs = some true := by
  refine ((Ev.all xs fun x hm => w_eqRead_law x (by have := bkS_get (f := TRead.bk) hm; omega)).and (Ev.ge (xs.length + 1))).mono ?_
  rintro k ⟨hx, hk⟩
  unfold w_eqReadS
  exact eq_slice xs (w_eqRead k) (w_eqReadS_u1 k xs xs) k (fun x hm => hx x hm) (fun n i => by rw [w_eqReadS_u1]) (by omega) (by have := bkS_len (f := TRead.bk) (xs := xs); omega)
-- Tape
def TTape.bk (x : TTape) : Nat := bkS TRead.bk x.reads + (0)
theorem TTape.bk_eq (x : TTape) : x.bk = bkS TRead.bk x.reads + (0) := rfl
theorem w_szTape_law (x : TTape) (hf : DOkL x.c) : Ev fun k => ∀ left : Int, 0 ≤ left → left ≤ 1048576 → w_szTape k x left = some (szR (x.bk) left) := by
  have hf' := hf; rw [TTape.c_eq] at hf'; simp only [DOkL] at hf'; obtain ⟨f0, f1, f2, _⟩ := hf'
  refine (w_szReadS_law x.reads f2).mono ?_
  rintro k h0
  intro left l0 l1
  rw [TTape.bk_eq]
  unfold w_szTape
  rw [h0 left l0 l1, Option.bind_some]
  rcases szR_cut (b := bkS TRead.bk x.reads) l1 with ⟨z0, e0, g0, q0, p0, r0⟩ | ⟨e0, q0⟩
  rotate_left
  · rw [e0, if_pos (by decide)]; exact szR_neg (by omega)
  rw [e0, if_neg g0]
  exact szR_pos p0 (by omega)
theorem w_toTape_law (x : TTape) (hb : x.bk ≤ 1048576) : Ev fun k => w_toTape k x = some x := by
  refine (w_toReadS_law x.reads (by have := TTape.bk_eq x; omega)).mono ?_
  rintro k h0
  unfold w_toTape
  rw [h0, Option.bind_some]
  all_goals (first | rfl | (cases x; rfl))
theorem w_eqTape_law (x : TTape) (hb : x.bk ≤ 1073741824) : Ev fun k => w_eqTape k x x = some true := by
  refine (w_eqReadS_law x.reads (by have := TTape.bk_eq x; omega)).mono ?_
  rintro k h0
  unfold w_eqTape
  simp [h0]
theorem w_szTapeS_law (xs : List TTape) (hf : DOk (.sl (xs.map TTape.c))) : Ev fun k => ∀ left : Int, 0 ≤ left → left ≤ 1048576 → w_szTapeS k xs left = some (szR (bkS TTape.bk xs) left) := by
  refine ((Ev.all xs fun x hm => w_szTape_law x ((DOk_sl hf).2 x hm)).and (Ev.ge (xs.length + 1))).mono ?_
  rintro k ⟨hx, hk⟩
  intro left l0 l1
  unfold w_szTapeS
  refine sz_slice TTape.bk xs (w_szTape k) (w_szTapeS_u1 k xs) k (fun x hm l p q => ?_) (fun n l i => by rw [w_szTapeS_u1]) (by omega) (DOk_sl hf).1 left l0 l1
  rw [hx x hm l p q, Option.bind_some]; have := sz_then (b := TTape.bk x) (b2 := 0) (F := fun z => some z) p fun z pz _ => szR_end pz; exact this
theorem w_toTapeS_law (xs : List TTape) (hb : bkS TTape.bk xs ≤ 1048576) : Ev fun k => w_toTapeS k xs = some xs := by
  refine ((Ev.all xs fun x hm => w_toTape_law x (by have := bkS_get (f := TTape.bk) hm; omega)).and (Ev.ge (xs.length + 1))).mono ?_
  rintro k ⟨hx, hk⟩
  unfold w_toTapeS
  exact to_slice _ (by omega) _ xs (w_toTape k) (w_toTapeS_u1 k xs) k (fun x hm => hx x hm) (fun n out i => by rw [w_toTapeS_u1]) (by omega) (by have := bkS_len (f := TTape.bk) (xs := xs); omega)
theorem w_eqTapeS_law (xs : List TTape) (hb : bkS TTape.bk xs ≤ 1073741824) : Ev fun k => w_eqTapeS k xs xs = some true := by
  refine ((Ev.all xs fun x hm => w_eqTape_law x (by have := bkS_get (f := TTape.bk) hm; omega)).and (Ev.ge (xs.length + 1))).mono ?_
  rintro k ⟨hx, hk⟩
  unfold w_eqTapeS
  exact eq_slice xs (w_eqTape k) (w_eqTapeS_u1 k xs xs) k (fun x hm => hx x hm) (fun n i => by rw [w_eqTapeS_u1]) (by omega) (by have := bkS_len (f := TTape.bk) (xs := xs); omega)
-- Entry
def TEntry.bk (x : TEntry) : Nat := bkS (fun _ => 0) x.inputs + (TValue.bk x.value + (0))
theorem TEntry.bk_eq (x : TEntry) : x.bk = bkS (fun _ => 0) x.inputs + (TValue.bk x.value + (0)) := rfl
theorem w_szEntry_law (x : TEntry) (hf : DOkL x.c) : Ev fun k => ∀ left : Int, 0 ≤ left → left ≤ 1048576 → w_szEntry k x left = some (szR (x.bk) left) := by
  have hf' := hf; rw [TEntry.c_eq] at hf'; simp only [DOkL] at hf'; obtain ⟨f0, f1, f2, f3, f4, f5, f6, f7, f8, f9, f10, f11, _⟩ := hf'
  have h0 := w_szIntS_law x.inputs f3
  refine (w_szValue_law x.value (by rw [TValue.c_eq]; exact ⟨f4, f5, f6, f7, f8, f9, f10, trivial⟩)).mono ?_
  rintro k h1
  intro left l0 l1
  rw [TEntry.bk_eq]
  unfold w_szEntry
  rw [h0 left l0 l1, Option.bind_some]
  rcases szR_cut (b := bkS (fun _ => 0) x.inputs) l1 with ⟨z0, e0, g0, q0, p0, r0⟩ | ⟨e0, q0⟩
  rotate_left
  · rw [e0, if_pos (by decide)]; exact szR_neg (by omega)
  rw [e0, if_neg g0]
  rw [h1 z0 p0 r0, Option.bind_some]
  rcases szR_cut (b := TValue.bk x.value) r0 with ⟨z1, e1, g1, q1, p1, r1⟩ | ⟨e1, q1⟩
  rotate_left
  · rw [e1, if_pos (by decide)]; exact szR_neg (by omega)
  rw [e1, if_neg g1]
  exact szR_pos p1 (by omega)
theorem w_toEntry_law (x : TEntry) (hb : x.bk ≤ 1048576) : Ev fun k => w_toEntry k x = some x := by
  refine ((w_toIntS_law x.inputs (by have := TEntry.bk_eq x; omega)).and (w_toValue_law x.value (by have := TEntry.bk_eq x; omega))).mono ?_
  rintro k ⟨h0, h1⟩
  unfold w_toEntry
  rw [h0, Option.bind_some]
  rw [h1, Option.bind_some]
  all_goals (first | rfl | (cases x; rfl))
theorem w_eqEntry_law (x : TEntry) (hb : x.bk ≤ 1073741824) : Ev fun k => w_eqEntry k x x = some true := by
  refine ((w_eqIntS_law x.inputs (by have := TEntry.bk_eq x; omega)).and (w_eqValue_law x.value (by have := TEntry.bk_eq x; omega))).mono ?_
  rintro k ⟨h0, h1⟩
  unfold w_eqEntry
  simp [h0, h1]
theorem w_szEntryS_law (xs : List TEntry) (hf : DOk (.sl (xs.map TEntry.c))) : Ev fun k => ∀ left : Int, 0 ≤ left → left ≤ 1048576 → w_szEntryS k xs left = some (szR (bkS TEntry.bk xs) left) := by
  refine ((Ev.all xs fun x hm => w_szEntry_law x ((DOk_sl hf).2 x hm)).and (Ev.ge (xs.length + 1))).mono ?_
  rintro k ⟨hx, hk⟩
  intro left l0 l1
  unfold w_szEntryS
  refine sz_slice TEntry.bk xs (w_szEntry k) (w_szEntryS_u1 k xs) k (fun x hm l p q => ?_) (fun n l i => by rw [w_szEntryS_u1]) (by omega) (DOk_sl hf).1 left l0 l1
  rw [hx x hm l p q, Option.bind_some]; have := sz_then (b := TEntry.bk x) (b2 := 0) (F := fun z => some z) p fun z pz _ => szR_end pz; exact this
theorem w_toEntryS_law (xs : List TEntry) (hb : bkS TEntry.bk xs ≤ 1048576) : Ev fun k => w_toEntryS k xs = some xs := by
  refine ((Ev.all xs fun x hm => w_toEntry_law x (by have := bkS_get (f := TEntry.bk) hm; omega)).and (Ev.ge (xs.length + 1))).mono ?_
  rintro k ⟨hx, hk⟩
  unfold w_toEntryS
  exact to_slice _ (by omega) _ xs (w_toEntry k) (w_toEntryS_u1 k xs) k (fun x hm => hx x hm) (fun n out i => by rw [w_toEntryS_u1]) (by omega) (by have := bkS_len (f := TEntry.bk) (xs := xs); omega)
theorem w_eqEntryS_law (xs : List TEntry) (hb : bkS TEntry.bk xs ≤ 1073741824) : Ev fun k => w_eqEntryS k xs xs = some true := by
  refine ((Ev.all xs fun x hm => w_eqEntry_law x (by have := bkS_get (f := TEntry.bk) hm; omega)).and (Ev.ge (xs.length + 1))).mono ?_
  rintro k ⟨hx, hk⟩
  unfold w_eqEntryS
  exact eq_slice xs (w_eqEntry k) (w_eqEntryS_u1 k xs xs) k (fun x hm => hx x hm) (fun n i => by rw [w_eqEntryS_u1]) (by omega) (by have := bkS_len (f := TEntry.bk) (xs := xs); omega)
-- Engine
def TEngine.bk (x : TEngine) : Nat := TNotebook.bk x.notebook + (TWorld.bk x.world + (bkS TTape.bk x.tapes + (bkS TEntry.bk x.entries + (0))))
theorem TEngine.bk_eq (x : TEngine) : x.bk = TNotebook.bk x.notebook + (TWorld.bk x.world + (bkS TTape.bk x.tapes + (bkS TEntry.bk x.entries + (0)))) := rfl
theorem w_szEngine_law (x : TEngine) (hf : DOkL x.c) : Ev fun k => ∀ left : Int, 0 ≤ left → left ≤ 1048576 → w_szEngine k x left = some (szR (x.bk) left) := by
  have hf' := hf; rw [TEngine.c_eq] at hf'; simp only [DOkL] at hf'; obtain ⟨f0, f1, f2, f3, f4, f5, f6, f7, f8, _⟩ := hf'
  refine ((w_szNotebook_law x.notebook (by rw [TNotebook.c_eq]; exact ⟨f0, trivial⟩)).and ((w_szWorld_law x.world (by rw [TWorld.c_eq]; exact ⟨f1, f2, f3, trivial⟩)).and ((w_szTapeS_law x.tapes f4).and (w_szEntryS_law x.entries f5)))).mono ?_
  rintro k ⟨h0, h1, h2, h3⟩
  intro left l0 l1
  rw [TEngine.bk_eq]
  unfold w_szEngine
  rw [h0 left l0 l1, Option.bind_some]
  rcases szR_cut (b := TNotebook.bk x.notebook) l1 with ⟨z0, e0, g0, q0, p0, r0⟩ | ⟨e0, q0⟩
  rotate_left
  · rw [e0, if_pos (by decide)]; exact szR_neg (by omega)
  rw [e0, if_neg g0]
  rw [h1 z0 p0 r0, Option.bind_some]
  rcases szR_cut (b := TWorld.bk x.world) r0 with ⟨z1, e1, g1, q1, p1, r1⟩ | ⟨e1, q1⟩
  rotate_left
  · rw [e1, if_pos (by decide)]; exact szR_neg (by omega)
  rw [e1, if_neg g1]
  rw [h2 z1 p1 r1, Option.bind_some]
  rcases szR_cut (b := bkS TTape.bk x.tapes) r1 with ⟨z2, e2, g2, q2, p2, r2⟩ | ⟨e2, q2⟩
  rotate_left
  · rw [e2, if_pos (by decide)]; exact szR_neg (by omega)
  rw [e2, if_neg g2]
  rw [h3 z2 p2 r2, Option.bind_some]
  rcases szR_cut (b := bkS TEntry.bk x.entries) r2 with ⟨z3, e3, g3, q3, p3, r3⟩ | ⟨e3, q3⟩
  rotate_left
  · rw [e3, if_pos (by decide)]; exact szR_neg (by omega)
  rw [e3, if_neg g3]
  exact szR_pos p3 (by omega)
theorem w_toEngine_law (x : TEngine) (hb : x.bk ≤ 1048576) : Ev fun k => w_toEngine k x = some x := by
  refine ((w_toNotebook_law x.notebook (by have := TEngine.bk_eq x; omega)).and ((w_toWorld_law x.world (by have := TEngine.bk_eq x; omega)).and ((w_toTapeS_law x.tapes (by have := TEngine.bk_eq x; omega)).and (w_toEntryS_law x.entries (by have := TEngine.bk_eq x; omega))))).mono ?_
  rintro k ⟨h0, h1, h2, h3⟩
  unfold w_toEngine
  rw [h0, Option.bind_some]
  rw [h1, Option.bind_some]
  rw [h2, Option.bind_some]
  rw [h3, Option.bind_some]
  all_goals (first | rfl | (cases x; rfl))
theorem w_eqEngine_law (x : TEngine) (hb : x.bk ≤ 1073741824) : Ev fun k => w_eqEngine k x x = some true := by
  refine ((w_eqNotebook_law x.notebook (by have := TEngine.bk_eq x; omega)).and ((w_eqWorld_law x.world (by have := TEngine.bk_eq x; omega)).and ((w_eqTapeS_law x.tapes (by have := TEngine.bk_eq x; omega)).and (w_eqEntryS_law x.entries (by have := TEngine.bk_eq x; omega))))).mono ?_
  rintro k ⟨h0, h1, h2, h3⟩
  unfold w_eqEngine
  simp [h0, h1, h2, h3]
-- Edit
def TEdit.bk (x : TEdit) : Nat := TCell.bk x.cell + (0)
theorem TEdit.bk_eq (x : TEdit) : x.bk = TCell.bk x.cell + (0) := rfl
theorem w_szEdit_law (x : TEdit) (hf : DOkL x.c) : ∀ left : Int, 0 ≤ left → left ≤ 1048576 → w_szEdit x left = some (szR (x.bk) left) := by
  have hf' := hf; rw [TEdit.c_eq] at hf'; simp only [DOkL] at hf'; obtain ⟨f0, f1, f2, f3, f4, f5, f6, f7, _⟩ := hf'
  have h0 := w_szCell_law x.cell (by rw [TCell.c_eq]; exact ⟨f2, f3, f4, f5, f6, f7, trivial⟩)
  intro left l0 l1
  rw [TEdit.bk_eq]
  unfold w_szEdit
  rw [h0 left l0 l1, Option.bind_some]
  rcases szR_cut (b := TCell.bk x.cell) l1 with ⟨z0, e0, g0, q0, p0, r0⟩ | ⟨e0, q0⟩
  rotate_left
  · rw [e0, if_pos (by decide)]; exact szR_neg (by omega)
  rw [e0, if_neg g0]
  exact szR_pos p0 (by omega)
theorem w_toEdit_law (x : TEdit) (hb : x.bk ≤ 1048576) : w_toEdit x = some x := by
  have h0 := w_toCell_law x.cell (by have := TEdit.bk_eq x; omega)
  unfold w_toEdit
  rw [h0, Option.bind_some]
  all_goals (first | rfl | (cases x; rfl))
theorem w_eqEdit_law (x : TEdit) (hb : x.bk ≤ 1073741824) : w_eqEdit x x = some true := by
  have h0 := w_eqCell_law x.cell (by have := TEdit.bk_eq x; omega)
  unfold w_eqEdit
  simp [h0]
theorem w_szEditS_law (xs : List TEdit) (hf : DOk (.sl (xs.map TEdit.c))) : Ev fun k => ∀ left : Int, 0 ≤ left → left ≤ 1048576 → w_szEditS k xs left = some (szR (bkS TEdit.bk xs) left) := by
  have hx : ∀ x ∈ xs, ∀ left : Int, 0 ≤ left → left ≤ 1048576 → w_szEdit x left = some (szR (TEdit.bk x) left) := fun x hm => w_szEdit_law x ((DOk_sl hf).2 x hm)
  refine (Ev.ge (xs.length + 1)).mono fun k hk => ?_
  intro left l0 l1
  unfold w_szEditS
  refine sz_slice TEdit.bk xs (w_szEdit) (w_szEditS_u1 xs) k (fun x hm l p q => ?_) (fun n l i => by rw [w_szEditS_u1]) (by omega) (DOk_sl hf).1 left l0 l1
  rw [hx x hm l p q, Option.bind_some]; have := sz_then (b := TEdit.bk x) (b2 := 0) (F := fun z => some z) p fun z pz _ => szR_end pz; exact this
theorem w_toEditS_law (xs : List TEdit) (hb : bkS TEdit.bk xs ≤ 1048576) : Ev fun k => w_toEditS k xs = some xs := by
  have hx : ∀ x ∈ xs, w_toEdit x = some x := fun x hm => w_toEdit_law x (by have := bkS_get (f := TEdit.bk) hm; omega)
  refine (Ev.ge (xs.length + 1)).mono fun k hk => ?_
  unfold w_toEditS
  exact to_slice _ (by omega) _ xs (w_toEdit) (w_toEditS_u1 xs) k (fun x hm => hx x hm) (fun n out i => by rw [w_toEditS_u1]) (by omega) (by have := bkS_len (f := TEdit.bk) (xs := xs); omega)
theorem w_eqEditS_law (xs : List TEdit) (hb : bkS TEdit.bk xs ≤ 1073741824) : Ev fun k => w_eqEditS k xs xs = some true := by
  have hx : ∀ x ∈ xs, w_eqEdit x x = some true := fun x hm => w_eqEdit_law x (by have := bkS_get (f := TEdit.bk) hm; omega)
  refine (Ev.ge (xs.length + 1)).mono fun k hk => ?_
  unfold w_eqEditS
  exact eq_slice xs (w_eqEdit) (w_eqEditS_u1 xs xs) k (fun x hm => hx x hm) (fun n i => by rw [w_eqEditS_u1]) (by omega) (by have := bkS_len (f := TEdit.bk) (xs := xs); omega)
end Go.Proofs.YtbknilpmpjjfpaaGreat
