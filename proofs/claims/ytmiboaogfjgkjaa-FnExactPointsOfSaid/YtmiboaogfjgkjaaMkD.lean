/- What the laws' marks write, type by type. Written by a program of mine. -/
import Derived.Test.YtmiboaogfjgkjaaWr
set_option linter.unusedSimpArgs false
set_option linter.unusedVariables false
namespace Go.Proofs.Ytmiboaogfjgkjaa
open Go.RowKit Am
def TCell.d (x : TCell) : D := .agg [D.int x.id, D.int x.version, D.int x.kind, D.str x.name, D.str x.code, D.int x.n]
def strMark (_ : ByteArray) (k : Int) : ByteArray := mText k
def strCn (_ : ByteArray) : Nat := 1
def strMarkL (xs : List ByteArray) (k : Int) : List ByteArray := mkL strMark strCn xs k
def strCnL (xs : List ByteArray) : Nat := cnS strCn xs
theorem strMarkL_eq (xs : List ByteArray) (k : Int) : strMarkL xs k = mkL strMark strCn xs k := rfl
theorem strCnL_eq (xs : List ByteArray) : strCnL xs = cnS strCn xs := rfl
def intMark (_ : Int) (k : Int) : Int := k
def intCn (_ : Int) : Nat := 1
def intMarkL (xs : List Int) (k : Int) : List Int := mkL intMark intCn xs k
def intCnL (xs : List Int) : Nat := cnS intCn xs
theorem intMarkL_eq (xs : List Int) (k : Int) : intMarkL xs k = mkL intMark intCn xs k := rfl
theorem intCnL_eq (xs : List Int) : intCnL xs = cnS intCn xs := rfl
def TOrigin.d (x : TOrigin) : D := .agg [D.int x.cell, D.int x.row]
def TOrigin.mark (x : TOrigin) (k : Int) : TOrigin := ⟨k, k + 1⟩
def TOrigin.cn (x : TOrigin) : Nat := 2
def TOrigin.markL (xs : List TOrigin) (k : Int) : List TOrigin := mkL TOrigin.mark TOrigin.cn xs k
def TOrigin.cnL (xs : List TOrigin) : Nat := cnS TOrigin.cn xs
theorem TOrigin.markL_eq (xs : List TOrigin) (k : Int) : TOrigin.markL xs k = mkL TOrigin.mark TOrigin.cn xs k := rfl
theorem TOrigin.cnL_eq (xs : List TOrigin) : TOrigin.cnL xs = cnS TOrigin.cn xs := rfl
theorem TOrigin.mark_eq (x : TOrigin) (k : Int) : x.mark k = ⟨k, k + 1⟩ := rfl
theorem TOrigin.cn_eq (x : TOrigin) : x.cn = 2 := rfl
def TRow.d (x : TRow) : D := .agg [D.sl (x.cells.map D.int), D.sl (x.from_.map TOrigin.d)]
def TRow.mark (x : TRow) (k : Int) : TRow := ⟨intMarkL x.cells (k), TOrigin.markL x.from_ (k + ((intCnL x.cells : Nat) : Int))⟩
def TRow.cn (x : TRow) : Nat := intCnL x.cells + TOrigin.cnL x.from_
def TRow.markL (xs : List TRow) (k : Int) : List TRow := mkL TRow.mark TRow.cn xs k
def TRow.cnL (xs : List TRow) : Nat := cnS TRow.cn xs
theorem TRow.markL_eq (xs : List TRow) (k : Int) : TRow.markL xs k = mkL TRow.mark TRow.cn xs k := rfl
theorem TRow.cnL_eq (xs : List TRow) : TRow.cnL xs = cnS TRow.cn xs := rfl
theorem TRow.mark_eq (x : TRow) (k : Int) : x.mark k = ⟨intMarkL x.cells (k), TOrigin.markL x.from_ (k + ((intCnL x.cells : Nat) : Int))⟩ := rfl
theorem TRow.cn_eq (x : TRow) : x.cn = intCnL x.cells + TOrigin.cnL x.from_ := rfl
mutual
def TValue.d : TValue → D
  | ⟨kind, n, step, text, list, columns, rows⟩ => .agg [D.int kind, D.int n, D.int step, D.str text, D.sl (TValue.ds list), D.sl (columns.map D.str), D.sl (rows.map TRow.d)]
def TValue.ds : List TValue → List D
  | [] => []
  | x :: xs => TValue.d x :: TValue.ds xs
end
theorem TValue.ds_map : ∀ xs : List TValue, TValue.ds xs = xs.map TValue.d
  | [] => rfl
  | x :: xs => by rw [TValue.ds, TValue.ds_map xs]; rfl
theorem TValue.d_eq (x : TValue) : x.d = .agg [D.int x.kind, D.int x.n, D.int x.step, D.str x.text, D.sl (x.list.map TValue.d), D.sl (x.columns.map D.str), D.sl (x.rows.map TRow.d)] := by
  cases x; simp only [TValue.d, TValue.ds_map]
mutual
def TValue.cn : TValue → Nat
  | ⟨kind, n, step, text, list, columns, rows⟩ => 4 + TValue.cnL list + strCnL columns + TRow.cnL rows
def TValue.cnL : List TValue → Nat
  | [] => 0
  | x :: xs => TValue.cn x + TValue.cnL xs
end
mutual
def TValue.mark : TValue → Int → TValue
  | ⟨kind, n, step, text, list, columns, rows⟩, k => ⟨k, k + 1, k + 1 + 1, mText (k + 1 + 1 + 1), TValue.markL list (k + 1 + 1 + 1 + 1), strMarkL columns (k + 1 + 1 + 1 + 1 + ((TValue.cnL list : Nat) : Int)), TRow.markL rows (k + 1 + 1 + 1 + 1 + ((TValue.cnL list : Nat) : Int) + ((strCnL columns : Nat) : Int))⟩
def TValue.markL : List TValue → Int → List TValue
  | [], _ => []
  | x :: xs, k => TValue.mark x k :: TValue.markL xs (k + (TValue.cn x : Nat))
end
theorem TValue.cnL_eq : ∀ xs : List TValue, TValue.cnL xs = cnS TValue.cn xs
  | [] => by simp only [TValue.cnL, cnS]
  | x :: xs => by simp only [TValue.cnL, cnS, TValue.cnL_eq xs]
theorem TValue.markL_eq : ∀ (xs : List TValue) (k : Int), TValue.markL xs k = mkL TValue.mark TValue.cn xs k
  | [], _ => by simp only [TValue.markL, mkL]
  | x :: xs, k => by simp only [TValue.markL, mkL, TValue.markL_eq xs]
theorem TValue.mark_eq (x : TValue) (k : Int) : x.mark k = ⟨k, k + 1, k + 1 + 1, mText (k + 1 + 1 + 1), TValue.markL x.list (k + 1 + 1 + 1 + 1), strMarkL x.columns (k + 1 + 1 + 1 + 1 + ((TValue.cnL x.list : Nat) : Int)), TRow.markL x.rows (k + 1 + 1 + 1 + 1 + ((TValue.cnL x.list : Nat) : Int) + ((strCnL x.columns : Nat) : Int))⟩ := by cases x; simp only [TValue.mark]
theorem TValue.cn_eq (x : TValue) : x.cn = 4 + TValue.cnL x.list + strCnL x.columns + TRow.cnL x.rows := by cases x; simp only [TValue.cn]
def TValue.markV (x : TValue) (k : Int) : TValue := ⟨x.kind, x.n, x.step, x.text, TValue.markL x.list (k), strMarkL x.columns (k + ((TValue.cnL x.list : Nat) : Int)), TRow.markL x.rows (k + ((TValue.cnL x.list : Nat) : Int) + ((strCnL x.columns : Nat) : Int))⟩
def TValue.cnV (x : TValue) : Nat := TValue.cnL x.list + strCnL x.columns + TRow.cnL x.rows
theorem TValue.markV_len {k : Int} {x : TValue} {y : TValue × Int} (h : wr? TValue.markV TValue.cnV k x = some y) : y.1.list.length = x.list.length ∧ y.1.columns.length = x.columns.length ∧ y.1.rows.length = x.rows.length := by
  rw [(wr_spec h).1]
  simp only [TValue.markV, TRow.markL_eq, TValue.markL_eq, strMarkL_eq, mkL_length, and_self]
def TMark.d (x : TMark) : D := .agg [D.int x.x, D.int x.y, D.int x.w, D.int x.h]
def TMark.mark (x : TMark) (k : Int) : TMark := ⟨k, k + 1, k + 1 + 1, k + 1 + 1 + 1⟩
def TMark.cn (x : TMark) : Nat := 4
def TMark.markL (xs : List TMark) (k : Int) : List TMark := mkL TMark.mark TMark.cn xs k
def TMark.cnL (xs : List TMark) : Nat := cnS TMark.cn xs
theorem TMark.markL_eq (xs : List TMark) (k : Int) : TMark.markL xs k = mkL TMark.mark TMark.cn xs k := rfl
theorem TMark.cnL_eq (xs : List TMark) : TMark.cnL xs = cnS TMark.cn xs := rfl
theorem TMark.mark_eq (x : TMark) (k : Int) : x.mark k = ⟨k, k + 1, k + 1 + 1, k + 1 + 1 + 1⟩ := rfl
theorem TMark.cn_eq (x : TMark) : x.cn = 4 := rfl
def TScene.d (x : TScene) : D := .agg [D.int x.w, D.int x.h, D.sl (x.marks.map TMark.d)]
def TScene.markV (x : TScene) (k : Int) : TScene := ⟨x.w, x.h, TMark.markL x.marks (k)⟩
def TScene.cnV (x : TScene) : Nat := TMark.cnL x.marks
theorem TScene.markV_len {k : Int} {x : TScene} {y : TScene × Int} (h : wr? TScene.markV TScene.cnV k x = some y) : y.1.marks.length = x.marks.length := by
  rw [(wr_spec h).1]
  simp only [TScene.markV, TMark.markL_eq, mkL_length, and_self]
end Go.Proofs.Ytmiboaogfjgkjaa
