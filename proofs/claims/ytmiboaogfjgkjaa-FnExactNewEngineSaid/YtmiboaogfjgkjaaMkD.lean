/- What the laws' marks write, type by type. Written by a program of mine. -/
import Derived.Test.YtmiboaogfjgkjaaWr
set_option linter.unusedSimpArgs false
set_option linter.unusedVariables false
namespace Go.Proofs.Ytmiboaogfjgkjaa
open Go.RowKit Am

def TCell.d (x : TCell) : D := .agg [D.int x.id, D.int x.version, D.int x.kind, D.str x.name, D.str x.code, D.int x.n]
def TCell.mark (x : TCell) (k : Int) : TCell := ⟨k, k + 1, k + 1 + 1, mText (k + 1 + 1 + 1), mText (k + 1 + 1 + 1 + 1), k + 1 + 1 + 1 + 1 + 1⟩
def TCell.cn (x : TCell) : Nat := 6
def TCell.markL (xs : List TCell) (k : Int) : List TCell := mkL TCell.mark TCell.cn xs k
def TCell.cnL (xs : List TCell) : Nat := cnS TCell.cn xs
theorem TCell.markL_eq (xs : List TCell) (k : Int) : TCell.markL xs k = mkL TCell.mark TCell.cn xs k := rfl
theorem TCell.cnL_eq (xs : List TCell) : TCell.cnL xs = cnS TCell.cn xs := rfl
theorem TCell.mark_eq (x : TCell) (k : Int) : x.mark k = ⟨k, k + 1, k + 1 + 1, mText (k + 1 + 1 + 1), mText (k + 1 + 1 + 1 + 1), k + 1 + 1 + 1 + 1 + 1⟩ := rfl
theorem TCell.cn_eq (x : TCell) : x.cn = 6 := rfl
theorem TCell.markL_len {k : Int} {xs : List TCell} {y : List TCell × Int} (h : wr? TCell.markL TCell.cnL k xs = some y) : y.1.length = xs.length := by
  rw [(wr_spec h).1, TCell.markL_eq, mkL_length]
def TNotebook.d (x : TNotebook) : D := .agg [D.sl (x.cells.map TCell.d)]
def TNotebook.mark (x : TNotebook) (k : Int) : TNotebook := ⟨TCell.markL x.cells (k)⟩
def TNotebook.cn (x : TNotebook) : Nat := TCell.cnL x.cells
def TNotebook.markL (xs : List TNotebook) (k : Int) : List TNotebook := mkL TNotebook.mark TNotebook.cn xs k
def TNotebook.cnL (xs : List TNotebook) : Nat := cnS TNotebook.cn xs
theorem TNotebook.markL_eq (xs : List TNotebook) (k : Int) : TNotebook.markL xs k = mkL TNotebook.mark TNotebook.cn xs k := rfl
theorem TNotebook.cnL_eq (xs : List TNotebook) : TNotebook.cnL xs = cnS TNotebook.cn xs := rfl
theorem TNotebook.mark_eq (x : TNotebook) (k : Int) : x.mark k = ⟨TCell.markL x.cells (k)⟩ := rfl
theorem TNotebook.cn_eq (x : TNotebook) : x.cn = TCell.cnL x.cells := rfl
def TNotebook.markV (x : TNotebook) (k : Int) : TNotebook := ⟨TCell.markL x.cells (k)⟩
def TNotebook.cnV (x : TNotebook) : Nat := TCell.cnL x.cells
theorem TNotebook.markV_len {k : Int} {x : TNotebook} {y : TNotebook × Int} (h : wr? TNotebook.markV TNotebook.cnV k x = some y) : y.1.cells.length = x.cells.length := by
  rw [(wr_spec h).1]
  simp only [TNotebook.markV, TCell.markL_eq, mkL_length, and_self]
def strMark (_ : ByteArray) (k : Int) : ByteArray := mText k
def strCn (_ : ByteArray) : Nat := 1
def strMarkL (xs : List ByteArray) (k : Int) : List ByteArray := mkL strMark strCn xs k
def strCnL (xs : List ByteArray) : Nat := cnS strCn xs
theorem strMarkL_eq (xs : List ByteArray) (k : Int) : strMarkL xs k = mkL strMark strCn xs k := rfl
theorem strCnL_eq (xs : List ByteArray) : strCnL xs = cnS strCn xs := rfl
theorem strMarkL_len {k : Int} {xs : List ByteArray} {y : List ByteArray × Int} (h : wr? strMarkL strCnL k xs = some y) : y.1.length = xs.length := by
  rw [(wr_spec h).1, strMarkL_eq, mkL_length]
def intMark (_ : Int) (k : Int) : Int := k
def intCn (_ : Int) : Nat := 1
def intMarkL (xs : List Int) (k : Int) : List Int := mkL intMark intCn xs k
def intCnL (xs : List Int) : Nat := cnS intCn xs
theorem intMarkL_eq (xs : List Int) (k : Int) : intMarkL xs k = mkL intMark intCn xs k := rfl
theorem intCnL_eq (xs : List Int) : intCnL xs = cnS intCn xs := rfl
theorem intMarkL_len {k : Int} {xs : List Int} {y : List Int × Int} (h : wr? intMarkL intCnL k xs = some y) : y.1.length = xs.length := by
  rw [(wr_spec h).1, intMarkL_eq, mkL_length]
def TOrigin.d (x : TOrigin) : D := .agg [D.int x.cell, D.int x.row]
def TOrigin.mark (x : TOrigin) (k : Int) : TOrigin := ⟨k, k + 1⟩
def TOrigin.cn (x : TOrigin) : Nat := 2
def TOrigin.markL (xs : List TOrigin) (k : Int) : List TOrigin := mkL TOrigin.mark TOrigin.cn xs k
def TOrigin.cnL (xs : List TOrigin) : Nat := cnS TOrigin.cn xs
theorem TOrigin.markL_eq (xs : List TOrigin) (k : Int) : TOrigin.markL xs k = mkL TOrigin.mark TOrigin.cn xs k := rfl
theorem TOrigin.cnL_eq (xs : List TOrigin) : TOrigin.cnL xs = cnS TOrigin.cn xs := rfl
theorem TOrigin.mark_eq (x : TOrigin) (k : Int) : x.mark k = ⟨k, k + 1⟩ := rfl
theorem TOrigin.cn_eq (x : TOrigin) : x.cn = 2 := rfl
theorem TOrigin.markL_len {k : Int} {xs : List TOrigin} {y : List TOrigin × Int} (h : wr? TOrigin.markL TOrigin.cnL k xs = some y) : y.1.length = xs.length := by
  rw [(wr_spec h).1, TOrigin.markL_eq, mkL_length]
def TRow.d (x : TRow) : D := .agg [D.sl (x.cells.map D.int), D.sl (x.from_.map TOrigin.d)]
def TRow.mark (x : TRow) (k : Int) : TRow := ⟨intMarkL x.cells (k), TOrigin.markL x.from_ (k + ((intCnL x.cells : Nat) : Int))⟩
def TRow.cn (x : TRow) : Nat := intCnL x.cells + TOrigin.cnL x.from_
def TRow.markL (xs : List TRow) (k : Int) : List TRow := mkL TRow.mark TRow.cn xs k
def TRow.cnL (xs : List TRow) : Nat := cnS TRow.cn xs
theorem TRow.markL_eq (xs : List TRow) (k : Int) : TRow.markL xs k = mkL TRow.mark TRow.cn xs k := rfl
theorem TRow.cnL_eq (xs : List TRow) : TRow.cnL xs = cnS TRow.cn xs := rfl
theorem TRow.mark_eq (x : TRow) (k : Int) : x.mark k = ⟨intMarkL x.cells (k), TOrigin.markL x.from_ (k + ((intCnL x.cells : Nat) : Int))⟩ := rfl
theorem TRow.cn_eq (x : TRow) : x.cn = intCnL x.cells + TOrigin.cnL x.from_ := rfl
theorem TRow.markL_len {k : Int} {xs : List TRow} {y : List TRow × Int} (h : wr? TRow.markL TRow.cnL k xs = some y) : y.1.length = xs.length := by
  rw [(wr_spec h).1, TRow.markL_eq, mkL_length]
mutual
def TValue.d : TValue → D
  | ⟨kind, n, step, text, list, columns, rows⟩ => .agg [D.int kind, D.int n, D.int step, D.str text, D.sl (TValue.ds list), D.sl (columns.map D.str), D.sl (rows.map TRow.d)]
def TValue.ds : List TValue → List D
  | [] => []
  | x :: xs => TValue.d x :: TValue.ds xs
end
theorem TValue.ds_map : ∀ xs : List TValue, TValue.ds xs = xs.map TValue.d
  | [] => rfl
  | x :: xs => by rw [TValue.ds, TValue.ds_map xs]; rfl
theorem TValue.d_eq (x : TValue) : x.d = .agg [D.int x.kind, D.int x.n, D.int x.step, D.str x.text, D.sl (x.list.map TValue.d), D.sl (x.columns.map D.str), D.sl (x.rows.map TRow.d)] := by
  cases x; simp only [TValue.d, TValue.ds_map]
mutual
def TValue.cn : TValue → Nat
  | ⟨kind, n, step, text, list, columns, rows⟩ => 4 + TValue.cnL list + strCnL columns + TRow.cnL rows
def TValue.cnL : List TValue → Nat
  | [] => 0
  | x :: xs => TValue.cn x + TValue.cnL xs
end
mutual
def TValue.mark : TValue → Int → TValue
  | ⟨kind, n, step, text, list, columns, rows⟩, k => ⟨k, k + 1, k + 1 + 1, mText (k + 1 + 1 + 1), TValue.markL list (k + 1 + 1 + 1 + 1), strMarkL columns (k + 1 + 1 + 1 + 1 + ((TValue.cnL list : Nat) : Int)), TRow.markL rows (k + 1 + 1 + 1 + 1 + ((TValue.cnL list : Nat) : Int) + ((strCnL columns : Nat) : Int))⟩
def TValue.markL : List TValue → Int → List TValue
  | [], _ => []
  | x :: xs, k => TValue.mark x k :: TValue.markL xs (k + (TValue.cn x : Nat))
end
theorem TValue.cnL_eq : ∀ xs : List TValue, TValue.cnL xs = cnS TValue.cn xs
  | [] => by simp only [TValue.cnL, cnS]
  | x :: xs => by simp only [TValue.cnL, cnS, TValue.cnL_eq xs]
theorem TValue.markL_eq : ∀ (xs : List TValue) (k : Int), TValue.markL xs k = mkL TValue.mark TValue.cn xs k
  | [], _ => by simp only [TValue.markL, mkL]
  | x :: xs, k => by simp only [TValue.markL, mkL, TValue.markL_eq xs]
theorem TValue.mark_eq (x : TValue) (k : Int) : x.mark k = ⟨k, k + 1, k + 1 + 1, mText (k + 1 + 1 + 1), TValue.markL x.list (k + 1 + 1 + 1 + 1), strMarkL x.columns (k + 1 + 1 + 1 + 1 + ((TValue.cnL x.list : Nat) : Int)), TRow.markL x.rows (k + 1 + 1 + 1 + 1 + ((TValue.cnL x.list : Nat) : Int) + ((strCnL x.columns : Nat) : Int))⟩ := by cases x; simp only [TValue.mark]
theorem TValue.cn_eq (x : TValue) : x.cn = 4 + TValue.cnL x.list + strCnL x.columns + TRow.cnL x.rows := by cases x; simp only [TValue.cn]
def TValue.markV (x : TValue) (k : Int) : TValue := ⟨x.kind, x.n, x.step, x.text, TValue.markL x.list (k), strMarkL x.columns (k + ((TValue.cnL x.list : Nat) : Int)), TRow.markL x.rows (k + ((TValue.cnL x.list : Nat) : Int) + ((strCnL x.columns : Nat) : Int))⟩
def TValue.cnV (x : TValue) : Nat := TValue.cnL x.list + strCnL x.columns + TRow.cnL x.rows
theorem TValue.markV_len {k : Int} {x : TValue} {y : TValue × Int} (h : wr? TValue.markV TValue.cnV k x = some y) : y.1.list.length = x.list.length ∧ y.1.columns.length = x.columns.length ∧ y.1.rows.length = x.rows.length := by
  rw [(wr_spec h).1]
  simp only [TValue.markV, TRow.markL_eq, TValue.markL_eq, strMarkL_eq, mkL_length, and_self]
theorem TValue.markL_len {k : Int} {xs : List TValue} {y : List TValue × Int} (h : wr? TValue.markL TValue.cnL k xs = some y) : y.1.length = xs.length := by
  rw [(wr_spec h).1, TValue.markL_eq, mkL_length]
def TRead.d (x : TRead) : D := .agg [D.int x.kind, D.int x.n, D.int x.time, D.str x.text, TValue.d x.result]
def TRead.mark (x : TRead) (k : Int) : TRead := ⟨k, k + 1, k + 1 + 1, mText (k + 1 + 1 + 1), ⟨k + 1 + 1 + 1 + 1, k + 1 + 1 + 1 + 1 + 1, k + 1 + 1 + 1 + 1 + 1 + 1, mText (k + 1 + 1 + 1 + 1 + 1 + 1 + 1), TValue.markL x.result.list (k + 1 + 1 + 1 + 1 + 1 + 1 + 1 + 1), strMarkL x.result.columns (k + 1 + 1 + 1 + 1 + 1 + 1 + 1 + 1 + ((TValue.cnL x.result.list : Nat) : Int)), TRow.markL x.result.rows (k + 1 + 1 + 1 + 1 + 1 + 1 + 1 + 1 + ((TValue.cnL x.result.list : Nat) : Int) + ((strCnL x.result.columns : Nat) : Int))⟩⟩
def TRead.cn (x : TRead) : Nat := 8 + TValue.cnL x.result.list + strCnL x.result.columns + TRow.cnL x.result.rows
def TRead.markL (xs : List TRead) (k : Int) : List TRead := mkL TRead.mark TRead.cn xs k
def TRead.cnL (xs : List TRead) : Nat := cnS TRead.cn xs
theorem TRead.markL_eq (xs : List TRead) (k : Int) : TRead.markL xs k = mkL TRead.mark TRead.cn xs k := rfl
theorem TRead.cnL_eq (xs : List TRead) : TRead.cnL xs = cnS TRead.cn xs := rfl
theorem TRead.mark_eq (x : TRead) (k : Int) : x.mark k = ⟨k, k + 1, k + 1 + 1, mText (k + 1 + 1 + 1), ⟨k + 1 + 1 + 1 + 1, k + 1 + 1 + 1 + 1 + 1, k + 1 + 1 + 1 + 1 + 1 + 1, mText (k + 1 + 1 + 1 + 1 + 1 + 1 + 1), TValue.markL x.result.list (k + 1 + 1 + 1 + 1 + 1 + 1 + 1 + 1), strMarkL x.result.columns (k + 1 + 1 + 1 + 1 + 1 + 1 + 1 + 1 + ((TValue.cnL x.result.list : Nat) : Int)), TRow.markL x.result.rows (k + 1 + 1 + 1 + 1 + 1 + 1 + 1 + 1 + ((TValue.cnL x.result.list : Nat) : Int) + ((strCnL x.result.columns : Nat) : Int))⟩⟩ := rfl
theorem TRead.cn_eq (x : TRead) : x.cn = 8 + TValue.cnL x.result.list + strCnL x.result.columns + TRow.cnL x.result.rows := rfl
theorem TRead.markL_len {k : Int} {xs : List TRead} {y : List TRead × Int} (h : wr? TRead.markL TRead.cnL k xs = some y) : y.1.length = xs.length := by
  rw [(wr_spec h).1, TRead.markL_eq, mkL_length]
def TTape.d (x : TTape) : D := .agg [D.int x.cell, D.int x.version, D.sl (x.reads.map TRead.d)]
def TTape.mark (x : TTape) (k : Int) : TTape := ⟨k, k + 1, TRead.markL x.reads (k + 1 + 1)⟩
def TTape.cn (x : TTape) : Nat := 2 + TRead.cnL x.reads
def TTape.markL (xs : List TTape) (k : Int) : List TTape := mkL TTape.mark TTape.cn xs k
def TTape.cnL (xs : List TTape) : Nat := cnS TTape.cn xs
theorem TTape.markL_eq (xs : List TTape) (k : Int) : TTape.markL xs k = mkL TTape.mark TTape.cn xs k := rfl
theorem TTape.cnL_eq (xs : List TTape) : TTape.cnL xs = cnS TTape.cn xs := rfl
theorem TTape.mark_eq (x : TTape) (k : Int) : x.mark k = ⟨k, k + 1, TRead.markL x.reads (k + 1 + 1)⟩ := rfl
theorem TTape.cn_eq (x : TTape) : x.cn = 2 + TRead.cnL x.reads := rfl
theorem TTape.markL_len {k : Int} {xs : List TTape} {y : List TTape × Int} (h : wr? TTape.markL TTape.cnL k xs = some y) : y.1.length = xs.length := by
  rw [(wr_spec h).1, TTape.markL_eq, mkL_length]
def TRun.d (x : TRun) : D := .agg [D.sl (x.values.map TValue.d), D.sl (x.tapes.map TTape.d), D.int x.steps]
def TRun.mark (x : TRun) (k : Int) : TRun := ⟨TValue.markL x.values (k), TTape.markL x.tapes (k + ((TValue.cnL x.values : Nat) : Int)), k + ((TValue.cnL x.values : Nat) : Int) + ((TTape.cnL x.tapes : Nat) : Int)⟩
def TRun.cn (x : TRun) : Nat := 1 + TValue.cnL x.values + TTape.cnL x.tapes
def TRun.markL (xs : List TRun) (k : Int) : List TRun := mkL TRun.mark TRun.cn xs k
def TRun.cnL (xs : List TRun) : Nat := cnS TRun.cn xs
theorem TRun.markL_eq (xs : List TRun) (k : Int) : TRun.markL xs k = mkL TRun.mark TRun.cn xs k := rfl
theorem TRun.cnL_eq (xs : List TRun) : TRun.cnL xs = cnS TRun.cn xs := rfl
theorem TRun.mark_eq (x : TRun) (k : Int) : x.mark k = ⟨TValue.markL x.values (k), TTape.markL x.tapes (k + ((TValue.cnL x.values : Nat) : Int)), k + ((TValue.cnL x.values : Nat) : Int) + ((TTape.cnL x.tapes : Nat) : Int)⟩ := rfl
theorem TRun.cn_eq (x : TRun) : x.cn = 1 + TValue.cnL x.values + TTape.cnL x.tapes := rfl
def TRun.markV (x : TRun) (k : Int) : TRun := ⟨TValue.markL x.values (k), TTape.markL x.tapes (k + ((TValue.cnL x.values : Nat) : Int)), x.steps⟩
def TRun.cnV (x : TRun) : Nat := TValue.cnL x.values + TTape.cnL x.tapes
theorem TRun.markV_len {k : Int} {x : TRun} {y : TRun × Int} (h : wr? TRun.markV TRun.cnV k x = some y) : y.1.values.length = x.values.length ∧ y.1.tapes.length = x.tapes.length := by
  rw [(wr_spec h).1]
  simp only [TRun.markV, TTape.markL_eq, TValue.markL_eq, mkL_length, and_self]
def TLine.d (x : TLine) : D := .agg [D.int x.cell, D.bool x.fresh, D.str x.text]
def TLine.mark (x : TLine) (k : Int) : TLine := ⟨k, ((k + 1) % 3 == 0), mText (k + 1 + 1)⟩
def TLine.cn (x : TLine) : Nat := 3
def TLine.markL (xs : List TLine) (k : Int) : List TLine := mkL TLine.mark TLine.cn xs k
def TLine.cnL (xs : List TLine) : Nat := cnS TLine.cn xs
theorem TLine.markL_eq (xs : List TLine) (k : Int) : TLine.markL xs k = mkL TLine.mark TLine.cn xs k := rfl
theorem TLine.cnL_eq (xs : List TLine) : TLine.cnL xs = cnS TLine.cn xs := rfl
theorem TLine.mark_eq (x : TLine) (k : Int) : x.mark k = ⟨k, ((k + 1) % 3 == 0), mText (k + 1 + 1)⟩ := rfl
theorem TLine.cn_eq (x : TLine) : x.cn = 3 := rfl
theorem TLine.markL_len {k : Int} {xs : List TLine} {y : List TLine × Int} (h : wr? TLine.markL TLine.cnL k xs = some y) : y.1.length = xs.length := by
  rw [(wr_spec h).1, TLine.markL_eq, mkL_length]
def TChange.d (x : TChange) : D := .agg [D.int x.at_, TLine.d x.line]
def TChange.mark (x : TChange) (k : Int) : TChange := ⟨k, ⟨k + 1, ((k + 1 + 1) % 3 == 0), mText (k + 1 + 1 + 1)⟩⟩
def TChange.cn (x : TChange) : Nat := 4
def TChange.markL (xs : List TChange) (k : Int) : List TChange := mkL TChange.mark TChange.cn xs k
def TChange.cnL (xs : List TChange) : Nat := cnS TChange.cn xs
theorem TChange.markL_eq (xs : List TChange) (k : Int) : TChange.markL xs k = mkL TChange.mark TChange.cn xs k := rfl
theorem TChange.cnL_eq (xs : List TChange) : TChange.cnL xs = cnS TChange.cn xs := rfl
theorem TChange.mark_eq (x : TChange) (k : Int) : x.mark k = ⟨k, ⟨k + 1, ((k + 1 + 1) % 3 == 0), mText (k + 1 + 1 + 1)⟩⟩ := rfl
theorem TChange.cn_eq (x : TChange) : x.cn = 4 := rfl
theorem TChange.markL_len {k : Int} {xs : List TChange} {y : List TChange × Int} (h : wr? TChange.markL TChange.cnL k xs = some y) : y.1.length = xs.length := by
  rw [(wr_spec h).1, TChange.markL_eq, mkL_length]
def TDiff.d (x : TDiff) : D := .agg [D.int x.length, D.sl (x.changes.map TChange.d)]
def TDiff.mark (x : TDiff) (k : Int) : TDiff := ⟨k, TChange.markL x.changes (k + 1)⟩
def TDiff.cn (x : TDiff) : Nat := 1 + TChange.cnL x.changes
def TDiff.markL (xs : List TDiff) (k : Int) : List TDiff := mkL TDiff.mark TDiff.cn xs k
def TDiff.cnL (xs : List TDiff) : Nat := cnS TDiff.cn xs
theorem TDiff.markL_eq (xs : List TDiff) (k : Int) : TDiff.markL xs k = mkL TDiff.mark TDiff.cn xs k := rfl
theorem TDiff.cnL_eq (xs : List TDiff) : TDiff.cnL xs = cnS TDiff.cn xs := rfl
theorem TDiff.mark_eq (x : TDiff) (k : Int) : x.mark k = ⟨k, TChange.markL x.changes (k + 1)⟩ := rfl
theorem TDiff.cn_eq (x : TDiff) : x.cn = 1 + TChange.cnL x.changes := rfl
def TDiff.markV (x : TDiff) (k : Int) : TDiff := ⟨x.length, TChange.markL x.changes (k)⟩
def TDiff.cnV (x : TDiff) : Nat := TChange.cnL x.changes
theorem TDiff.markV_len {k : Int} {x : TDiff} {y : TDiff × Int} (h : wr? TDiff.markV TDiff.cnV k x = some y) : y.1.changes.length = x.changes.length := by
  rw [(wr_spec h).1]
  simp only [TDiff.markV, TChange.markL_eq, mkL_length, and_self]
def TFile.d (x : TFile) : D := .agg [D.str x.name, D.int x.n]
def TFile.mark (x : TFile) (k : Int) : TFile := ⟨mText (k), k + 1⟩
def TFile.cn (x : TFile) : Nat := 2
def TFile.markL (xs : List TFile) (k : Int) : List TFile := mkL TFile.mark TFile.cn xs k
def TFile.cnL (xs : List TFile) : Nat := cnS TFile.cn xs
theorem TFile.markL_eq (xs : List TFile) (k : Int) : TFile.markL xs k = mkL TFile.mark TFile.cn xs k := rfl
theorem TFile.cnL_eq (xs : List TFile) : TFile.cnL xs = cnS TFile.cn xs := rfl
theorem TFile.mark_eq (x : TFile) (k : Int) : x.mark k = ⟨mText (k), k + 1⟩ := rfl
theorem TFile.cn_eq (x : TFile) : x.cn = 2 := rfl
theorem TFile.markL_len {k : Int} {xs : List TFile} {y : List TFile × Int} (h : wr? TFile.markL TFile.cnL k xs = some y) : y.1.length = xs.length := by
  rw [(wr_spec h).1, TFile.markL_eq, mkL_length]
def TWorld.d (x : TWorld) : D := .agg [D.int x.clock, D.int x.seed, D.sl (x.files.map TFile.d)]
def TWorld.mark (x : TWorld) (k : Int) : TWorld := ⟨k, k + 1, TFile.markL x.files (k + 1 + 1)⟩
def TWorld.cn (x : TWorld) : Nat := 2 + TFile.cnL x.files
def TWorld.markL (xs : List TWorld) (k : Int) : List TWorld := mkL TWorld.mark TWorld.cn xs k
def TWorld.cnL (xs : List TWorld) : Nat := cnS TWorld.cn xs
theorem TWorld.markL_eq (xs : List TWorld) (k : Int) : TWorld.markL xs k = mkL TWorld.mark TWorld.cn xs k := rfl
theorem TWorld.cnL_eq (xs : List TWorld) : TWorld.cnL xs = cnS TWorld.cn xs := rfl
theorem TWorld.mark_eq (x : TWorld) (k : Int) : x.mark k = ⟨k, k + 1, TFile.markL x.files (k + 1 + 1)⟩ := rfl
theorem TWorld.cn_eq (x : TWorld) : x.cn = 2 + TFile.cnL x.files := rfl
def TWorld.markV (x : TWorld) (k : Int) : TWorld := ⟨x.clock, x.seed, TFile.markL x.files (k)⟩
def TWorld.cnV (x : TWorld) : Nat := TFile.cnL x.files
theorem TWorld.markV_len {k : Int} {x : TWorld} {y : TWorld × Int} (h : wr? TWorld.markV TWorld.cnV k x = some y) : y.1.files.length = x.files.length := by
  rw [(wr_spec h).1]
  simp only [TWorld.markV, TFile.markL_eq, mkL_length, and_self]
def TEntry.d (x : TEntry) : D := .agg [D.int x.cell, D.int x.version, D.int x.stamp, D.sl (x.inputs.map D.int), TValue.d x.value, D.bool x.has]
def TEntry.mark (x : TEntry) (k : Int) : TEntry := ⟨k, k + 1, k + 1 + 1, intMarkL x.inputs (k + 1 + 1 + 1), ⟨k + 1 + 1 + 1 + ((intCnL x.inputs : Nat) : Int), k + 1 + 1 + 1 + ((intCnL x.inputs : Nat) : Int) + 1, k + 1 + 1 + 1 + ((intCnL x.inputs : Nat) : Int) + 1 + 1, mText (k + 1 + 1 + 1 + ((intCnL x.inputs : Nat) : Int) + 1 + 1 + 1), TValue.markL x.value.list (k + 1 + 1 + 1 + ((intCnL x.inputs : Nat) : Int) + 1 + 1 + 1 + 1), strMarkL x.value.columns (k + 1 + 1 + 1 + ((intCnL x.inputs : Nat) : Int) + 1 + 1 + 1 + 1 + ((TValue.cnL x.value.list : Nat) : Int)), TRow.markL x.value.rows (k + 1 + 1 + 1 + ((intCnL x.inputs : Nat) : Int) + 1 + 1 + 1 + 1 + ((TValue.cnL x.value.list : Nat) : Int) + ((strCnL x.value.columns : Nat) : Int))⟩, ((k + 1 + 1 + 1 + ((intCnL x.inputs : Nat) : Int) + 1 + 1 + 1 + 1 + ((TValue.cnL x.value.list : Nat) : Int) + ((strCnL x.value.columns : Nat) : Int) + ((TRow.cnL x.value.rows : Nat) : Int)) % 3 == 0)⟩
def TEntry.cn (x : TEntry) : Nat := 8 + intCnL x.inputs + TValue.cnL x.value.list + strCnL x.value.columns + TRow.cnL x.value.rows
def TEntry.markL (xs : List TEntry) (k : Int) : List TEntry := mkL TEntry.mark TEntry.cn xs k
def TEntry.cnL (xs : List TEntry) : Nat := cnS TEntry.cn xs
theorem TEntry.markL_eq (xs : List TEntry) (k : Int) : TEntry.markL xs k = mkL TEntry.mark TEntry.cn xs k := rfl
theorem TEntry.cnL_eq (xs : List TEntry) : TEntry.cnL xs = cnS TEntry.cn xs := rfl
theorem TEntry.mark_eq (x : TEntry) (k : Int) : x.mark k = ⟨k, k + 1, k + 1 + 1, intMarkL x.inputs (k + 1 + 1 + 1), ⟨k + 1 + 1 + 1 + ((intCnL x.inputs : Nat) : Int), k + 1 + 1 + 1 + ((intCnL x.inputs : Nat) : Int) + 1, k + 1 + 1 + 1 + ((intCnL x.inputs : Nat) : Int) + 1 + 1, mText (k + 1 + 1 + 1 + ((intCnL x.inputs : Nat) : Int) + 1 + 1 + 1), TValue.markL x.value.list (k + 1 + 1 + 1 + ((intCnL x.inputs : Nat) : Int) + 1 + 1 + 1 + 1), strMarkL x.value.columns (k + 1 + 1 + 1 + ((intCnL x.inputs : Nat) : Int) + 1 + 1 + 1 + 1 + ((TValue.cnL x.value.list : Nat) : Int)), TRow.markL x.value.rows (k + 1 + 1 + 1 + ((intCnL x.inputs : Nat) : Int) + 1 + 1 + 1 + 1 + ((TValue.cnL x.value.list : Nat) : Int) + ((strCnL x.value.columns : Nat) : Int))⟩, ((k + 1 + 1 + 1 + ((intCnL x.inputs : Nat) : Int) + 1 + 1 + 1 + 1 + ((TValue.cnL x.value.list : Nat) : Int) + ((strCnL x.value.columns : Nat) : Int) + ((TRow.cnL x.value.rows : Nat) : Int)) % 3 == 0)⟩ := rfl
theorem TEntry.cn_eq (x : TEntry) : x.cn = 8 + intCnL x.inputs + TValue.cnL x.value.list + strCnL x.value.columns + TRow.cnL x.value.rows := rfl
theorem TEntry.markL_len {k : Int} {xs : List TEntry} {y : List TEntry × Int} (h : wr? TEntry.markL TEntry.cnL k xs = some y) : y.1.length = xs.length := by
  rw [(wr_spec h).1, TEntry.markL_eq, mkL_length]
def TEngine.d (x : TEngine) : D := .agg [TNotebook.d x.notebook, TWorld.d x.world, D.sl (x.tapes.map TTape.d), D.sl (x.entries.map TEntry.d), D.int x.next, D.int x.limit, D.int x.work]
def TEngine.mark (x : TEngine) (k : Int) : TEngine := ⟨⟨TCell.markL x.notebook.cells (k)⟩, ⟨k + ((TCell.cnL x.notebook.cells : Nat) : Int), k + ((TCell.cnL x.notebook.cells : Nat) : Int) + 1, TFile.markL x.world.files (k + ((TCell.cnL x.notebook.cells : Nat) : Int) + 1 + 1)⟩, TTape.markL x.tapes (k + ((TCell.cnL x.notebook.cells : Nat) : Int) + 1 + 1 + ((TFile.cnL x.world.files : Nat) : Int)), TEntry.markL x.entries (k + ((TCell.cnL x.notebook.cells : Nat) : Int) + 1 + 1 + ((TFile.cnL x.world.files : Nat) : Int) + ((TTape.cnL x.tapes : Nat) : Int)), k + ((TCell.cnL x.notebook.cells : Nat) : Int) + 1 + 1 + ((TFile.cnL x.world.files : Nat) : Int) + ((TTape.cnL x.tapes : Nat) : Int) + ((TEntry.cnL x.entries : Nat) : Int), k + ((TCell.cnL x.notebook.cells : Nat) : Int) + 1 + 1 + ((TFile.cnL x.world.files : Nat) : Int) + ((TTape.cnL x.tapes : Nat) : Int) + ((TEntry.cnL x.entries : Nat) : Int) + 1, k + ((TCell.cnL x.notebook.cells : Nat) : Int) + 1 + 1 + ((TFile.cnL x.world.files : Nat) : Int) + ((TTape.cnL x.tapes : Nat) : Int) + ((TEntry.cnL x.entries : Nat) : Int) + 1 + 1⟩
def TEngine.cn (x : TEngine) : Nat := 5 + TCell.cnL x.notebook.cells + TFile.cnL x.world.files + TTape.cnL x.tapes + TEntry.cnL x.entries
def TEngine.markL (xs : List TEngine) (k : Int) : List TEngine := mkL TEngine.mark TEngine.cn xs k
def TEngine.cnL (xs : List TEngine) : Nat := cnS TEngine.cn xs
theorem TEngine.markL_eq (xs : List TEngine) (k : Int) : TEngine.markL xs k = mkL TEngine.mark TEngine.cn xs k := rfl
theorem TEngine.cnL_eq (xs : List TEngine) : TEngine.cnL xs = cnS TEngine.cn xs := rfl
theorem TEngine.mark_eq (x : TEngine) (k : Int) : x.mark k = ⟨⟨TCell.markL x.notebook.cells (k)⟩, ⟨k + ((TCell.cnL x.notebook.cells : Nat) : Int), k + ((TCell.cnL x.notebook.cells : Nat) : Int) + 1, TFile.markL x.world.files (k + ((TCell.cnL x.notebook.cells : Nat) : Int) + 1 + 1)⟩, TTape.markL x.tapes (k + ((TCell.cnL x.notebook.cells : Nat) : Int) + 1 + 1 + ((TFile.cnL x.world.files : Nat) : Int)), TEntry.markL x.entries (k + ((TCell.cnL x.notebook.cells : Nat) : Int) + 1 + 1 + ((TFile.cnL x.world.files : Nat) : Int) + ((TTape.cnL x.tapes : Nat) : Int)), k + ((TCell.cnL x.notebook.cells : Nat) : Int) + 1 + 1 + ((TFile.cnL x.world.files : Nat) : Int) + ((TTape.cnL x.tapes : Nat) : Int) + ((TEntry.cnL x.entries : Nat) : Int), k + ((TCell.cnL x.notebook.cells : Nat) : Int) + 1 + 1 + ((TFile.cnL x.world.files : Nat) : Int) + ((TTape.cnL x.tapes : Nat) : Int) + ((TEntry.cnL x.entries : Nat) : Int) + 1, k + ((TCell.cnL x.notebook.cells : Nat) : Int) + 1 + 1 + ((TFile.cnL x.world.files : Nat) : Int) + ((TTape.cnL x.tapes : Nat) : Int) + ((TEntry.cnL x.entries : Nat) : Int) + 1 + 1⟩ := rfl
theorem TEngine.cn_eq (x : TEngine) : x.cn = 5 + TCell.cnL x.notebook.cells + TFile.cnL x.world.files + TTape.cnL x.tapes + TEntry.cnL x.entries := rfl
def TEngine.markV (x : TEngine) (k : Int) : TEngine := ⟨TNotebook.markV x.notebook (k), TWorld.markV x.world (k + ((TNotebook.cnV x.notebook : Nat) : Int)), TTape.markL x.tapes (k + ((TNotebook.cnV x.notebook : Nat) : Int) + ((TWorld.cnV x.world : Nat) : Int)), TEntry.markL x.entries (k + ((TNotebook.cnV x.notebook : Nat) : Int) + ((TWorld.cnV x.world : Nat) : Int) + ((TTape.cnL x.tapes : Nat) : Int)), x.next, x.limit, x.work⟩
def TEngine.cnV (x : TEngine) : Nat := TNotebook.cnV x.notebook + TWorld.cnV x.world + TTape.cnL x.tapes + TEntry.cnL x.entries
theorem TEngine.markV_len {k : Int} {x : TEngine} {y : TEngine × Int} (h : wr? TEngine.markV TEngine.cnV k x = some y) : y.1.notebook.cells.length = x.notebook.cells.length ∧ y.1.world.files.length = x.world.files.length ∧ y.1.tapes.length = x.tapes.length ∧ y.1.entries.length = x.entries.length := by
  rw [(wr_spec h).1]
  simp only [TEngine.markV, TNotebook.markV, TWorld.markV, TCell.markL_eq, TEntry.markL_eq, TFile.markL_eq, TTape.markL_eq, mkL_length, and_self]
def TMark.d (x : TMark) : D := .agg [D.int x.x, D.int x.y, D.int x.w, D.int x.h]
def TMark.mark (x : TMark) (k : Int) : TMark := ⟨k, k + 1, k + 1 + 1, k + 1 + 1 + 1⟩
def TMark.cn (x : TMark) : Nat := 4
def TMark.markL (xs : List TMark) (k : Int) : List TMark := mkL TMark.mark TMark.cn xs k
def TMark.cnL (xs : List TMark) : Nat := cnS TMark.cn xs
theorem TMark.markL_eq (xs : List TMark) (k : Int) : TMark.markL xs k = mkL TMark.mark TMark.cn xs k := rfl
theorem TMark.cnL_eq (xs : List TMark) : TMark.cnL xs = cnS TMark.cn xs := rfl
theorem TMark.mark_eq (x : TMark) (k : Int) : x.mark k = ⟨k, k + 1, k + 1 + 1, k + 1 + 1 + 1⟩ := rfl
theorem TMark.cn_eq (x : TMark) : x.cn = 4 := rfl
theorem TMark.markL_len {k : Int} {xs : List TMark} {y : List TMark × Int} (h : wr? TMark.markL TMark.cnL k xs = some y) : y.1.length = xs.length := by
  rw [(wr_spec h).1, TMark.markL_eq, mkL_length]
def TScene.d (x : TScene) : D := .agg [D.int x.w, D.int x.h, D.sl (x.marks.map TMark.d)]
def TScene.mark (x : TScene) (k : Int) : TScene := ⟨k, k + 1, TMark.markL x.marks (k + 1 + 1)⟩
def TScene.cn (x : TScene) : Nat := 2 + TMark.cnL x.marks
def TScene.markL (xs : List TScene) (k : Int) : List TScene := mkL TScene.mark TScene.cn xs k
def TScene.cnL (xs : List TScene) : Nat := cnS TScene.cn xs
theorem TScene.markL_eq (xs : List TScene) (k : Int) : TScene.markL xs k = mkL TScene.mark TScene.cn xs k := rfl
theorem TScene.cnL_eq (xs : List TScene) : TScene.cnL xs = cnS TScene.cn xs := rfl
theorem TScene.mark_eq (x : TScene) (k : Int) : x.mark k = ⟨k, k + 1, TMark.markL x.marks (k + 1 + 1)⟩ := rfl
theorem TScene.cn_eq (x : TScene) : x.cn = 2 + TMark.cnL x.marks := rfl
def TScene.markV (x : TScene) (k : Int) : TScene := ⟨x.w, x.h, TMark.markL x.marks (k)⟩
def TScene.cnV (x : TScene) : Nat := TMark.cnL x.marks
theorem TScene.markV_len {k : Int} {x : TScene} {y : TScene × Int} (h : wr? TScene.markV TScene.cnV k x = some y) : y.1.marks.length = x.marks.length := by
  rw [(wr_spec h).1]
  simp only [TScene.markV, TMark.markL_eq, mkL_length, and_self]
end Go.Proofs.Ytmiboaogfjgkjaa
