/- What the laws' marks write, type by type. Written by a program of mine. -/
import Derived.Test.YtbknilpmpjjfpaaGreatWr
set_option linter.unusedSimpArgs false
set_option linter.unusedVariables false
namespace Go.Proofs.YtbknilpmpjjfpaaGreat
open Go.RowKit Am
def TCell.d (x : TCell) : D := .agg [D.int x.id, D.int x.version, D.int x.kind, D.str x.name, D.str x.code, D.int x.n]
def TCell.mark (x : TCell) (k : Int) : TCell := ⟨k, k + 1, k + 1 + 1, mText (k + 1 + 1 + 1), mText (k + 1 + 1 + 1 + 1), k + 1 + 1 + 1 + 1 + 1⟩
def TCell.cn (x : TCell) : Nat := 6
def TCell.markL (xs : List TCell) (k : Int) : List TCell := mkL TCell.mark TCell.cn xs k
def TCell.cnL (xs : List TCell) : Nat := cnS TCell.cn xs
theorem TCell.markL_eq (xs : List TCell) (k : Int) : TCell.markL xs k = mkL TCell.mark TCell.cn xs k := rfl
theorem TCell.cnL_eq (xs : List TCell) : TCell.cnL xs = cnS TCell.cn xs := rfl
theorem TCell.mark_eq (x : TCell) (k : Int) : x.mark k = ⟨k, k + 1, k + 1 + 1, mText (k + 1 + 1 + 1), mText (k + 1 + 1 + 1 + 1), k + 1 + 1 + 1 + 1 + 1⟩ := rfl
theorem TCell.cn_eq (x : TCell) : x.cn = 6 := rfl
def TNotebook.d (x : TNotebook) : D := .agg [D.sl (x.cells.map TCell.d)]
def TNotebook.markV (x : TNotebook) (k : Int) : TNotebook := ⟨TCell.markL x.cells (k)⟩
def TNotebook.cnV (x : TNotebook) : Nat := TCell.cnL x.cells
def TFile.d (x : TFile) : D := .agg [D.str x.name, D.int x.n]
def TFile.mark (x : TFile) (k : Int) : TFile := ⟨mText (k), k + 1⟩
def TFile.cn (x : TFile) : Nat := 2
def TFile.markL (xs : List TFile) (k : Int) : List TFile := mkL TFile.mark TFile.cn xs k
def TFile.cnL (xs : List TFile) : Nat := cnS TFile.cn xs
theorem TFile.markL_eq (xs : List TFile) (k : Int) : TFile.markL xs k = mkL TFile.mark TFile.cn xs k := rfl
theorem TFile.cnL_eq (xs : List TFile) : TFile.cnL xs = cnS TFile.cn xs := rfl
theorem TFile.mark_eq (x : TFile) (k : Int) : x.mark k = ⟨mText (k), k + 1⟩ := rfl
theorem TFile.cn_eq (x : TFile) : x.cn = 2 := rfl
def TWorld.d (x : TWorld) : D := .agg [D.int x.clock, D.int x.seed, D.sl (x.files.map TFile.d)]
def TWorld.markV (x : TWorld) (k : Int) : TWorld := ⟨x.clock, x.seed, TFile.markL x.files (k)⟩
def TWorld.cnV (x : TWorld) : Nat := TFile.cnL x.files
def strMark (_ : ByteArray) (k : Int) : ByteArray := mText k
def strCn (_ : ByteArray) : Nat := 1
def strMarkL (xs : List ByteArray) (k : Int) : List ByteArray := mkL strMark strCn xs k
def strCnL (xs : List ByteArray) : Nat := cnS strCn xs
theorem strMarkL_eq (xs : List ByteArray) (k : Int) : strMarkL xs k = mkL strMark strCn xs k := rfl
theorem strCnL_eq (xs : List ByteArray) : strCnL xs = cnS strCn xs := rfl
def intMark (_ : Int) (k : Int) : Int := k
def intCn (_ : Int) : Nat := 1
def intMarkL (xs : List Int) (k : Int) : List Int := mkL intMark intCn xs k
def intCnL (xs : List Int) : Nat := cnS intCn xs
theorem intMarkL_eq (xs : List Int) (k : Int) : intMarkL xs k = mkL intMark intCn xs k := rfl
theorem intCnL_eq (xs : List Int) : intCnL xs = cnS intCn xs := rfl
theorem intMarkL_len {k : Int} {xs : List Int} {y : List Int × Int} (h : wr? intMarkL intCnL k xs = some y) : y.1.length = xs.length := by
  rw [(wr_spec h).1, intMarkL_eq, mkL_length]
def TOrigin.d (x : TOrigin) : D := .agg [D.int x.cell, D.int x.row]
def TOrigin.mark (x : TOrigin) (k : Int) : TOrigin := ⟨k, k + 1⟩
def TOrigin.cn (x : TOrigin) : Nat := 2
def TOrigin.markL (xs : List TOrigin) (k : Int) : List TOrigin := mkL TOrigin.mark TOrigin.cn xs k
def TOrigin.cnL (xs : List TOrigin) : Nat := cnS TOrigin.cn xs
theorem TOrigin.markL_eq (xs : List TOrigin) (k : Int) : TOrigin.markL xs k = mkL TOrigin.mark TOrigin.cn xs k := rfl
theorem TOrigin.cnL_eq (xs : List TOrigin) : TOrigin.cnL xs = cnS TOrigin.cn xs := rfl
theorem TOrigin.mark_eq (x : TOrigin) (k : Int) : x.mark k = ⟨k, k + 1⟩ := rfl
theorem TOrigin.cn_eq (x : TOrigin) : x.cn = 2 := rfl
def TRow.d (x : TRow) : D := .agg [D.sl (x.cells.map D.int), D.sl (x.from_.map TOrigin.d)]
def TRow.mark (x : TRow) (k : Int) : TRow := ⟨intMarkL x.cells (k), TOrigin.markL x.from_ (k + ((intCnL x.cells : Nat) : Int))⟩
def TRow.cn (x : TRow) : Nat := intCnL x.cells + TOrigin.cnL x.from_
def TRow.markL (xs : List TRow) (k : Int) : List TRow := mkL TRow.mark TRow.cn xs k
def TRow.cnL (xs : List TRow) : Nat := cnS TRow.cn xs
theorem TRow.markL_eq (xs : List TRow) (k : Int) : TRow.markL xs k = mkL TRow.mark TRow.cn xs k := rfl
theorem TRow.cnL_eq (xs : List TRow) : TRow.cnL xs = cnS TRow.cn xs := rfl
theorem TRow.mark_eq (x : TRow) (k : Int) : x.mark k = ⟨intMarkL x.cells (k), TOrigin.markL x.from_ (k + ((intCnL x.cells : Nat) : Int))⟩ := rfl
theorem TRow.cn_eq (x : TRow) : x.cn = intCnL x.cells + TOrigin.cnL x.from_ := rfl
mutual
def TValue.d : TValue → D
  | ⟨kind, n, step, text, list, columns, rows⟩ => .agg [D.int kind, D.int n, D.int step, D.str text, D.sl (TValue.ds list), D.sl (columns.map D.str), D.sl (rows.map TRow.d)]
def TValue.ds : List TValue → List D
  | [] => []
  | x :: xs => TValue.d x :: TValue.ds xs
end
theorem TValue.ds_map : ∀ xs : List TValue, TValue.ds xs = xs.map TValue.d
  | [] => rfl
  | x :: xs => by rw [TValue.ds, TValue.ds_map xs]; rfl
theorem TValue.d_eq (x : TValue) : x.d = .agg [D.int x.kind, D.int x.n, D.int x.step, D.str x.text, D.sl (x.list.map TValue.d), D.sl (x.columns.map D.str), D.sl (x.rows.map TRow.d)] := by
  cases x; simp only [TValue.d, TValue.ds_map]
mutual
def TValue.cn : TValue → Nat
  | ⟨kind, n, step, text, list, columns, rows⟩ => 4 + TValue.cnL list + strCnL columns + TRow.cnL rows
def TValue.cnL : List TValue → Nat
  | [] => 0
  | x :: xs => TValue.cn x + TValue.cnL xs
end
mutual
def TValue.mark : TValue → Int → TValue
  | ⟨kind, n, step, text, list, columns, rows⟩, k => ⟨k, k + 1, k + 1 + 1, mText (k + 1 + 1 + 1), TValue.markL list (k + 1 + 1 + 1 + 1), strMarkL columns (k + 1 + 1 + 1 + 1 + ((TValue.cnL list : Nat) : Int)), TRow.markL rows (k + 1 + 1 + 1 + 1 + ((TValue.cnL list : Nat) : Int) + ((strCnL columns : Nat) : Int))⟩
def TValue.markL : List TValue → Int → List TValue
  | [], _ => []
  | x :: xs, k => TValue.mark x k :: TValue.markL xs (k + (TValue.cn x : Nat))
end
theorem TValue.cnL_eq : ∀ xs : List TValue, TValue.cnL xs = cnS TValue.cn xs
  | [] => by simp only [TValue.cnL, cnS]
  | x :: xs => by simp only [TValue.cnL, cnS, TValue.cnL_eq xs]
theorem TValue.markL_eq : ∀ (xs : List TValue) (k : Int), TValue.markL xs k = mkL TValue.mark TValue.cn xs k
  | [], _ => by simp only [TValue.markL, mkL]
  | x :: xs, k => by simp only [TValue.markL, mkL, TValue.markL_eq xs]
theorem TValue.mark_eq (x : TValue) (k : Int) : x.mark k = ⟨k, k + 1, k + 1 + 1, mText (k + 1 + 1 + 1), TValue.markL x.list (k + 1 + 1 + 1 + 1), strMarkL x.columns (k + 1 + 1 + 1 + 1 + ((TValue.cnL x.list : Nat) : Int)), TRow.markL x.rows (k + 1 + 1 + 1 + 1 + ((TValue.cnL x.list : Nat) : Int) + ((strCnL x.columns : Nat) : Int))⟩ := by cases x; simp only [TValue.mark]
theorem TValue.cn_eq (x : TValue) : x.cn = 4 + TValue.cnL x.list + strCnL x.columns + TRow.cnL x.rows := by cases x; simp only [TValue.cn]
def TRead.d (x : TRead) : D := .agg [D.int x.kind, D.int x.n, D.int x.time, D.str x.text, TValue.d x.result]
def TRead.mark (x : TRead) (k : Int) : TRead := ⟨k, k + 1, k + 1 + 1, mText (k + 1 + 1 + 1), ⟨k + 1 + 1 + 1 + 1, k + 1 + 1 + 1 + 1 + 1, k + 1 + 1 + 1 + 1 + 1 + 1, mText (k + 1 + 1 + 1 + 1 + 1 + 1 + 1), TValue.markL x.result.list (k + 1 + 1 + 1 + 1 + 1 + 1 + 1 + 1), strMarkL x.result.columns (k + 1 + 1 + 1 + 1 + 1 + 1 + 1 + 1 + ((TValue.cnL x.result.list : Nat) : Int)), TRow.markL x.result.rows (k + 1 + 1 + 1 + 1 + 1 + 1 + 1 + 1 + ((TValue.cnL x.result.list : Nat) : Int) + ((strCnL x.result.columns : Nat) : Int))⟩⟩
def TRead.cn (x : TRead) : Nat := 8 + TValue.cnL x.result.list + strCnL x.result.columns + TRow.cnL x.result.rows
def TRead.markL (xs : List TRead) (k : Int) : List TRead := mkL TRead.mark TRead.cn xs k
def TRead.cnL (xs : List TRead) : Nat := cnS TRead.cn xs
theorem TRead.markL_eq (xs : List TRead) (k : Int) : TRead.markL xs k = mkL TRead.mark TRead.cn xs k := rfl
theorem TRead.cnL_eq (xs : List TRead) : TRead.cnL xs = cnS TRead.cn xs := rfl
theorem TRead.mark_eq (x : TRead) (k : Int) : x.mark k = ⟨k, k + 1, k + 1 + 1, mText (k + 1 + 1 + 1), ⟨k + 1 + 1 + 1 + 1, k + 1 + 1 + 1 + 1 + 1, k + 1 + 1 + 1 + 1 + 1 + 1, mText (k + 1 + 1 + 1 + 1 + 1 + 1 + 1), TValue.markL x.result.list (k + 1 + 1 + 1 + 1 + 1 + 1 + 1 + 1), strMarkL x.result.columns (k + 1 + 1 + 1 + 1 + 1 + 1 + 1 + 1 + ((TValue.cnL x.result.list : Nat) : Int)), TRow.markL x.result.rows (k + 1 + 1 + 1 + 1 + 1 + 1 + 1 + 1 + ((TValue.cnL x.result.list : Nat) : Int) + ((strCnL x.result.columns : Nat) : Int))⟩⟩ := rfl
theorem TRead.cn_eq (x : TRead) : x.cn = 8 + TValue.cnL x.result.list + strCnL x.result.columns + TRow.cnL x.result.rows := rfl
def TTape.d (x : TTape) : D := .agg [D.int x.cell, D.int x.version, D.sl (x.reads.map TRead.d)]
def TTape.mark (x : TTape) (k : Int) : TTape := ⟨k, k + 1, TRead.markL x.reads (k + 1 + 1)⟩
def TTape.cn (x : TTape) : Nat := 2 + TRead.cnL x.reads
def TTape.markL (xs : List TTape) (k : Int) : List TTape := mkL TTape.mark TTape.cn xs k
def TTape.cnL (xs : List TTape) : Nat := cnS TTape.cn xs
theorem TTape.markL_eq (xs : List TTape) (k : Int) : TTape.markL xs k = mkL TTape.mark TTape.cn xs k := rfl
theorem TTape.cnL_eq (xs : List TTape) : TTape.cnL xs = cnS TTape.cn xs := rfl
theorem TTape.mark_eq (x : TTape) (k : Int) : x.mark k = ⟨k, k + 1, TRead.markL x.reads (k + 1 + 1)⟩ := rfl
theorem TTape.cn_eq (x : TTape) : x.cn = 2 + TRead.cnL x.reads := rfl
def TEntry.d (x : TEntry) : D := .agg [D.int x.cell, D.int x.version, D.int x.stamp, D.sl (x.inputs.map D.int), TValue.d x.value, D.bool x.has]
def TEntry.mark (x : TEntry) (k : Int) : TEntry := ⟨k, k + 1, k + 1 + 1, intMarkL x.inputs (k + 1 + 1 + 1), ⟨k + 1 + 1 + 1 + ((intCnL x.inputs : Nat) : Int), k + 1 + 1 + 1 + ((intCnL x.inputs : Nat) : Int) + 1, k + 1 + 1 + 1 + ((intCnL x.inputs : Nat) : Int) + 1 + 1, mText (k + 1 + 1 + 1 + ((intCnL x.inputs : Nat) : Int) + 1 + 1 + 1), TValue.markL x.value.list (k + 1 + 1 + 1 + ((intCnL x.inputs : Nat) : Int) + 1 + 1 + 1 + 1), strMarkL x.value.columns (k + 1 + 1 + 1 + ((intCnL x.inputs : Nat) : Int) + 1 + 1 + 1 + 1 + ((TValue.cnL x.value.list : Nat) : Int)), TRow.markL x.value.rows (k + 1 + 1 + 1 + ((intCnL x.inputs : Nat) : Int) + 1 + 1 + 1 + 1 + ((TValue.cnL x.value.list : Nat) : Int) + ((strCnL x.value.columns : Nat) : Int))⟩, ((k + 1 + 1 + 1 + ((intCnL x.inputs : Nat) : Int) + 1 + 1 + 1 + 1 + ((TValue.cnL x.value.list : Nat) : Int) + ((strCnL x.value.columns : Nat) : Int) + ((TRow.cnL x.value.rows : Nat) : Int)) % 3 == 0)⟩
def TEntry.cn (x : TEntry) : Nat := 8 + intCnL x.inputs + TValue.cnL x.value.list + strCnL x.value.columns + TRow.cnL x.value.rows
def TEntry.markL (xs : List TEntry) (k : Int) : List TEntry := mkL TEntry.mark TEntry.cn xs k
def TEntry.cnL (xs : List TEntry) : Nat := cnS TEntry.cn xs
theorem TEntry.markL_eq (xs : List TEntry) (k : Int) : TEntry.markL xs k = mkL TEntry.mark TEntry.cn xs k := rfl
theorem TEntry.cnL_eq (xs : List TEntry) : TEntry.cnL xs = cnS TEntry.cn xs := rfl
theorem TEntry.mark_eq (x : TEntry) (k : Int) : x.mark k = ⟨k, k + 1, k + 1 + 1, intMarkL x.inputs (k + 1 + 1 + 1), ⟨k + 1 + 1 + 1 + ((intCnL x.inputs : Nat) : Int), k + 1 + 1 + 1 + ((intCnL x.inputs : Nat) : Int) + 1, k + 1 + 1 + 1 + ((intCnL x.inputs : Nat) : Int) + 1 + 1, mText (k + 1 + 1 + 1 + ((intCnL x.inputs : Nat) : Int) + 1 + 1 + 1), TValue.markL x.value.list (k + 1 + 1 + 1 + ((intCnL x.inputs : Nat) : Int) + 1 + 1 + 1 + 1), strMarkL x.value.columns (k + 1 + 1 + 1 + ((intCnL x.inputs : Nat) : Int) + 1 + 1 + 1 + 1 + ((TValue.cnL x.value.list : Nat) : Int)), TRow.markL x.value.rows (k + 1 + 1 + 1 + ((intCnL x.inputs : Nat) : Int) + 1 + 1 + 1 + 1 + ((TValue.cnL x.value.list : Nat) : Int) + ((strCnL x.value.columns : Nat) : Int))⟩, ((k + 1 + 1 + 1 + ((intCnL x.inputs : Nat) : Int) + 1 + 1 + 1 + 1 + ((TValue.cnL x.value.list : Nat) : Int) + ((strCnL x.value.columns : Nat) : Int) + ((TRow.cnL x.value.rows : Nat) : Int)) % 3 == 0)⟩ := rfl
theorem TEntry.cn_eq (x : TEntry) : x.cn = 8 + intCnL x.inputs + TValue.cnL x.value.list + strCnL x.value.columns + TRow.cnL x.value.rows := rfl
def TEngine.d (x : TEngine) : D := .agg [TNotebook.d x.notebook, TWorld.d x.world, D.sl (x.tapes.map TTape.d), D.sl (x.entries.map TEntry.d), D.int x.next, D.int x.limit, D.int x.work]
def TEngine.markV (x : TEngine) (k : Int) : TEngine := ⟨TNotebook.markV x.notebook (k), TWorld.markV x.world (k + ((TNotebook.cnV x.notebook : Nat) : Int)), TTape.markL x.tapes (k + ((TNotebook.cnV x.notebook : Nat) : Int) + ((TWorld.cnV x.world : Nat) : Int)), TEntry.markL x.entries (k + ((TNotebook.cnV x.notebook : Nat) : Int) + ((TWorld.cnV x.world : Nat) : Int) + ((TTape.cnL x.tapes : Nat) : Int)), x.next, x.limit, x.work⟩
def TEngine.cnV (x : TEngine) : Nat := TNotebook.cnV x.notebook + TWorld.cnV x.world + TTape.cnL x.tapes + TEntry.cnL x.entries
theorem TEngine.markV_len {k : Int} {x : TEngine} {y : TEngine × Int} (h : wr? TEngine.markV TEngine.cnV k x = some y) : y.1.notebook.cells.length = x.notebook.cells.length ∧ y.1.world.files.length = x.world.files.length ∧ y.1.tapes.length = x.tapes.length ∧ y.1.entries.length = x.entries.length := by
  rw [(wr_spec h).1]
  simp only [TEngine.markV, TNotebook.markV, TWorld.markV, TCell.markL_eq, TEntry.markL_eq, TFile.markL_eq, TTape.markL_eq, mkL_length, and_self]
def TEdit.d (x : TEdit) : D := .agg [D.int x.kind, D.int x.at_, TCell.d x.cell]
def TEdit.mark (x : TEdit) (k : Int) : TEdit := ⟨k, k + 1, ⟨k + 1 + 1, k + 1 + 1 + 1, k + 1 + 1 + 1 + 1, mText (k + 1 + 1 + 1 + 1 + 1), mText (k + 1 + 1 + 1 + 1 + 1 + 1), k + 1 + 1 + 1 + 1 + 1 + 1 + 1⟩⟩
def TEdit.cn (x : TEdit) : Nat := 8
def TEdit.markL (xs : List TEdit) (k : Int) : List TEdit := mkL TEdit.mark TEdit.cn xs k
def TEdit.cnL (xs : List TEdit) : Nat := cnS TEdit.cn xs
theorem TEdit.markL_eq (xs : List TEdit) (k : Int) : TEdit.markL xs k = mkL TEdit.mark TEdit.cn xs k := rfl
theorem TEdit.cnL_eq (xs : List TEdit) : TEdit.cnL xs = cnS TEdit.cn xs := rfl
theorem TEdit.mark_eq (x : TEdit) (k : Int) : x.mark k = ⟨k, k + 1, ⟨k + 1 + 1, k + 1 + 1 + 1, k + 1 + 1 + 1 + 1, mText (k + 1 + 1 + 1 + 1 + 1), mText (k + 1 + 1 + 1 + 1 + 1 + 1), k + 1 + 1 + 1 + 1 + 1 + 1 + 1⟩⟩ := rfl
theorem TEdit.cn_eq (x : TEdit) : x.cn = 8 := rfl
theorem TEdit.markL_len {k : Int} {xs : List TEdit} {y : List TEdit × Int} (h : wr? TEdit.markL TEdit.cnL k xs = some y) : y.1.length = xs.length := by
  rw [(wr_spec h).1, TEdit.markL_eq, mkL_length]
end Go.Proofs.YtbknilpmpjjfpaaGreat
