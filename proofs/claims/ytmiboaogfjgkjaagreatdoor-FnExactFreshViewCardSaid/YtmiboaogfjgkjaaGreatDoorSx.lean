/- The structures of the program as plain data, and their cells. Written by a program of mine. -/
import Derived.Test.YtmiboaogfjgkjaaGreatDoorPkC
set_option linter.unusedSimpArgs false
set_option linter.unusedVariables false
namespace Go.Proofs.YtmiboaogfjgkjaaGreatDoor
open Go.RowKit Am
structure TCell where
  id : Int
  version : Int
  kind : Int
  name : ByteArray
  code : ByteArray
  n : Int
def TCell.c (x : TCell) : List L := [.int .i64 x.id, .int .i64 x.version, .int .i64 x.kind, .str x.name, .str x.code, .int .i64 x.n]
@[go_sem] theorem TCell.c_eq (x : TCell) : x.c = [.int .i64 x.id, .int .i64 x.version, .int .i64 x.kind, .str x.name, .str x.code, .int .i64 x.n] := rfl
@[go_sem] theorem TCell.lens (xs : List TCell) : (∀ e ∈ xs.map TCell.c, e.length = 6) ↔ True := by simp [TCell.c_eq]
@[go_sem] theorem TCell.flats (xs : List TCell) : flatE (xs.map TCell.c) = true := by simp [flatE, flatL, L.flat, TCell.c_eq]
@[go_sem] theorem TCell.flatsA (xs : List TCell) : xs.all (flatL ∘ TCell.c) = true := by simp [flatL, L.flat, TCell.c_eq]
structure TNotebook where
  cells : List TCell
def TNotebook.c (x : TNotebook) : List L := [.sl (x.cells.map TCell.c)]
@[go_sem] theorem TNotebook.c_eq (x : TNotebook) : x.c = [.sl (x.cells.map TCell.c)] := rfl
@[go_sem] theorem TNotebook.lens (xs : List TNotebook) : (∀ e ∈ xs.map TNotebook.c, e.length = 1) ↔ True := by simp [TNotebook.c_eq]
structure TOrigin where
  cell : Int
  row : Int
def TOrigin.c (x : TOrigin) : List L := [.int .i64 x.cell, .int .i64 x.row]
@[go_sem] theorem TOrigin.c_eq (x : TOrigin) : x.c = [.int .i64 x.cell, .int .i64 x.row] := rfl
@[go_sem] theorem TOrigin.lens (xs : List TOrigin) : (∀ e ∈ xs.map TOrigin.c, e.length = 2) ↔ True := by simp [TOrigin.c_eq]
@[go_sem] theorem TOrigin.flats (xs : List TOrigin) : flatE (xs.map TOrigin.c) = true := by simp [flatE, flatL, L.flat, TOrigin.c_eq]
@[go_sem] theorem TOrigin.flatsA (xs : List TOrigin) : xs.all (flatL ∘ TOrigin.c) = true := by simp [flatL, L.flat, TOrigin.c_eq]
structure TRow where
  cells : List Int
  from_ : List TOrigin
def TRow.c (x : TRow) : List L := [.sl (x.cells.map iC), .sl (x.from_.map TOrigin.c)]
@[go_sem] theorem TRow.c_eq (x : TRow) : x.c = [.sl (x.cells.map iC), .sl (x.from_.map TOrigin.c)] := rfl
@[go_sem] theorem TRow.lens (xs : List TRow) : (∀ e ∈ xs.map TRow.c, e.length = 2) ↔ True := by simp [TRow.c_eq]
structure TValue where
  kind : Int
  n : Int
  step : Int
  text : ByteArray
  list : List TValue
  columns : List ByteArray
  rows : List TRow
mutual
def TValue.c : TValue → List L
  | ⟨kind, n, step, text, list, columns, rows⟩ => [.int .i64 kind, .int .i64 n, .int .i64 step, .str text, .sl (TValue.cs list), .sl (columns.map sC), .sl (rows.map TRow.c)]
def TValue.cs : List TValue → List (List L)
  | [] => []
  | x :: xs => TValue.c x :: TValue.cs xs
end
theorem TValue.cs_map : ∀ xs : List TValue, TValue.cs xs = xs.map TValue.c
  | [] => rfl
  | x :: xs => by rw [TValue.cs, TValue.cs_map xs]; rfl
@[go_sem] theorem TValue.c_eq (x : TValue) : x.c = [.int .i64 x.kind, .int .i64 x.n, .int .i64 x.step, .str x.text, .sl (x.list.map TValue.c), .sl (x.columns.map sC), .sl (x.rows.map TRow.c)] := by
  cases x; simp only [TValue.c, TValue.cs_map]
@[go_sem] theorem TValue.lens (xs : List TValue) : (∀ e ∈ xs.map TValue.c, e.length = 7) ↔ True := by simp [TValue.c_eq]
structure TRead where
  kind : Int
  n : Int
  time : Int
  text : ByteArray
  result : TValue
def TRead.c (x : TRead) : List L := [.int .i64 x.kind, .int .i64 x.n, .int .i64 x.time, .str x.text, .int .i64 x.result.kind, .int .i64 x.result.n, .int .i64 x.result.step, .str x.result.text, .sl (x.result.list.map TValue.c), .sl (x.result.columns.map sC), .sl (x.result.rows.map TRow.c)]
@[go_sem] theorem TRead.c_eq (x : TRead) : x.c = [.int .i64 x.kind, .int .i64 x.n, .int .i64 x.time, .str x.text, .int .i64 x.result.kind, .int .i64 x.result.n, .int .i64 x.result.step, .str x.result.text, .sl (x.result.list.map TValue.c), .sl (x.result.columns.map sC), .sl (x.result.rows.map TRow.c)] := rfl
@[go_sem] theorem TRead.lens (xs : List TRead) : (∀ e ∈ xs.map TRead.c, e.length = 11) ↔ True := by simp [TRead.c_eq]
structure TTape where
  cell : Int
  version : Int
  reads : List TRead
def TTape.c (x : TTape) : List L := [.int .i64 x.cell, .int .i64 x.version, .sl (x.reads.map TRead.c)]
@[go_sem] theorem TTape.c_eq (x : TTape) : x.c = [.int .i64 x.cell, .int .i64 x.version, .sl (x.reads.map TRead.c)] := rfl
@[go_sem] theorem TTape.lens (xs : List TTape) : (∀ e ∈ xs.map TTape.c, e.length = 3) ↔ True := by simp [TTape.c_eq]
structure TRun where
  values : List TValue
  tapes : List TTape
  steps : Int
def TRun.c (x : TRun) : List L := [.sl (x.values.map TValue.c), .sl (x.tapes.map TTape.c), .int .i64 x.steps]
@[go_sem] theorem TRun.c_eq (x : TRun) : x.c = [.sl (x.values.map TValue.c), .sl (x.tapes.map TTape.c), .int .i64 x.steps] := rfl
@[go_sem] theorem TRun.lens (xs : List TRun) : (∀ e ∈ xs.map TRun.c, e.length = 3) ↔ True := by simp [TRun.c_eq]
structure TLine where
  cell : Int
  fresh : Bool
  text : ByteArray
def TLine.c (x : TLine) : List L := [.int .i64 x.cell, .bool x.fresh, .str x.text]
@[go_sem] theorem TLine.c_eq (x : TLine) : x.c = [.int .i64 x.cell, .bool x.fresh, .str x.text] := rfl
@[go_sem] theorem TLine.lens (xs : List TLine) : (∀ e ∈ xs.map TLine.c, e.length = 3) ↔ True := by simp [TLine.c_eq]
@[go_sem] theorem TLine.flats (xs : List TLine) : flatE (xs.map TLine.c) = true := by simp [flatE, flatL, L.flat, TLine.c_eq]
@[go_sem] theorem TLine.flatsA (xs : List TLine) : xs.all (flatL ∘ TLine.c) = true := by simp [flatL, L.flat, TLine.c_eq]
end Go.Proofs.YtmiboaogfjgkjaaGreatDoor
