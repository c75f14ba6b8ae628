/- The structures of the program as plain data, and their cells. Written by a program of mine. -/
import Derived.Test.YtbknilpmpjjfpaaGreatPkC
set_option linter.unusedSimpArgs false
set_option linter.unusedVariables false
namespace Go.Proofs.YtbknilpmpjjfpaaGreat
open Go.RowKit Am
structure TCell where
  id : Int
  version : Int
  kind : Int
  name : ByteArray
  code : ByteArray
  n : Int
def TCell.c (x : TCell) : List L := [.int .i64 x.id, .int .i64 x.version, .int .i64 x.kind, .str x.name, .str x.code, .int .i64 x.n]
@[go_sem] theorem TCell.c_eq (x : TCell) : x.c = [.int .i64 x.id, .int .i64 x.version, .int .i64 x.kind, .str x.name, .str x.code, .int .i64 x.n] := rfl
@[go_sem] theorem TCell.lens (xs : List TCell) : (∀ e ∈ xs.map TCell.c, e.length = 6) ↔ True := by simp [TCell.c_eq]
@[go_sem] theorem TCell.flats (xs : List TCell) : flatE (xs.map TCell.c) = true := by simp [flatE, flatL, L.flat, TCell.c_eq]
@[go_sem] theorem TCell.flatsA (xs : List TCell) : xs.all (flatL ∘ TCell.c) = true := by simp [flatL, L.flat, TCell.c_eq]
structure TNotebook where
  cells : List TCell
def TNotebook.c (x : TNotebook) : List L := [.sl (x.cells.map TCell.c)]
@[go_sem] theorem TNotebook.c_eq (x : TNotebook) : x.c = [.sl (x.cells.map TCell.c)] := rfl
@[go_sem] theorem TNotebook.lens (xs : List TNotebook) : (∀ e ∈ xs.map TNotebook.c, e.length = 1) ↔ True := by simp [TNotebook.c_eq]
structure TFile where
  name : ByteArray
  n : Int
def TFile.c (x : TFile) : List L := [.str x.name, .int .i64 x.n]
@[go_sem] theorem TFile.c_eq (x : TFile) : x.c = [.str x.name, .int .i64 x.n] := rfl
@[go_sem] theorem TFile.lens (xs : List TFile) : (∀ e ∈ xs.map TFile.c, e.length = 2) ↔ True := by simp [TFile.c_eq]
@[go_sem] theorem TFile.flats (xs : List TFile) : flatE (xs.map TFile.c) = true := by simp [flatE, flatL, L.flat, TFile.c_eq]
@[go_sem] theorem TFile.flatsA (xs : List TFile) : xs.all (flatL ∘ TFile.c) = true := by simp [flatL, L.flat, TFile.c_eq]
structure TWorld where
  clock : Int
  seed : Int
  files : List TFile
def TWorld.c (x : TWorld) : List L := [.int .i64 x.clock, .int .i64 x.seed, .sl (x.files.map TFile.c)]
@[go_sem] theorem TWorld.c_eq (x : TWorld) : x.c = [.int .i64 x.clock, .int .i64 x.seed, .sl (x.files.map TFile.c)] := rfl
@[go_sem] theorem TWorld.lens (xs : List TWorld) : (∀ e ∈ xs.map TWorld.c, e.length = 3) ↔ True := by simp [TWorld.c_eq]
structure TOrigin where
  cell : Int
  row : Int
def TOrigin.c (x : TOrigin) : List L := [.int .i64 x.cell, .int .i64 x.row]
@[go_sem] theorem TOrigin.c_eq (x : TOrigin) : x.c = [.int .i64 x.cell, .int .i64 x.row] := rfl
@[go_sem] theorem TOrigin.lens (xs : List TOrigin) : (∀ e ∈ xs.map TOrigin.c, e.length = 2) ↔ True := by simp [TOrigin.c_eq]
@[go_sem] theorem TOrigin.flats (xs : List TOrigin) : flatE (xs.map TOrigin.c) = true := by simp [flatE, flatL, L.flat, TOrigin.c_eq]
@[go_sem] theorem TOrigin.flatsA (xs : List TOrigin) : xs.all (flatL ∘ TOrigin.c) = true := by simp [flatL, L.flat, TOrigin.c_eq]
structure TRow where
  cells : List Int
  from_ : List TOrigin
def TRow.c (x : TRow) : List L := [.sl (x.cells.map iC), .sl (x.from_.map TOrigin.c)]
@[go_sem] theorem TRow.c_eq (x : TRow) : x.c = [.sl (x.cells.map iC), .sl (x.from_.map TOrigin.c)] := rfl
@[go_sem] theorem TRow.lens (xs : List TRow) : (∀ e ∈ xs.map TRow.c, e.length = 2) ↔ True := by simp [TRow.c_eq]
structure TValue where
  kind : Int
  n : Int
  step : Int
  text : ByteArray
  list : List TValue
  columns : List ByteArray
  rows : List TRow
mutual
def TValue.c : TValue → List L
  | ⟨kind, n, step, text, list, columns, rows⟩ => [.int .i64 kind, .int .i64 n, .int .i64 step, .str text, .sl (TValue.cs list), .sl (columns.map sC), .sl (rows.map TRow.c)]
def TValue.cs : List TValue → List (List L)
  | [] => []
  | x :: xs => TValue.c x :: TValue.cs xs
end
theorem TValue.cs_map : ∀ xs : List TValue, TValue.cs xs = xs.map TValue.c
  | [] => rfl
  | x :: xs => by rw [TValue.cs, TValue.cs_map xs]; rfl
@[go_sem] theorem TValue.c_eq (x : TValue) : x.c = [.int .i64 x.kind, .int .i64 x.n, .int .i64 x.step, .str x.text, .sl (x.list.map TValue.c), .sl (x.columns.map sC), .sl (x.rows.map TRow.c)] := by
  cases x; simp only [TValue.c, TValue.cs_map]
@[go_sem] theorem TValue.lens (xs : List TValue) : (∀ e ∈ xs.map TValue.c, e.length = 7) ↔ True := by simp [TValue.c_eq]
structure TRead where
  kind : Int
  n : Int
  time : Int
  text : ByteArray
  result : TValue
def TRead.c (x : TRead) : List L := [.int .i64 x.kind, .int .i64 x.n, .int .i64 x.time, .str x.text, .int .i64 x.result.kind, .int .i64 x.result.n, .int .i64 x.result.step, .str x.result.text, .sl (x.result.list.map TValue.c), .sl (x.result.columns.map sC), .sl (x.result.rows.map TRow.c)]
@[go_sem] theorem TRead.c_eq (x : TRead) : x.c = [.int .i64 x.kind, .int .i64 x.n, .int .i64 x.time, .str x.text, .int .i64 x.result.kind, .int .i64 x.result.n, .int .i64 x.result.step, .str x.result.text, .sl (x.result.list.map TValue.c), .sl (x.result.columns.map sC), .sl (x.result.rows.map TRow.c)] := rfl
@[go_sem] theorem TRead.lens (xs : List TRead) : (∀ e ∈ xs.map TRead.c, e.length = 11) ↔ True := by simp [TRead.c_eq]
structure TTape where
  cell : Int
  version : Int
  reads : List TRead
def TTape.c (x : TTape) : List L := [.int .i64 x.cell, .int .i64 x.version, .sl (x.reads.map TRead.c)]
@[go_sem] theorem TTape.c_eq (x : TTape) : x.c = [.int .i64 x.cell, .int .i64 x.version, .sl (x.reads.map TRead.c)] := rfl
@[go_sem] theorem TTape.lens (xs : List TTape) : (∀ e ∈ xs.map TTape.c, e.length = 3) ↔ True := by simp [TTape.c_eq]
structure TEntry where
  cell : Int
  version : Int
  stamp : Int
  inputs : List Int
  value : TValue
  has : Bool
def TEntry.c (x : TEntry) : List L := [.int .i64 x.cell, .int .i64 x.version, .int .i64 x.stamp, .sl (x.inputs.map iC), .int .i64 x.value.kind, .int .i64 x.value.n, .int .i64 x.value.step, .str x.value.text, .sl (x.value.list.map TValue.c), .sl (x.value.columns.map sC), .sl (x.value.rows.map TRow.c), .bool x.has]
@[go_sem] theorem TEntry.c_eq (x : TEntry) : x.c = [.int .i64 x.cell, .int .i64 x.version, .int .i64 x.stamp, .sl (x.inputs.map iC), .int .i64 x.value.kind, .int .i64 x.value.n, .int .i64 x.value.step, .str x.value.text, .sl (x.value.list.map TValue.c), .sl (x.value.columns.map sC), .sl (x.value.rows.map TRow.c), .bool x.has] := rfl
@[go_sem] theorem TEntry.lens (xs : List TEntry) : (∀ e ∈ xs.map TEntry.c, e.length = 12) ↔ True := by simp [TEntry.c_eq]
structure TEngine where
  notebook : TNotebook
  world : TWorld
  tapes : List TTape
  entries : List TEntry
  next : Int
  limit : Int
  work : Int
def TEngine.c (x : TEngine) : List L := [.sl (x.notebook.cells.map TCell.c), .int .i64 x.world.clock, .int .i64 x.world.seed, .sl (x.world.files.map TFile.c), .sl (x.tapes.map TTape.c), .sl (x.entries.map TEntry.c), .int .i64 x.next, .int .i64 x.limit, .int .i64 x.work]
@[go_sem] theorem TEngine.c_eq (x : TEngine) : x.c = [.sl (x.notebook.cells.map TCell.c), .int .i64 x.world.clock, .int .i64 x.world.seed, .sl (x.world.files.map TFile.c), .sl (x.tapes.map TTape.c), .sl (x.entries.map TEntry.c), .int .i64 x.next, .int .i64 x.limit, .int .i64 x.work] := rfl
@[go_sem] theorem TEngine.lens (xs : List TEngine) : (∀ e ∈ xs.map TEngine.c, e.length = 9) ↔ True := by simp [TEngine.c_eq]
structure TEdit where
  kind : Int
  at_ : Int
  cell : TCell
def TEdit.c (x : TEdit) : List L := [.int .i64 x.kind, .int .i64 x.at_, .int .i64 x.cell.id, .int .i64 x.cell.version, .int .i64 x.cell.kind, .str x.cell.name, .str x.cell.code, .int .i64 x.cell.n]
@[go_sem] theorem TEdit.c_eq (x : TEdit) : x.c = [.int .i64 x.kind, .int .i64 x.at_, .int .i64 x.cell.id, .int .i64 x.cell.version, .int .i64 x.cell.kind, .str x.cell.name, .str x.cell.code, .int .i64 x.cell.n] := rfl
@[go_sem] theorem TEdit.lens (xs : List TEdit) : (∀ e ∈ xs.map TEdit.c, e.length = 8) ↔ True := by simp [TEdit.c_eq]
@[go_sem] theorem TEdit.flats (xs : List TEdit) : flatE (xs.map TEdit.c) = true := by simp [flatE, flatL, L.flat, TEdit.c_eq]
@[go_sem] theorem TEdit.flatsA (xs : List TEdit) : xs.all (flatL ∘ TEdit.c) = true := by simp [flatL, L.flat, TEdit.c_eq]
end Go.Proofs.YtbknilpmpjjfpaaGreat
