/- The structures of the program as plain data, and their cells. Written by a program of mine. -/
import Derived.Test.YtmiboaogfjgkjaaDoorPkC
set_option linter.unusedSimpArgs false
set_option linter.unusedVariables false
namespace Go.Proofs.YtmiboaogfjgkjaaDoor
open Go.RowKit Am
structure TLine where
  cell : Int
  fresh : Bool
  text : ByteArray
def TLine.c (x : TLine) : List L := [.int .i64 x.cell, .bool x.fresh, .str x.text]
@[go_sem] theorem TLine.c_eq (x : TLine) : x.c = [.int .i64 x.cell, .bool x.fresh, .str x.text] := rfl
@[go_sem] theorem TLine.lens (xs : List TLine) : (∀ e ∈ xs.map TLine.c, e.length = 3) ↔ True := by simp [TLine.c_eq]
@[go_sem] theorem TLine.flats (xs : List TLine) : flatE (xs.map TLine.c) = true := by simp [flatE, flatL, L.flat, TLine.c_eq]
@[go_sem] theorem TLine.flatsA (xs : List TLine) : xs.all (flatL ∘ TLine.c) = true := by simp [flatL, L.flat, TLine.c_eq]
structure TCell where
  id : Int
  version : Int
  kind : Int
  name : ByteArray
  code : ByteArray
  n : Int
def TCell.c (x : TCell) : List L := [.int .i64 x.id, .int .i64 x.version, .int .i64 x.kind, .str x.name, .str x.code, .int .i64 x.n]
@[go_sem] theorem TCell.c_eq (x : TCell) : x.c = [.int .i64 x.id, .int .i64 x.version, .int .i64 x.kind, .str x.name, .str x.code, .int .i64 x.n] := rfl
@[go_sem] theorem TCell.lens (xs : List TCell) : (∀ e ∈ xs.map TCell.c, e.length = 6) ↔ True := by simp [TCell.c_eq]
@[go_sem] theorem TCell.flats (xs : List TCell) : flatE (xs.map TCell.c) = true := by simp [flatE, flatL, L.flat, TCell.c_eq]
@[go_sem] theorem TCell.flatsA (xs : List TCell) : xs.all (flatL ∘ TCell.c) = true := by simp [flatL, L.flat, TCell.c_eq]
structure TOrigin where
  cell : Int
  row : Int
def TOrigin.c (x : TOrigin) : List L := [.int .i64 x.cell, .int .i64 x.row]
@[go_sem] theorem TOrigin.c_eq (x : TOrigin) : x.c = [.int .i64 x.cell, .int .i64 x.row] := rfl
@[go_sem] theorem TOrigin.lens (xs : List TOrigin) : (∀ e ∈ xs.map TOrigin.c, e.length = 2) ↔ True := by simp [TOrigin.c_eq]
@[go_sem] theorem TOrigin.flats (xs : List TOrigin) : flatE (xs.map TOrigin.c) = true := by simp [flatE, flatL, L.flat, TOrigin.c_eq]
@[go_sem] theorem TOrigin.flatsA (xs : List TOrigin) : xs.all (flatL ∘ TOrigin.c) = true := by simp [flatL, L.flat, TOrigin.c_eq]
structure TRow where
  cells : List Int
  from_ : List TOrigin
def TRow.c (x : TRow) : List L := [.sl (x.cells.map iC), .sl (x.from_.map TOrigin.c)]
@[go_sem] theorem TRow.c_eq (x : TRow) : x.c = [.sl (x.cells.map iC), .sl (x.from_.map TOrigin.c)] := rfl
@[go_sem] theorem TRow.lens (xs : List TRow) : (∀ e ∈ xs.map TRow.c, e.length = 2) ↔ True := by simp [TRow.c_eq]
structure TValue where
  kind : Int
  n : Int
  step : Int
  text : ByteArray
  list : List TValue
  columns : List ByteArray
  rows : List TRow
mutual
def TValue.c : TValue → List L
  | ⟨kind, n, step, text, list, columns, rows⟩ => [.int .i64 kind, .int .i64 n, .int .i64 step, .str text, .sl (TValue.cs list), .sl (columns.map sC), .sl (rows.map TRow.c)]
def TValue.cs : List TValue → List (List L)
  | [] => []
  | x :: xs => TValue.c x :: TValue.cs xs
end
theorem TValue.cs_map : ∀ xs : List TValue, TValue.cs xs = xs.map TValue.c
  | [] => rfl
  | x :: xs => by rw [TValue.cs, TValue.cs_map xs]; rfl
@[go_sem] theorem TValue.c_eq (x : TValue) : x.c = [.int .i64 x.kind, .int .i64 x.n, .int .i64 x.step, .str x.text, .sl (x.list.map TValue.c), .sl (x.columns.map sC), .sl (x.rows.map TRow.c)] := by
  cases x; simp only [TValue.c, TValue.cs_map]
@[go_sem] theorem TValue.lens (xs : List TValue) : (∀ e ∈ xs.map TValue.c, e.length = 7) ↔ True := by simp [TValue.c_eq]
end Go.Proofs.YtmiboaogfjgkjaaDoor
