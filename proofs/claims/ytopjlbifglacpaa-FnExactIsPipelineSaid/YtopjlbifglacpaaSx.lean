/- The structures of the program as plain data, and their cells. Written by a program of mine. -/
import Derived.Test.YtopjlbifglacpaaMb
set_option linter.unusedSimpArgs false
set_option linter.unusedVariables false
namespace Go.Proofs.Ytopjlbifglacpaa
open Go.RowKit Am

structure TLine where
  cell : Int
  fresh : Bool
  text : ByteArray
def TLine.c (x : TLine) : List L := [.int .i64 x.cell, .bool x.fresh, .str x.text]
@[go_sem] theorem TLine.c_eq (x : TLine) : x.c = [.int .i64 x.cell, .bool x.fresh, .str x.text] := rfl
@[go_sem] theorem TLine.lens (xs : List TLine) : (∀ e ∈ xs.map TLine.c, e.length = 3) ↔ True := by simp [TLine.c_eq]
@[go_sem] theorem TLine.flats (xs : List TLine) : flatE (xs.map TLine.c) = true := by simp [flatE, flatL, L.flat, TLine.c_eq]
structure TMark where
  x : Int
  y : Int
  w : Int
  h : Int
def TMark.c (x : TMark) : List L := [.int .i64 x.x, .int .i64 x.y, .int .i64 x.w, .int .i64 x.h]
@[go_sem] theorem TMark.c_eq (x : TMark) : x.c = [.int .i64 x.x, .int .i64 x.y, .int .i64 x.w, .int .i64 x.h] := rfl
@[go_sem] theorem TMark.lens (xs : List TMark) : (∀ e ∈ xs.map TMark.c, e.length = 4) ↔ True := by simp [TMark.c_eq]
@[go_sem] theorem TMark.flats (xs : List TMark) : flatE (xs.map TMark.c) = true := by simp [flatE, flatL, L.flat, TMark.c_eq]
structure TScene where
  w : Int
  h : Int
  marks : List TMark
def TScene.c (x : TScene) : List L := [.int .i64 x.w, .int .i64 x.h, .sl (x.marks.map TMark.c)]
@[go_sem] theorem TScene.c_eq (x : TScene) : x.c = [.int .i64 x.w, .int .i64 x.h, .sl (x.marks.map TMark.c)] := rfl
@[go_sem] theorem TScene.lens (xs : List TScene) : (∀ e ∈ xs.map TScene.c, e.length = 3) ↔ True := by simp [TScene.c_eq]
structure TChange where
  at_ : Int
  line : TLine
def TChange.c (x : TChange) : List L := [.int .i64 x.at_, .int .i64 x.line.cell, .bool x.line.fresh, .str x.line.text]
@[go_sem] theorem TChange.c_eq (x : TChange) : x.c = [.int .i64 x.at_, .int .i64 x.line.cell, .bool x.line.fresh, .str x.line.text] := rfl
@[go_sem] theorem TChange.lens (xs : List TChange) : (∀ e ∈ xs.map TChange.c, e.length = 4) ↔ True := by simp [TChange.c_eq]
@[go_sem] theorem TChange.flats (xs : List TChange) : flatE (xs.map TChange.c) = true := by simp [flatE, flatL, L.flat, TChange.c_eq]
structure TDiff where
  length : Int
  changes : List TChange
def TDiff.c (x : TDiff) : List L := [.int .i64 x.length, .sl (x.changes.map TChange.c)]
@[go_sem] theorem TDiff.c_eq (x : TDiff) : x.c = [.int .i64 x.length, .sl (x.changes.map TChange.c)] := rfl
@[go_sem] theorem TDiff.lens (xs : List TDiff) : (∀ e ∈ xs.map TDiff.c, e.length = 2) ↔ True := by simp [TDiff.c_eq]
structure TCell where
  id : Int
  version : Int
  kind : Int
  name : ByteArray
  code : ByteArray
  n : Int
def TCell.c (x : TCell) : List L := [.int .i64 x.id, .int .i64 x.version, .int .i64 x.kind, .str x.name, .str x.code, .int .i64 x.n]
@[go_sem] theorem TCell.c_eq (x : TCell) : x.c = [.int .i64 x.id, .int .i64 x.version, .int .i64 x.kind, .str x.name, .str x.code, .int .i64 x.n] := rfl
@[go_sem] theorem TCell.lens (xs : List TCell) : (∀ e ∈ xs.map TCell.c, e.length = 6) ↔ True := by simp [TCell.c_eq]
@[go_sem] theorem TCell.flats (xs : List TCell) : flatE (xs.map TCell.c) = true := by simp [flatE, flatL, L.flat, TCell.c_eq]
structure TNotebook where
  cells : List TCell
def TNotebook.c (x : TNotebook) : List L := [.sl (x.cells.map TCell.c)]
@[go_sem] theorem TNotebook.c_eq (x : TNotebook) : x.c = [.sl (x.cells.map TCell.c)] := rfl
@[go_sem] theorem TNotebook.lens (xs : List TNotebook) : (∀ e ∈ xs.map TNotebook.c, e.length = 1) ↔ True := by simp [TNotebook.c_eq]
structure TOrigin where
  cell : Int
  row : Int
def TOrigin.c (x : TOrigin) : List L := [.int .i64 x.cell, .int .i64 x.row]
@[go_sem] theorem TOrigin.c_eq (x : TOrigin) : x.c = [.int .i64 x.cell, .int .i64 x.row] := rfl
@[go_sem] theorem TOrigin.lens (xs : List TOrigin) : (∀ e ∈ xs.map TOrigin.c, e.length = 2) ↔ True := by simp [TOrigin.c_eq]
@[go_sem] theorem TOrigin.flats (xs : List TOrigin) : flatE (xs.map TOrigin.c) = true := by simp [flatE, flatL, L.flat, TOrigin.c_eq]
structure TRow where
  cells : List Int
  from_ : List TOrigin
def TRow.c (x : TRow) : List L := [.sl (x.cells.map iC), .sl (x.from_.map TOrigin.c)]
@[go_sem] theorem TRow.c_eq (x : TRow) : x.c = [.sl (x.cells.map iC), .sl (x.from_.map TOrigin.c)] := rfl
@[go_sem] theorem TRow.lens (xs : List TRow) : (∀ e ∈ xs.map TRow.c, e.length = 2) ↔ True := by simp [TRow.c_eq]
structure TValue where
  kind : Int
  n : Int
  step : Int
  text : ByteArray
  list : List TValue
  columns : List ByteArray
  rows : List TRow
mutual
def TValue.c : TValue → List L
  | ⟨kind, n, step, text, list, columns, rows⟩ => [.int .i64 kind, .int .i64 n, .int .i64 step, .str text, .sl (TValue.cs list), .sl (columns.map sC), .sl (rows.map TRow.c)]
def TValue.cs : List TValue → List (List L)
  | [] => []
  | x :: xs => TValue.c x :: TValue.cs xs
end
theorem TValue.cs_map : ∀ xs : List TValue, TValue.cs xs = xs.map TValue.c
  | [] => rfl
  | x :: xs => by rw [TValue.cs, TValue.cs_map xs]; rfl
@[go_sem] theorem TValue.c_eq (x : TValue) : x.c = [.int .i64 x.kind, .int .i64 x.n, .int .i64 x.step, .str x.text, .sl (x.list.map TValue.c), .sl (x.columns.map sC), .sl (x.rows.map TRow.c)] := by
  cases x; simp only [TValue.c, TValue.cs_map]
@[go_sem] theorem TValue.lens (xs : List TValue) : (∀ e ∈ xs.map TValue.c, e.length = 7) ↔ True := by simp [TValue.c_eq]
structure TExpr where
  kind : Int
  n : Int
  text : ByteArray
  args : List TExpr
mutual
def TExpr.c : TExpr → List L
  | ⟨kind, n, text, args⟩ => [.int .i64 kind, .int .i64 n, .str text, .sl (TExpr.cs args)]
def TExpr.cs : List TExpr → List (List L)
  | [] => []
  | x :: xs => TExpr.c x :: TExpr.cs xs
end
theorem TExpr.cs_map : ∀ xs : List TExpr, TExpr.cs xs = xs.map TExpr.c
  | [] => rfl
  | x :: xs => by rw [TExpr.cs, TExpr.cs_map xs]; rfl
@[go_sem] theorem TExpr.c_eq (x : TExpr) : x.c = [.int .i64 x.kind, .int .i64 x.n, .str x.text, .sl (x.args.map TExpr.c)] := by
  cases x; simp only [TExpr.c, TExpr.cs_map]
@[go_sem] theorem TExpr.lens (xs : List TExpr) : (∀ e ∈ xs.map TExpr.c, e.length = 4) ↔ True := by simp [TExpr.c_eq]
end Go.Proofs.Ytopjlbifglacpaa
