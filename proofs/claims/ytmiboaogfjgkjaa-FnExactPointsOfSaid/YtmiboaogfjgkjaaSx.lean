/- The structures of the program as plain data, and their cells. Written by a program of mine. -/
import Derived.Test.YtmiboaogfjgkjaaPkC
set_option linter.unusedSimpArgs false
set_option linter.unusedVariables false
namespace Go.Proofs.Ytmiboaogfjgkjaa
open Go.RowKit Am
structure TCell where
  id : Int
  version : Int
  kind : Int
  name : ByteArray
  code : ByteArray
  n : Int
def TCell.c (x : TCell) : List L := [.int .i64 x.id, .int .i64 x.version, .int .i64 x.kind, .str x.name, .str x.code, .int .i64 x.n]
@[go_sem] theorem TCell.c_eq (x : TCell) : x.c = [.int .i64 x.id, .int .i64 x.version, .int .i64 x.kind, .str x.name, .str x.code, .int .i64 x.n] := rfl
@[go_sem] theorem TCell.lens (xs : List TCell) : (∀ e ∈ xs.map TCell.c, e.length = 6) ↔ True := by simp [TCell.c_eq]
@[go_sem] theorem TCell.flats (xs : List TCell) : flatE (xs.map TCell.c) = true := by simp [flatE, flatL, L.flat, TCell.c_eq]
@[go_sem] theorem TCell.flatsA (xs : List TCell) : xs.all (flatL ∘ TCell.c) = true := by simp [flatL, L.flat, TCell.c_eq]
structure TOrigin where
  cell : Int
  row : Int
def TOrigin.c (x : TOrigin) : List L := [.int .i64 x.cell, .int .i64 x.row]
@[go_sem] theorem TOrigin.c_eq (x : TOrigin) : x.c = [.int .i64 x.cell, .int .i64 x.row] := rfl
@[go_sem] theorem TOrigin.lens (xs : List TOrigin) : (∀ e ∈ xs.map TOrigin.c, e.length = 2) ↔ True := by simp [TOrigin.c_eq]
@[go_sem] theorem TOrigin.flats (xs : List TOrigin) : flatE (xs.map TOrigin.c) = true := by simp [flatE, flatL, L.flat, TOrigin.c_eq]
@[go_sem] theorem TOrigin.flatsA (xs : List TOrigin) : xs.all (flatL ∘ TOrigin.c) = true := by simp [flatL, L.flat, TOrigin.c_eq]
structure TRow where
  cells : List Int
  from_ : List TOrigin
def TRow.c (x : TRow) : List L := [.sl (x.cells.map iC), .sl (x.from_.map TOrigin.c)]
@[go_sem] theorem TRow.c_eq (x : TRow) : x.c = [.sl (x.cells.map iC), .sl (x.from_.map TOrigin.c)] := rfl
@[go_sem] theorem TRow.lens (xs : List TRow) : (∀ e ∈ xs.map TRow.c, e.length = 2) ↔ True := by simp [TRow.c_eq]
structure TValue where
  kind : Int
  n : Int
  step : Int
  text : ByteArray
  list : List TValue
  columns : List ByteArray
  rows : List TRow
mutual
def TValue.c : TValue → List L
  | ⟨kind, n, step, text, list, columns, rows⟩ => [.int .i64 kind, .int .i64 n, .int .i64 step, .str text, .sl (TValue.cs list), .sl (columns.map sC), .sl (rows.map TRow.c)]
def TValue.cs : List TValue → List (List L)
  | [] => []
  | x :: xs => TValue.c x :: TValue.cs xs
end
theorem TValue.cs_map : ∀ xs : List TValue, TValue.cs xs = xs.map TValue.c
  | [] => rfl
  | x :: xs => by rw [TValue.cs, TValue.cs_map xs]; rfl
@[go_sem] theorem TValue.c_eq (x : TValue) : x.c = [.int .i64 x.kind, .int .i64 x.n, .int .i64 x.step, .str x.text, .sl (x.list.map TValue.c), .sl (x.columns.map sC), .sl (x.rows.map TRow.c)] := by
  cases x; simp only [TValue.c, TValue.cs_map]
@[go_sem] theorem TValue.lens (xs : List TValue) : (∀ e ∈ xs.map TValue.c, e.length = 7) ↔ True := by simp [TValue.c_eq]
structure TFile where
  name : ByteArray
  n : Int
def TFile.c (x : TFile) : List L := [.str x.name, .int .i64 x.n]
@[go_sem] theorem TFile.c_eq (x : TFile) : x.c = [.str x.name, .int .i64 x.n] := rfl
@[go_sem] theorem TFile.lens (xs : List TFile) : (∀ e ∈ xs.map TFile.c, e.length = 2) ↔ True := by simp [TFile.c_eq]
@[go_sem] theorem TFile.flats (xs : List TFile) : flatE (xs.map TFile.c) = true := by simp [flatE, flatL, L.flat, TFile.c_eq]
@[go_sem] theorem TFile.flatsA (xs : List TFile) : xs.all (flatL ∘ TFile.c) = true := by simp [flatL, L.flat, TFile.c_eq]
structure TMark where
  x : Int
  y : Int
  w : Int
  h : Int
def TMark.c (x : TMark) : List L := [.int .i64 x.x, .int .i64 x.y, .int .i64 x.w, .int .i64 x.h]
@[go_sem] theorem TMark.c_eq (x : TMark) : x.c = [.int .i64 x.x, .int .i64 x.y, .int .i64 x.w, .int .i64 x.h] := rfl
@[go_sem] theorem TMark.lens (xs : List TMark) : (∀ e ∈ xs.map TMark.c, e.length = 4) ↔ True := by simp [TMark.c_eq]
@[go_sem] theorem TMark.flats (xs : List TMark) : flatE (xs.map TMark.c) = true := by simp [flatE, flatL, L.flat, TMark.c_eq]
@[go_sem] theorem TMark.flatsA (xs : List TMark) : xs.all (flatL ∘ TMark.c) = true := by simp [flatL, L.flat, TMark.c_eq]
structure TScene where
  w : Int
  h : Int
  marks : List TMark
def TScene.c (x : TScene) : List L := [.int .i64 x.w, .int .i64 x.h, .sl (x.marks.map TMark.c)]
@[go_sem] theorem TScene.c_eq (x : TScene) : x.c = [.int .i64 x.w, .int .i64 x.h, .sl (x.marks.map TMark.c)] := rfl
@[go_sem] theorem TScene.lens (xs : List TScene) : (∀ e ∈ xs.map TScene.c, e.length = 3) ↔ True := by simp [TScene.c_eq]
end Go.Proofs.Ytmiboaogfjgkjaa
