/- The structures of the program as plain data, and their cells. Written by a program of mine. -/
import Derived.Test.YtbknilpmpjjfpaaPkC
set_option linter.unusedSimpArgs false
set_option linter.unusedVariables false
namespace Go.Proofs.Ytbknilpmpjjfpaa
open Go.RowKit Am
structure Tl1Cur where
  b : List Int
  i : Int
  h : Int
def Tl1Cur.c (x : Tl1Cur) : List L := [.sl (x.b.map uC), .int .i64 x.i, .int .i64 x.h]
@[go_sem] theorem Tl1Cur.c_eq (x : Tl1Cur) : x.c = [.sl (x.b.map uC), .int .i64 x.i, .int .i64 x.h] := rfl
@[go_sem] theorem Tl1Cur.lens (xs : List Tl1Cur) : (∀ e ∈ xs.map Tl1Cur.c, e.length = 3) ↔ True := by simp [Tl1Cur.c_eq]
structure TOrigin where
  cell : Int
  row : Int
def TOrigin.c (x : TOrigin) : List L := [.int .i64 x.cell, .int .i64 x.row]
@[go_sem] theorem TOrigin.c_eq (x : TOrigin) : x.c = [.int .i64 x.cell, .int .i64 x.row] := rfl
@[go_sem] theorem TOrigin.lens (xs : List TOrigin) : (∀ e ∈ xs.map TOrigin.c, e.length = 2) ↔ True := by simp [TOrigin.c_eq]
@[go_sem] theorem TOrigin.flats (xs : List TOrigin) : flatE (xs.map TOrigin.c) = true := by simp [flatE, flatL, L.flat, TOrigin.c_eq]
@[go_sem] theorem TOrigin.flatsA (xs : List TOrigin) : xs.all (flatL ∘ TOrigin.c) = true := by simp [flatL, L.flat, TOrigin.c_eq]
structure TRow where
  cells : List Int
  from_ : List TOrigin
def TRow.c (x : TRow) : List L := [.sl (x.cells.map iC), .sl (x.from_.map TOrigin.c)]
@[go_sem] theorem TRow.c_eq (x : TRow) : x.c = [.sl (x.cells.map iC), .sl (x.from_.map TOrigin.c)] := rfl
@[go_sem] theorem TRow.lens (xs : List TRow) : (∀ e ∈ xs.map TRow.c, e.length = 2) ↔ True := by simp [TRow.c_eq]
structure TValue where
  kind : Int
  n : Int
  step : Int
  text : ByteArray
  list : List TValue
  columns : List ByteArray
  rows : List TRow
mutual
def TValue.c : TValue → List L
  | ⟨kind, n, step, text, list, columns, rows⟩ => [.int .i64 kind, .int .i64 n, .int .i64 step, .str text, .sl (TValue.cs list), .sl (columns.map sC), .sl (rows.map TRow.c)]
def TValue.cs : List TValue → List (List L)
  | [] => []
  | x :: xs => TValue.c x :: TValue.cs xs
end
theorem TValue.cs_map : ∀ xs : List TValue, TValue.cs xs = xs.map TValue.c
  | [] => rfl
  | x :: xs => by rw [TValue.cs, TValue.cs_map xs]; rfl
@[go_sem] theorem TValue.c_eq (x : TValue) : x.c = [.int .i64 x.kind, .int .i64 x.n, .int .i64 x.step, .str x.text, .sl (x.list.map TValue.c), .sl (x.columns.map sC), .sl (x.rows.map TRow.c)] := by
  cases x; simp only [TValue.c, TValue.cs_map]
@[go_sem] theorem TValue.lens (xs : List TValue) : (∀ e ∈ xs.map TValue.c, e.length = 7) ↔ True := by simp [TValue.c_eq]
structure TToken where
  kind : Int
  n : Int
  at_ : Int
  text : ByteArray
def TToken.c (x : TToken) : List L := [.int .i64 x.kind, .int .i64 x.n, .int .i64 x.at_, .str x.text]
@[go_sem] theorem TToken.c_eq (x : TToken) : x.c = [.int .i64 x.kind, .int .i64 x.n, .int .i64 x.at_, .str x.text] := rfl
@[go_sem] theorem TToken.lens (xs : List TToken) : (∀ e ∈ xs.map TToken.c, e.length = 4) ↔ True := by simp [TToken.c_eq]
@[go_sem] theorem TToken.flats (xs : List TToken) : flatE (xs.map TToken.c) = true := by simp [flatE, flatL, L.flat, TToken.c_eq]
@[go_sem] theorem TToken.flatsA (xs : List TToken) : xs.all (flatL ∘ TToken.c) = true := by simp [flatL, L.flat, TToken.c_eq]
structure Tl11Read where
  toks : List TToken
  i : Int
  end_ : Int
  bad : Int
def Tl11Read.c (x : Tl11Read) : List L := [.sl (x.toks.map TToken.c), .int .i64 x.i, .int .i64 x.end_, .int .i64 x.bad]
@[go_sem] theorem Tl11Read.c_eq (x : Tl11Read) : x.c = [.sl (x.toks.map TToken.c), .int .i64 x.i, .int .i64 x.end_, .int .i64 x.bad] := rfl
@[go_sem] theorem Tl11Read.lens (xs : List Tl11Read) : (∀ e ∈ xs.map Tl11Read.c, e.length = 4) ↔ True := by simp [Tl11Read.c_eq]
end Go.Proofs.Ytbknilpmpjjfpaa
