/- The structures of the program as plain data, and their cells. Written by a program of mine. -/
import Derived.Test.YtmiboaogfjgkjaaDoorPkC
set_option linter.unusedSimpArgs false
set_option linter.unusedVariables false
namespace Go.Proofs.YtmiboaogfjgkjaaDoor
open Go.RowKit Am
structure TLine where
  cell : Int
  fresh : Bool
  text : ByteArray
def TLine.c (x : TLine) : List L := [.int .i64 x.cell, .bool x.fresh, .str x.text]
@[go_sem] theorem TLine.c_eq (x : TLine) : x.c = [.int .i64 x.cell, .bool x.fresh, .str x.text] := rfl
@[go_sem] theorem TLine.lens (xs : List TLine) : (∀ e ∈ xs.map TLine.c, e.length = 3) ↔ True := by simp [TLine.c_eq]
@[go_sem] theorem TLine.flats (xs : List TLine) : flatE (xs.map TLine.c) = true := by simp [flatE, flatL, L.flat, TLine.c_eq]
@[go_sem] theorem TLine.flatsA (xs : List TLine) : xs.all (flatL ∘ TLine.c) = true := by simp [flatL, L.flat, TLine.c_eq]
end Go.Proofs.YtmiboaogfjgkjaaDoor
