/- The laws' own functions: size counts, copies, comparisons. Written by a program of mine. -/
import Derived.Test.YtbknilpmpjjfpaaPkC
import Derived.Test.YtbknilpmpjjfpaaSx
set_option linter.unusedSimpArgs false
set_option linter.unusedVariables false
namespace Go.Proofs.Ytbknilpmpjjfpaa
open Go.RowKit Am
-- Origin
-- Row
def TRow.bk (x : TRow) : Nat := bkS (fun _ => 0) x.cells + (bkS (fun _ => 0) x.from_ + (0))
theorem TRow.bk_eq (x : TRow) : x.bk = bkS (fun _ => 0) x.cells + (bkS (fun _ => 0) x.from_ + (0)) := rfl
-- Value
mutual
def TValue.bk : TValue → Nat
  | ⟨kind, n, step, text, list, columns, rows⟩ => text.size + ((list.length + TValue.bks list) + (bkS ByteArray.size columns + (bkS TRow.bk rows + (0))))
def TValue.bks : List TValue → Nat
  | [] => 0
  | x :: xs => TValue.bk x + TValue.bks xs
end
theorem TValue.bks_eq : ∀ xs : List TValue, TValue.bks xs = sumBk TValue.bk xs
  | [] => rfl
  | x :: xs => by rw [TValue.bks, TValue.bks_eq xs]; rfl
theorem TValue.bk_eq (x : TValue) : x.bk = x.text.size + (bkS TValue.bk x.list + (bkS ByteArray.size x.columns + (bkS TRow.bk x.rows + (0)))) := by
  cases x; simp only [TValue.bk, TValue.bks_eq, bkS]
theorem TValue.ind {p : TValue → Prop} (h : ∀ x, (∀ y ∈ x.list, p y) → p x) : ∀ x, p x
  | ⟨kind, n, step, text, list, columns, rows⟩ => h _ fun y hy => TValue.ind h y
termination_by x => SizeOf.sizeOf x
decreasing_by
  have := List.sizeOf_lt_of_mem hy
  simp at this ⊢; omega
-- Mark
-- Scene
-- Token
-- Expr
end Go.Proofs.Ytbknilpmpjjfpaa
