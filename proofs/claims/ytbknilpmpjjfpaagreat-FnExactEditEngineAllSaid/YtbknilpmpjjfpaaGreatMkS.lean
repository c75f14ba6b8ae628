/- How many marks there are, against the size counts. Written by a program of mine. -/
import Derived.Test.YtbknilpmpjjfpaaGreatMkD
import Derived.Test.YtbknilpmpjjfpaaGreatLs
set_option linter.unusedSimpArgs false
set_option linter.unusedVariables false
namespace Go.Proofs.YtbknilpmpjjfpaaGreat
open Go.RowKit Am
theorem TCell.cn_bk (x : TCell) : x.cn ≤ 6 * (1 + TCell.bk x) := by
  rw [TCell.cn_eq, TCell.bk_eq]
  omega
theorem TCell.cnL_bk (xs : List TCell) : TCell.cnL xs ≤ 6 * bkS TCell.bk xs := by rw [TCell.cnL_eq]; exact cnS_leF xs fun x _ => x.cn_bk
theorem TNotebook.cnV_bk (x : TNotebook) : x.cnV ≤ 6 * x.bk := by
  unfold TNotebook.cnV
  rw [TNotebook.bk_eq]
  have h0 := TCell.cnL_bk x.cells
  omega
theorem TFile.cn_bk (x : TFile) : x.cn ≤ 2 * (1 + TFile.bk x) := by
  rw [TFile.cn_eq, TFile.bk_eq]
  omega
theorem TFile.cnL_bk (xs : List TFile) : TFile.cnL xs ≤ 2 * bkS TFile.bk xs := by rw [TFile.cnL_eq]; exact cnS_leF xs fun x _ => x.cn_bk
theorem TWorld.cnV_bk (x : TWorld) : x.cnV ≤ 2 * x.bk := by
  unfold TWorld.cnV
  rw [TWorld.bk_eq]
  have h0 := TFile.cnL_bk x.files
  omega
theorem strCnL_bk (xs : List ByteArray) : strCnL xs ≤ 1 * bkS ByteArray.size xs := cnS_leF xs fun x _ => by simp only [strCn]; omega
theorem intCnL_bk (xs : List Int) : intCnL xs ≤ 1 * bkS (fun _ => 0) xs := cnS_leF xs fun x _ => by simp only [intCn]; omega
theorem TOrigin.cn_bk (x : TOrigin) : x.cn ≤ 2 * (1 + 0) := by
  rw [TOrigin.cn_eq]
  omega
theorem TOrigin.cnL_bk (xs : List TOrigin) : TOrigin.cnL xs ≤ 2 * bkS (fun _ => 0) xs := by rw [TOrigin.cnL_eq]; exact cnS_leF xs fun x _ => x.cn_bk
theorem TRow.cn_bk (x : TRow) : x.cn ≤ 2 * (1 + TRow.bk x) := by
  rw [TRow.cn_eq, TRow.bk_eq]
  have h0 := intCnL_bk x.cells
  have h1 := TOrigin.cnL_bk x.from_
  omega
theorem TRow.cnL_bk (xs : List TRow) : TRow.cnL xs ≤ 2 * bkS TRow.bk xs := by rw [TRow.cnL_eq]; exact cnS_leF xs fun x _ => x.cn_bk
theorem TValue.cn_bk (x : TValue) : x.cn ≤ 4 * (1 + TValue.bk x) := by
  refine TValue.ind (p := fun x => x.cn ≤ 4 * (1 + x.bk)) (fun x ih => ?_) x
  rw [TValue.cn_eq, TValue.bk_eq]
  have h0 : TValue.cnL x.list ≤ 4 * bkS TValue.bk x.list := by rw [TValue.cnL_eq]; exact cnS_leF _ ih
  have h1 := strCnL_bk x.columns
  have h2 := TRow.cnL_bk x.rows
  omega
theorem TValue.cnL_bk (xs : List TValue) : TValue.cnL xs ≤ 4 * bkS TValue.bk xs := by rw [TValue.cnL_eq]; exact cnS_leF xs fun x _ => x.cn_bk
theorem TRead.cn_bk (x : TRead) : x.cn ≤ 8 * (1 + TRead.bk x) := by
  rw [TRead.cn_eq, TRead.bk_eq]; simp only [TValue.bk_eq]
  have h0 := TValue.cnL_bk x.result.list
  have h1 := strCnL_bk x.result.columns
  have h2 := TRow.cnL_bk x.result.rows
  omega
theorem TRead.cnL_bk (xs : List TRead) : TRead.cnL xs ≤ 8 * bkS TRead.bk xs := by rw [TRead.cnL_eq]; exact cnS_leF xs fun x _ => x.cn_bk
theorem TTape.cn_bk (x : TTape) : x.cn ≤ 8 * (1 + TTape.bk x) := by
  rw [TTape.cn_eq, TTape.bk_eq]
  have h0 := TRead.cnL_bk x.reads
  omega
theorem TTape.cnL_bk (xs : List TTape) : TTape.cnL xs ≤ 8 * bkS TTape.bk xs := by rw [TTape.cnL_eq]; exact cnS_leF xs fun x _ => x.cn_bk
theorem TEntry.cn_bk (x : TEntry) : x.cn ≤ 8 * (1 + TEntry.bk x) := by
  rw [TEntry.cn_eq, TEntry.bk_eq]; simp only [TValue.bk_eq]
  have h0 := intCnL_bk x.inputs
  have h1 := TValue.cnL_bk x.value.list
  have h2 := strCnL_bk x.value.columns
  have h3 := TRow.cnL_bk x.value.rows
  omega
theorem TEntry.cnL_bk (xs : List TEntry) : TEntry.cnL xs ≤ 8 * bkS TEntry.bk xs := by rw [TEntry.cnL_eq]; exact cnS_leF xs fun x _ => x.cn_bk
theorem TEngine.cnV_bk (x : TEngine) : x.cnV ≤ 8 * x.bk := by
  unfold TEngine.cnV
  rw [TEngine.bk_eq]
  have h0 := TNotebook.cnV_bk x.notebook
  have h1 := TWorld.cnV_bk x.world
  have h2 := TTape.cnL_bk x.tapes
  have h3 := TEntry.cnL_bk x.entries
  omega
theorem TEdit.cn_bk (x : TEdit) : x.cn ≤ 8 * (1 + TEdit.bk x) := by
  rw [TEdit.cn_eq, TEdit.bk_eq]; simp only [TCell.bk_eq]
  omega
theorem TEdit.cnL_bk (xs : List TEdit) : TEdit.cnL xs ≤ 8 * bkS TEdit.bk xs := by rw [TEdit.cnL_eq]; exact cnS_leF xs fun x _ => x.cn_bk
end Go.Proofs.YtbknilpmpjjfpaaGreat
