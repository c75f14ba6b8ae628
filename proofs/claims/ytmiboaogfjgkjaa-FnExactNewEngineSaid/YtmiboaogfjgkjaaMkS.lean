/- How many marks there are, against the size counts. Written by a program of mine. -/
import Derived.Test.YtmiboaogfjgkjaaMkD
import Derived.Test.YtmiboaogfjgkjaaLs
set_option linter.unusedSimpArgs false
set_option linter.unusedVariables false
namespace Go.Proofs.Ytmiboaogfjgkjaa
open Go.RowKit Am

theorem TCell.cn_bk (x : TCell) : x.cn ≤ 6 * (1 + TCell.bk x) := by
  rw [TCell.cn_eq, TCell.bk_eq]
  omega
theorem TCell.cnL_bk (xs : List TCell) : TCell.cnL xs ≤ 6 * bkS TCell.bk xs := by rw [TCell.cnL_eq]; exact cnS_leF xs fun x _ => x.cn_bk
theorem TNotebook.cn_bk (x : TNotebook) : x.cn ≤ 6 * (1 + TNotebook.bk x) := by
  rw [TNotebook.cn_eq, TNotebook.bk_eq]
  have h0 := TCell.cnL_bk x.cells
  omega
theorem TNotebook.cnL_bk (xs : List TNotebook) : TNotebook.cnL xs ≤ 6 * bkS TNotebook.bk xs := by rw [TNotebook.cnL_eq]; exact cnS_leF xs fun x _ => x.cn_bk
theorem TNotebook.cnV_bk (x : TNotebook) : x.cnV ≤ 6 * x.bk := by
  unfold TNotebook.cnV
  rw [TNotebook.bk_eq]
  have h0 := TCell.cnL_bk x.cells
  omega
theorem strCnL_bk (xs : List ByteArray) : strCnL xs ≤ 1 * bkS ByteArray.size xs := cnS_leF xs fun x _ => by simp only [strCn]; omega
theorem intCnL_bk (xs : List Int) : intCnL xs ≤ 1 * bkS (fun _ => 0) xs := cnS_leF xs fun x _ => by simp only [intCn]; omega
theorem TOrigin.cn_bk (x : TOrigin) : x.cn ≤ 2 * (1 + 0) := by
  rw [TOrigin.cn_eq]
  omega
theorem TOrigin.cnL_bk (xs : List TOrigin) : TOrigin.cnL xs ≤ 2 * bkS (fun _ => 0) xs := by rw [TOrigin.cnL_eq]; exact cnS_leF xs fun x _ => x.cn_bk
theorem TRow.cn_bk (x : TRow) : x.cn ≤ 2 * (1 + TRow.bk x) := by
  rw [TRow.cn_eq, TRow.bk_eq]
  have h0 := intCnL_bk x.cells
  have h1 := TOrigin.cnL_bk x.from_
  omega
theorem TRow.cnL_bk (xs : List TRow) : TRow.cnL xs ≤ 2 * bkS TRow.bk xs := by rw [TRow.cnL_eq]; exact cnS_leF xs fun x _ => x.cn_bk
theorem TValue.cn_bk (x : TValue) : x.cn ≤ 4 * (1 + TValue.bk x) := by
  refine TValue.ind (p := fun x => x.cn ≤ 4 * (1 + x.bk)) (fun x ih => ?_) x
  rw [TValue.cn_eq, TValue.bk_eq]
  have h0 : TValue.cnL x.list ≤ 4 * bkS TValue.bk x.list := by rw [TValue.cnL_eq]; exact cnS_leF _ ih
  have h1 := strCnL_bk x.columns
  have h2 := TRow.cnL_bk x.rows
  omega
theorem TValue.cnL_bk (xs : List TValue) : TValue.cnL xs ≤ 4 * bkS TValue.bk xs := by rw [TValue.cnL_eq]; exact cnS_leF xs fun x _ => x.cn_bk
theorem TValue.cnV_bk (x : TValue) : x.cnV ≤ 4 * x.bk := by
  unfold TValue.cnV
  rw [TValue.bk_eq]
  have h0 := TValue.cnL_bk x.list
  have h1 := strCnL_bk x.columns
  have h2 := TRow.cnL_bk x.rows
  omega
theorem TRead.cn_bk (x : TRead) : x.cn ≤ 8 * (1 + TRead.bk x) := by
  rw [TRead.cn_eq, TRead.bk_eq]; simp only [TValue.bk_eq]
  have h0 := TValue.cnL_bk x.result.list
  have h1 := strCnL_bk x.result.columns
  have h2 := TRow.cnL_bk x.result.rows
  omega
theorem TRead.cnL_bk (xs : List TRead) : TRead.cnL xs ≤ 8 * bkS TRead.bk xs := by rw [TRead.cnL_eq]; exact cnS_leF xs fun x _ => x.cn_bk
theorem TTape.cn_bk (x : TTape) : x.cn ≤ 8 * (1 + TTape.bk x) := by
  rw [TTape.cn_eq, TTape.bk_eq]
  have h0 := TRead.cnL_bk x.reads
  omega
theorem TTape.cnL_bk (xs : List TTape) : TTape.cnL xs ≤ 8 * bkS TTape.bk xs := by rw [TTape.cnL_eq]; exact cnS_leF xs fun x _ => x.cn_bk
theorem TRun.cn_bk (x : TRun) : x.cn ≤ 8 * (1 + TRun.bk x) := by
  rw [TRun.cn_eq, TRun.bk_eq]
  have h0 := TValue.cnL_bk x.values
  have h1 := TTape.cnL_bk x.tapes
  omega
theorem TRun.cnL_bk (xs : List TRun) : TRun.cnL xs ≤ 8 * bkS TRun.bk xs := by rw [TRun.cnL_eq]; exact cnS_leF xs fun x _ => x.cn_bk
theorem TRun.cnV_bk (x : TRun) : x.cnV ≤ 8 * x.bk := by
  unfold TRun.cnV
  rw [TRun.bk_eq]
  have h0 := TValue.cnL_bk x.values
  have h1 := TTape.cnL_bk x.tapes
  omega
theorem TLine.cn_bk (x : TLine) : x.cn ≤ 3 * (1 + TLine.bk x) := by
  rw [TLine.cn_eq, TLine.bk_eq]
  omega
theorem TLine.cnL_bk (xs : List TLine) : TLine.cnL xs ≤ 3 * bkS TLine.bk xs := by rw [TLine.cnL_eq]; exact cnS_leF xs fun x _ => x.cn_bk
theorem TChange.cn_bk (x : TChange) : x.cn ≤ 4 * (1 + TChange.bk x) := by
  rw [TChange.cn_eq, TChange.bk_eq]; simp only [TLine.bk_eq]
  omega
theorem TChange.cnL_bk (xs : List TChange) : TChange.cnL xs ≤ 4 * bkS TChange.bk xs := by rw [TChange.cnL_eq]; exact cnS_leF xs fun x _ => x.cn_bk
theorem TDiff.cn_bk (x : TDiff) : x.cn ≤ 4 * (1 + TDiff.bk x) := by
  rw [TDiff.cn_eq, TDiff.bk_eq]
  have h0 := TChange.cnL_bk x.changes
  omega
theorem TDiff.cnL_bk (xs : List TDiff) : TDiff.cnL xs ≤ 4 * bkS TDiff.bk xs := by rw [TDiff.cnL_eq]; exact cnS_leF xs fun x _ => x.cn_bk
theorem TDiff.cnV_bk (x : TDiff) : x.cnV ≤ 4 * x.bk := by
  unfold TDiff.cnV
  rw [TDiff.bk_eq]
  have h0 := TChange.cnL_bk x.changes
  omega
theorem TFile.cn_bk (x : TFile) : x.cn ≤ 2 * (1 + TFile.bk x) := by
  rw [TFile.cn_eq, TFile.bk_eq]
  omega
theorem TFile.cnL_bk (xs : List TFile) : TFile.cnL xs ≤ 2 * bkS TFile.bk xs := by rw [TFile.cnL_eq]; exact cnS_leF xs fun x _ => x.cn_bk
theorem TWorld.cn_bk (x : TWorld) : x.cn ≤ 2 * (1 + TWorld.bk x) := by
  rw [TWorld.cn_eq, TWorld.bk_eq]
  have h0 := TFile.cnL_bk x.files
  omega
theorem TWorld.cnL_bk (xs : List TWorld) : TWorld.cnL xs ≤ 2 * bkS TWorld.bk xs := by rw [TWorld.cnL_eq]; exact cnS_leF xs fun x _ => x.cn_bk
theorem TWorld.cnV_bk (x : TWorld) : x.cnV ≤ 2 * x.bk := by
  unfold TWorld.cnV
  rw [TWorld.bk_eq]
  have h0 := TFile.cnL_bk x.files
  omega
theorem TEntry.cn_bk (x : TEntry) : x.cn ≤ 8 * (1 + TEntry.bk x) := by
  rw [TEntry.cn_eq, TEntry.bk_eq]; simp only [TValue.bk_eq]
  have h0 := intCnL_bk x.inputs
  have h1 := TValue.cnL_bk x.value.list
  have h2 := strCnL_bk x.value.columns
  have h3 := TRow.cnL_bk x.value.rows
  omega
theorem TEntry.cnL_bk (xs : List TEntry) : TEntry.cnL xs ≤ 8 * bkS TEntry.bk xs := by rw [TEntry.cnL_eq]; exact cnS_leF xs fun x _ => x.cn_bk
theorem TEngine.cn_bk (x : TEngine) : x.cn ≤ 8 * (1 + TEngine.bk x) := by
  rw [TEngine.cn_eq, TEngine.bk_eq]; simp only [TNotebook.bk_eq, TWorld.bk_eq]
  have h0 := TCell.cnL_bk x.notebook.cells
  have h1 := TFile.cnL_bk x.world.files
  have h2 := TTape.cnL_bk x.tapes
  have h3 := TEntry.cnL_bk x.entries
  omega
theorem TEngine.cnL_bk (xs : List TEngine) : TEngine.cnL xs ≤ 8 * bkS TEngine.bk xs := by rw [TEngine.cnL_eq]; exact cnS_leF xs fun x _ => x.cn_bk
theorem TEngine.cnV_bk (x : TEngine) : x.cnV ≤ 8 * x.bk := by
  unfold TEngine.cnV
  rw [TEngine.bk_eq]
  have h0 := TNotebook.cnV_bk x.notebook
  have h1 := TWorld.cnV_bk x.world
  have h2 := TTape.cnL_bk x.tapes
  have h3 := TEntry.cnL_bk x.entries
  omega
theorem TMark.cn_bk (x : TMark) : x.cn ≤ 4 * (1 + 0) := by
  rw [TMark.cn_eq]
  omega
theorem TMark.cnL_bk (xs : List TMark) : TMark.cnL xs ≤ 4 * bkS (fun _ => 0) xs := by rw [TMark.cnL_eq]; exact cnS_leF xs fun x _ => x.cn_bk
theorem TScene.cn_bk (x : TScene) : x.cn ≤ 4 * (1 + TScene.bk x) := by
  rw [TScene.cn_eq, TScene.bk_eq]
  have h0 := TMark.cnL_bk x.marks
  omega
theorem TScene.cnL_bk (xs : List TScene) : TScene.cnL xs ≤ 4 * bkS TScene.bk xs := by rw [TScene.cnL_eq]; exact cnS_leF xs fun x _ => x.cn_bk
theorem TScene.cnV_bk (x : TScene) : x.cnV ≤ 4 * x.bk := by
  unfold TScene.cnV
  rw [TScene.bk_eq]
  have h0 := TMark.cnL_bk x.marks
  omega
end Go.Proofs.Ytmiboaogfjgkjaa
