/- How many marks there are, against the size counts. Written by a program of mine. -/
import Derived.Test.YtmiboaogfjgkjaaMkD
import Derived.Test.YtmiboaogfjgkjaaLs
set_option linter.unusedSimpArgs false
set_option linter.unusedVariables false
namespace Go.Proofs.Ytmiboaogfjgkjaa
open Go.RowKit Am
theorem strCnL_bk (xs : List ByteArray) : strCnL xs ≤ 1 * bkS ByteArray.size xs := cnS_leF xs fun x _ => by simp only [strCn]; omega
theorem intCnL_bk (xs : List Int) : intCnL xs ≤ 1 * bkS (fun _ => 0) xs := cnS_leF xs fun x _ => by simp only [intCn]; omega
theorem TOrigin.cn_bk (x : TOrigin) : x.cn ≤ 2 * (1 + 0) := by
  rw [TOrigin.cn_eq]
  omega
theorem TOrigin.cnL_bk (xs : List TOrigin) : TOrigin.cnL xs ≤ 2 * bkS (fun _ => 0) xs := by rw [TOrigin.cnL_eq]; exact cnS_leF xs fun x _ => x.cn_bk
theorem TRow.cn_bk (x : TRow) : x.cn ≤ 2 * (1 + TRow.bk x) := by
  rw [TRow.cn_eq, TRow.bk_eq]
  have h0 := intCnL_bk x.cells
  have h1 := TOrigin.cnL_bk x.from_
  omega
theorem TRow.cnL_bk (xs : List TRow) : TRow.cnL xs ≤ 2 * bkS TRow.bk xs := by rw [TRow.cnL_eq]; exact cnS_leF xs fun x _ => x.cn_bk
theorem TValue.cn_bk (x : TValue) : x.cn ≤ 4 * (1 + TValue.bk x) := by
  refine TValue.ind (p := fun x => x.cn ≤ 4 * (1 + x.bk)) (fun x ih => ?_) x
  rw [TValue.cn_eq, TValue.bk_eq]
  have h0 : TValue.cnL x.list ≤ 4 * bkS TValue.bk x.list := by rw [TValue.cnL_eq]; exact cnS_leF _ ih
  have h1 := strCnL_bk x.columns
  have h2 := TRow.cnL_bk x.rows
  omega
theorem TValue.cnL_bk (xs : List TValue) : TValue.cnL xs ≤ 4 * bkS TValue.bk xs := by rw [TValue.cnL_eq]; exact cnS_leF xs fun x _ => x.cn_bk
theorem TValue.cnV_bk (x : TValue) : x.cnV ≤ 4 * x.bk := by
  unfold TValue.cnV
  rw [TValue.bk_eq]
  have h0 := TValue.cnL_bk x.list
  have h1 := strCnL_bk x.columns
  have h2 := TRow.cnL_bk x.rows
  omega
theorem TMark.cn_bk (x : TMark) : x.cn ≤ 4 * (1 + 0) := by
  rw [TMark.cn_eq]
  omega
theorem TMark.cnL_bk (xs : List TMark) : TMark.cnL xs ≤ 4 * bkS (fun _ => 0) xs := by rw [TMark.cnL_eq]; exact cnS_leF xs fun x _ => x.cn_bk
theorem TScene.cnV_bk (x : TScene) : x.cnV ≤ 4 * x.bk := by
  unfold TScene.cnV
  rw [TScene.bk_eq]
  have h0 := TMark.cnL_bk x.marks
  omega
end Go.Proofs.Ytmiboaogfjgkjaa
