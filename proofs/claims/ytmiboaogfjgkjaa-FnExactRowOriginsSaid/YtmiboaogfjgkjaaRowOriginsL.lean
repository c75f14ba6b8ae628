/- RowOrigins: the program's and the reference's answer alike. -/
import Derived.Test.YtmiboaogfjgkjaaTo
import Derived.Test.YtmiboaogfjgkjaaIxL
import Derived.Test.YtmiboaogfjgkjaaInL
import Derived.Test.YtmiboaogfjgkjaaMd0
import Derived.Test.YtmiboaogfjgkjaaMd2
set_option linter.unusedSimpArgs false
set_option linter.unusedVariables false
namespace Go.Proofs.Ytmiboaogfjgkjaa
open Go.RowKit Am

theorem at_int {α : Type} {xs : List α} {i : Int} (h0 : 0 ≤ i) (h1 : i < xs.length) : ∃ x, x ∈ xs ∧ at? xs i = some x := by
  have hl : i.toNat < xs.length := by omega
  refine ⟨xs[i.toNat], List.getElem_mem hl, ?_⟩
  unfold at?
  rw [if_pos h0, List.getElem?_eq_getElem hl]
theorem TValue.rows_len (x : TValue) : x.rows.length ≤ x.bk := by rw [TValue.bk_eq]; have := bkS_len (f := TRow.bk) (xs := x.rows); omega
theorem TRow.from_len (x : TRow) : x.from_.length ≤ x.bk := by rw [TRow.bk_eq]; have := bkS_len (f := fun _ : TOrigin => 0) (xs := x.from_); omega
theorem RowOrigins_agree (nb : TNotebook) (_h : DOkL nb.c) (bn : nb.bk ≤ 1048576) (run : TRun) (_hr : DOkL run.c) (br : run.bk ≤ 1048576) (cell : Int) (_hc : DOk (.int .i64 cell)) (row : Int) (_hw : DOk (.int .i64 row)) :
    ∃ v, bkS (fun _ => 0) v ≤ 1073741824 ∧ Ev fun k => s_RowOrigins k nb run cell row = some v ∧ i_RowOrigins k nb run cell row = some v := by
  have hl := nb_len nb
  have hbd := find1_bd (fun x : TCell => decide (x.id = cell)) nb.cells
  change -1 ≤ cix nb cell ∧ cix nb cell < _ at hbd
  have key : ∃ v, bkS (fun _ => 0) v ≤ 1073741824 ∧ ∀ k, nb.cells.length < k → s_RowOrigins k nb run cell row = some v ∧ i_RowOrigins k nb run cell row = some v := by
    by_cases c1 : cix nb cell < 0
    · refine ⟨[], by simp [bkS, sumBk], fun k hk => ?_⟩
      unfold s_RowOrigins i_RowOrigins i_rowOf
      simp [s_CellIndex_eq nb cell (by omega) hk, i_CellIndex_eq nb cell (by omega) hk, c1]
    by_cases c2 : (run.values.length : Int) ≤ cix nb cell
    · refine ⟨[], by simp [bkS, sumBk], fun k hk => ?_⟩
      unfold s_RowOrigins i_RowOrigins i_rowOf
      simp [s_CellIndex_eq nb cell (by omega) hk, i_CellIndex_eq nb cell (by omega) hk, c1, c2]
    obtain ⟨y, hm, hy⟩ := at_int (xs := run.values) (i := cix nb cell) (by omega) (by omega)
    have b1 : y.bk ≤ run.bk := by rw [TRun.bk_eq]; have := bkS_get (f := TValue.bk) hm; omega
    have b2 := y.rows_len
    have hw : IntKind.i64.wrap ((y.rows.length : Int) - 1) = (y.rows.length : Int) - 1 := w64 (by omega) (by omega)
    by_cases c3 : 0 ≤ row ∧ row < y.rows.length
    · obtain ⟨r, hrm, hr⟩ := at_int (xs := y.rows) (i := row) c3.1 c3.2
      have b3 : r.bk ≤ y.bk := by rw [TValue.bk_eq]; have := bkS_get (f := TRow.bk) hrm; omega
      have b4 := r.from_len
      refine ⟨r.from_, by rw [bkS_0]; omega, fun k hk => ?_⟩
      have d1 : row ≤ (y.rows.length : Int) - 1 := by omega
      have d2 : ¬ (row < 0) := by omega
      have d3 : ¬ ((y.rows.length : Int) ≤ row) := by omega
      have ha : app? 16 ([] : List TOrigin) r.from_ = some r.from_ := app_ok (by simp; omega) (by omega)
      unfold s_RowOrigins i_RowOrigins i_rowOf
      simp [s_CellIndex_eq nb cell (by omega) hk, i_CellIndex_eq nb cell (by omega) hk, c1, c2, hy, hr, l1In_eq, hw, c3.1, d1, d2, d3, ha]
    · refine ⟨[], by simp [bkS, sumBk], fun k hk => ?_⟩
      unfold s_RowOrigins i_RowOrigins i_rowOf
      by_cases d2 : row < 0
      · have d1 : ¬ (0 ≤ row) := by omega
        simp [s_CellIndex_eq nb cell (by omega) hk, i_CellIndex_eq nb cell (by omega) hk, c1, c2, hy, l1In_eq, hw, d1, d2]
      · have d0 : 0 ≤ row := by omega
        have d1 : ¬ (row ≤ (y.rows.length : Int) - 1) := by omega
        have d3 : (y.rows.length : Int) ≤ row := by omega
        simp [s_CellIndex_eq nb cell (by omega) hk, i_CellIndex_eq nb cell (by omega) hk, c1, c2, hy, l1In_eq, hw, d0, d1, d2, d3]
  obtain ⟨v, h1, h2⟩ := key
  exact ⟨v, h1, (Ev.ge (nb.cells.length + 1)).mono fun k hk => h2 k (by omega)⟩
end Go.Proofs.Ytmiboaogfjgkjaa
