/- ChangedCells: the program's and the reference's answer alike. -/
import Derived.Test.YtmiboaogfjgkjaaTo
import Derived.Test.YtmiboaogfjgkjaaIxL
import Derived.Test.YtmiboaogfjgkjaaMd0
import Derived.Test.YtmiboaogfjgkjaaEq0
set_option linter.unusedSimpArgs false
set_option linter.unusedVariables false
namespace Go.Proofs.Ytmiboaogfjgkjaa
open Go.RowKit Am

theorem CellIndex_tot (nb : TNotebook) (id : Int) (hl : nb.cells.length ≤ 4294967296) : Tot (fun v : Int => -1 ≤ v ∧ v < nb.cells.length) fun k => s_CellIndex k nb id :=
  ⟨cix nb id, find1_bd _ _, (Ev.ge (nb.cells.length + 1)).mono fun k hk => s_CellIndex_eq nb id hl (by omega)⟩
theorem ChangedCells_tot (a b : TNotebook) (ha : a.cells.length ≤ 1048576) (hb : b.cells.length ≤ 1048576) : Tot (fun v => v.length ≤ 1048576) fun k => s_ChangedCells k a b := by
  unfold s_ChangedCells
  refine .bind (p := fun v : List Int => v.length ≤ 1048576) ?_ fun v hv => .ret hv
  refine Tot.loop (fun k n (s : List Int × Int) => s_ChangedCells_u1 k a b n s.1 s.2) (fun s => 0 ≤ s.2 ∧ s.2 ≤ b.cells.length ∧ s.1.length ≤ s.2) (fun s => (b.cells.length - s.2).toNat) (s0 := ([], 0)) ⟨by simp, by simp, by simp⟩ ?_
  rintro ⟨x, i⟩ ⟨h0, h1, h2⟩
  simp only [s_ChangedCells_u1] at h0 h1 h2 ⊢
  refine .ite (fun c => ?_) fun c => .ret (by omega)
  have c : i < b.cells.length := by simpa using c
  have hw : IntKind.i64.wrap (i + 1) = i + 1 := w64 (by omega) (by omega)
  rw [hw]
  refine .bind (p := fun v : List Int => v.length ≤ i + 1) ?_ fun v hv => .next2 ⟨⟨by simp; omega, by simp; omega, by simp; omega⟩, by simp; omega⟩
  refine .bindAt h0 c fun y _ _ => .bind (CellIndex_tot a _ (by omega)) fun j hj => .bind (p := fun _ => True) ?_ fun t _ => ?_
  · refine .ite (fun _ => .ret trivial) fun d => ?_
    have d : 0 ≤ j := by simpa using d
    exact .bindAt d hj.2 fun _ _ _ => .ret trivial
  · refine .ite (fun _ => ?_) fun _ => .ret (by omega)
    refine .bindApp (by omega) (by simp; omega) (.ret (by simp; omega))
theorem ChangedCells_agree (a : TNotebook) (_h : DOkL a.c) (ba : a.bk ≤ 1048576) (b : TNotebook) (_hb : DOkL b.c) (bb : b.bk ≤ 1048576) : ∃ v, bkS (fun _ => 0) v ≤ 1073741824 ∧ Ev fun k => s_ChangedCells k a b = some v ∧ i_ChangedCells k a b = some v := by
  obtain ⟨v, h1, h2⟩ := ChangedCells_tot a b (by have := nb_len a; omega) (by have := nb_len b; omega)
  refine ⟨v, by rw [bkS_0]; omega, h2.mono fun k h => ?_⟩
  rw [i_ChangedCells_eqv]; exact ⟨h, h⟩
end Go.Proofs.Ytmiboaogfjgkjaa
