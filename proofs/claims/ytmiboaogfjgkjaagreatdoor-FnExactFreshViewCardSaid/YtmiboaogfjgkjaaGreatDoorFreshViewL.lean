/- FreshView: the program's view is the reference's. -/
import Derived.Test.YtmiboaogfjgkjaaGreatDoorNbL
import Derived.Test.YtmiboaogfjgkjaaGreatDoorCellLineL
import Derived.Test.YtmiboaogfjgkjaaGreatDoorMd2
import Derived.Test.YtmiboaogfjgkjaaGreatDoorMd3
set_option linter.unusedSimpArgs false
set_option linter.unusedVariables false
namespace Go.Proofs.YtmiboaogfjgkjaaGreatDoor
open Go.RowKit Am
instance : Inhabited TLine := ⟨⟨0, false, toB []⟩⟩
theorem lines_bk (f : TCell × TValue → TLine) : ∀ (cs : List TCell) (vs : List TValue), cs.length = vs.length → (∀ p ∈ cs.zip vs, (f p).bk ≤ p.1.bk + 6 + 1000 * (p.2.bk + 1)) → bkS TLine.bk ((cs.zip vs).map f) ≤ bkS TCell.bk cs + 6 * cs.length + 1000 * bkS TValue.bk vs
  | [], [], _, _ => by simp [bkS, sumBk]
  | c :: cs, v :: vs, hl, h => by
    have h1 := lines_bk f cs vs (by simpa using hl) fun p hp => h p (List.mem_cons_of_mem _ hp)
    have h2 := h (c, v) (List.mem_cons_self ..)
    simp only [bkS, sumBk, List.zip_cons_cons, List.map_cons, List.sum_cons, List.length_cons] at h1 h2 ⊢
    omega
  | [], _ :: _, hl, _ => by simp at hl
  | _ :: _, [], hl, _ => by simp at hl
theorem FreshView_agree (nb : TNotebook) (_h : DOkL nb.c) (bn : nb.bk ≤ 1048576) (run : TRun) (_hr : DOkL run.c) (br : run.bk ≤ 1048576) : ∃ v, bkS TLine.bk v ≤ 1073741824 ∧ Ev fun k => s_FreshView k nb run = some v ∧ i_FreshView k nb run = some v := by
  have e1 := TNotebook.bk_eq nb
  have e2 := TRun.bk_eq run
  have hl := nb_len nb
  have hl2 := bkS_len (f := TValue.bk) (xs := run.values)
  cases hok : nbOk nb with
  | false =>
    refine ⟨[], by simp [bkS, sumBk], (Ev.ge 1048700).mono fun k hk => ?_⟩
    obtain ⟨v1, v2⟩ := validNotebook nb bn (show 1048600 < k by omega)
    unfold s_FreshView i_FreshView
    rw [v1, v2, hok]; exact ⟨rfl, rfl⟩
  | true =>
    by_cases hle : nb.cells.length = run.values.length
    · obtain ⟨f, hf⟩ := choose_mem (nb.cells.zip run.values) (p := fun p (r : TLine) => r.bk ≤ p.1.bk + 6 + 1000 * (p.2.bk + 1) ∧ Ev fun k => s_CellLine k p.1 p.2 true = some r ∧ i_CellLine k p.1 p.2 true = some r) fun p hp => by
        have h1 := bkS_get (f := TCell.bk) (List.of_mem_zip hp).1
        have h2 := bkS_get (f := TValue.bk) (List.of_mem_zip hp).2
        exact CellLine_tot p.1 (by omega) p.2 (by omega) true
      have hb := lines_bk f nb.cells run.values hle fun p hp => (hf p hp).1
      have hz : (nb.cells.zip run.values).length = nb.cells.length := by simp [List.length_zip]; omega
      refine ⟨(nb.cells.zip run.values).map f, by omega, ((Ev.all _ fun p hp => (hf p hp).2).and (Ev.ge 1048700)).mono fun k ⟨ha, hk⟩ => ?_⟩
      obtain ⟨v1, v2⟩ := validNotebook nb bn (show 1048600 < k by omega)
      have gt : ∀ (j : Nat) (h : j < (nb.cells.zip run.values).length), ∃ (h1 : j < nb.cells.length) (h2 : j < run.values.length), (nb.cells.zip run.values)[j] = (nb.cells[j], run.values[j]) := fun j h => by
        refine ⟨by omega, by omega, ?_⟩
        simp
      unfold s_FreshView i_FreshView
      constructor
      · have key := mapA_loop 32 (by omega) (nb.cells.zip run.values) f (fun i => (at? nb.cells i).bind fun c => (at? run.values i).bind fun v => s_CellLine k c v true) (s_FreshView_u1 k nb run)
          (fun j h => by
            obtain ⟨h1, h2, h3⟩ := gt j h
            have := (ha _ (List.getElem_mem h)).1
            rw [h3] at this ⊢
            rw [at_in h1, Option.bind_some, at_in h2, Option.bind_some, this])
          (fun n s i => by rw [s_FreshView_u1, hz]; simp only [Option.bind_assoc]) (by omega) (k := k) (by omega)
        rw [v1, hok, key]
        simp [hle]
      · have key := mapA_loop 32 (by omega) (nb.cells.zip run.values) f (fun i => (at? nb.cells i).bind fun c => (at? run.values i).bind fun v => i_CellLine k c v true) (i_FreshView_u1 k nb run)
          (fun j h => by
            obtain ⟨h1, h2, h3⟩ := gt j h
            have := (ha _ (List.getElem_mem h)).2
            rw [h3] at this ⊢
            rw [at_in h1, Option.bind_some, at_in h2, Option.bind_some, this])
          (fun n s i => by rw [i_FreshView_u1, hz]; simp only [Option.bind_assoc]) (by omega) (k := k) (by omega)
        rw [v2, hok, key]
        simp [hle]
    · refine ⟨[], by simp [bkS, sumBk], (Ev.ge 1048700).mono fun k hk => ?_⟩
      obtain ⟨v1, v2⟩ := validNotebook nb bn (show 1048600 < k by omega)
      have hne : ¬ ((nb.cells.length : Int) = (run.values.length : Int)) := by omega
      unfold s_FreshView i_FreshView
      rw [v1, v2, hok]
      simp [hne]
end Go.Proofs.YtmiboaogfjgkjaaGreatDoor
