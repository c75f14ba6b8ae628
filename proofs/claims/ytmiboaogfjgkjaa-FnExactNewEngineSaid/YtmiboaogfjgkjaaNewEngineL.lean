/- NewEngine: the program's and the reference's answer alike. -/
import Derived.Test.YtmiboaogfjgkjaaWorldL
import Derived.Test.YtmiboaogfjgkjaaMd9
set_option linter.unusedSimpArgs false
set_option linter.unusedVariables false
namespace Go.Proofs.Ytmiboaogfjgkjaa
open Go.RowKit Am

theorem NewEngine_agree (w : TWorld) (_h : DOkL w.c) (bw : w.bk ≤ 1048576) (l : Int) (_hl : DOk (.int .i64 l)) : ∃ v : TEngine × Bool, v.1.bk ≤ 1073741824 ∧ Ev fun k => s_NewEngine k w l = some v ∧ i_NewEngine k w l = some v := by
  have e := w.bk_eq
  have l1 := bkS_len (f := TFile.bk) (xs := w.files)
  have hv := validWorld w (by omega) fun x hx => by have := bkS_get (f := TFile.bk) hx; have := x.bk_eq; omega
  obtain ⟨c1, c2⟩ := world_copy w (by omega)
  by_cases g : (worldOk w && (decide (0 ≤ l) && decide (l ≤ 1000))) = true
  · refine ⟨(⟨⟨[]⟩, w, [], [], 1, l, 0⟩, true), ?_, hv.mono ?_⟩
    · simp only [TEngine.bk_eq, TNotebook.bk_eq, bkS, sumBk, List.length_nil, List.map_nil, List.sum_nil]; omega
    rintro k ⟨h1, h2⟩
    unfold s_NewEngine i_NewEngine
    rw [h1, h2]
    simp only [Bool.and_eq_true, decide_eq_true_eq] at g
    simp [l1In_eq, within_eq, g.1, g.2.1, g.2.2, c1, c2]
  · refine ⟨(⟨⟨[]⟩, ⟨0, 0, []⟩, [], [], 0, 0, 0⟩, false), ?_, hv.mono ?_⟩
    · simp only [TEngine.bk_eq, TNotebook.bk_eq, TWorld.bk_eq, bkS, sumBk, List.length_nil, List.map_nil, List.sum_nil]; omega
    rintro k ⟨h1, h2⟩
    unfold s_NewEngine i_NewEngine
    rw [h1, h2]
    simp only [l1In_eq, within_eq]
    revert g
    cases worldOk w <;> cases decide (0 ≤ l) <;> cases decide (l ≤ 1000) <;> simp
end Go.Proofs.Ytmiboaogfjgkjaa
