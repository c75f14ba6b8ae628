/- AdvanceWorld: the program's and the reference's answer alike. -/
import Derived.Test.YtmiboaogfjgkjaaGreatCeL
import Derived.Test.YtmiboaogfjgkjaaGreatMd1
import Derived.Test.YtmiboaogfjgkjaaGreatMd2
set_option linter.unusedSimpArgs false
set_option linter.unusedVariables false
namespace Go.Proofs.YtmiboaogfjgkjaaGreat
open Go.RowKit Am

theorem AdvanceWorld_agree (e : TEngine) (_h : DOkL e.c) (be : e.bk ≤ 1048576) (w : TWorld) (_hw : DOkL w.c) (bw : w.bk ≤ 1048576) : ∃ v : TEngine × Bool, v.1.bk ≤ 1073741824 ∧ Ev fun k => s_AdvanceWorld k e w = some v ∧ i_AdvanceWorld k e w = some v := by
  have b := w.bk_eq
  have l1 := bkS_len (f := TFile.bk) (xs := w.files)
  have hv := validWorld w (by omega) fun x hx => by have := bkS_get (f := TFile.bk) hx; have := x.bk_eq; omega
  obtain ⟨c1, c2⟩ := worldCopy w (by omega)
  have hs := s_engineCopy e (by omega)
  have hi := i_engineCopy e (by omega)
  cases g : worldOk w with
  | true =>
    refine ⟨(⟨e.notebook, w, e.tapes, e.entries, e.next, e.limit, e.work⟩, true), ?_, ((hs.and hi).and hv).mono ?_⟩
    · have := e.bk_eq
      rw [TEngine.bk_eq]; simp only; omega
    rintro k ⟨⟨h1, h2⟩, h3, h4⟩
    unfold s_AdvanceWorld i_AdvanceWorld
    rw [h1, h2, h3, h4]
    simp [g, c1, c2]
  | false =>
    refine ⟨(e, false), by simp only; omega, ((hs.and hi).and hv).mono ?_⟩
    rintro k ⟨⟨h1, h2⟩, h3, h4⟩
    unfold s_AdvanceWorld i_AdvanceWorld
    rw [h1, h2, h3, h4]
    simp [g]
end Go.Proofs.YtmiboaogfjgkjaaGreat
