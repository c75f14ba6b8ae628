/- Contracts of the program's functions: where the mirrored function answers, the program's function returns this answer. Written by a program of mine. -/
import Derived.Test.YtmiboaogfjgkjaaDoorWn
import Derived.Test.YtmiboaogfjgkjaaDoorMd4
import Derived.Test.YtmiboaogfjgkjaaDoorCt3
set_option linter.unusedSimpArgs false
set_option linter.unusedVariables false
namespace Go.Proofs.YtmiboaogfjgkjaaDoor
open Go.RowKit Am
set_option maxHeartbeats 4000000
set_option maxRecDepth 100000
theorem i_CellLine_ctr (k : Nat) (a0 : TCell) (a1 : TValue) (a2 : Bool) (r : TLine) (hM : i_CellLine k a0 a1 a2 = some r) : Ctr Tryd.prog 15 [.agg (TCell.c a0), .agg (TValue.c a1), .one (.bool a2)] true [.agg (TLine.c r)] := by
  unfold i_CellLine at hM
  refine walkM Tryd.func15 Tryd.ntmps15 Tryd.results15 fun N w0 hbad F => ?_
  refine AW_sr fun K h => ?_; simp [go_sem, F]; refine h _ ?_; refine AW_seq fun K1 hK1 => ?_; refine AW_block ?_; refine AW_sr fun K h => ?_; simp [go_sem, F]; refine h _ ?_; refine AW_if hM (fun h2 hM => ?_) (fun h2 hM => ?_)
  · have g := h2; (try simp at g); have F := And.intro F (And.intro h2 g); refine AW_sr fun K h => ?_; simp [go_sem, F]; refine h _ ?_; obtain rfl := si hM; refine AW_ret ?_; simp [go_sem, F]
  · have g := h2; (try simp at g); have F := And.intro F (And.intro h2 g); refine AW_sr fun K h => ?_; simp [go_sem, F]; refine h _ ?_; refine AW_if hM (fun h3 hM => ?_) (fun h3 hM => ?_)
    · have g := h3; (try simp at g); have F := And.intro F (And.intro h3 g); refine AW_seq fun K4 hK4 => ?_; obtain ⟨x1, e5, hM⟩ := bind_some hM; obtain ⟨c6, s7⟩ := cat_spec e5; replace c6 := c6.symm; subst c6; (try simp [go_sem] at s7); have F := And.intro F s7; obtain ⟨x2, e8, hM⟩ := bind_some hM; obtain ⟨x3, e9, hM⟩ := bind_some hM; obtain ⟨c10, s11⟩ := cat_spec e9; replace c10 := c10.symm; subst c10; (try simp [go_sem] at s11)
      have F := And.intro F s11; refine AW_quickN 8 mixed (by kernel_rfl) (by kernel_rfl) ?_; simp [go_sem, F]; refine by_c false (i_FormatValue_ctr k a1 x2 e8) ?_; simp [go_sem, F]; refine hK4 _ ?_; obtain rfl := si hM; refine AW_ret ?_; simp [go_sem, F]
    · have g := h3; (try simp at g); have F := And.intro F (And.intro h3 g); refine AW_skip ?_; refine hK1 _ ?_; obtain ⟨x4, e12, hM⟩ := bind_some hM; obtain ⟨c13, s14⟩ := cat_spec e12; replace c13 := c13.symm; subst c13; (try simp [go_sem] at s14); have F := And.intro F s14; refine AW_sr fun K h => ?_; simp [go_sem, F]; refine h _ ?_; obtain rfl := si hM; refine AW_ret ?_; simp [go_sem, F]
end Go.Proofs.YtmiboaogfjgkjaaDoor
