/- The law FnExactFormatView: its mirrored function, and its contract. Written by a program of mine. -/
import Derived.Test.YtmiboaogfjgkjaaDoorWn
import Derived.Test.YtmiboaogfjgkjaaDoorCt0
import Derived.Test.YtmiboaogfjgkjaaDoorCtA0
set_option linter.unusedSimpArgs false
set_option linter.unusedVariables false
namespace Go.Proofs.YtmiboaogfjgkjaaDoor
open Go.RowKit Am
def w_FnExactFormatView (k : Nat) (a0 : List TLine) : Option Bool :=
  (w_szLineS k a0 1048576).bind fun x1 =>
  if (decide (x1 < 0)) then
    some true
  else
    (w_toLineS k a0).bind fun x2 =>
    (s_FormatView k x2).bind fun x3 =>
    (w_toLineS k a0).bind fun x4 =>
    (i_FormatView k x4).bind fun x5 =>
    if (!decide (x5 = x3)) then
      some false
    else
      (w_toLineS k a0).bind fun x6 =>
      (w_eqLineS k x4 x6).bind fun x7 =>
      if (!x7) then
        some false
      else
        some true
set_option maxHeartbeats 4000000 in
set_option maxRecDepth 100000 in
theorem w_FnExactFormatView_ctr (k : Nat) (a0 : List TLine) (r : Bool) (hM : w_FnExactFormatView k a0 = some r) : Ctr Tryd.prog 3 [.one (.sl (a0.map TLine.c))] true [.one (.bool r)] := by
  unfold w_FnExactFormatView at hM
  refine walkM Tryd.func3 Tryd.ntmps3 Tryd.results3 fun N w0 hbad F => ?_
  refine AW_sr fun K h => ?_; simp (maxSteps := 9999999) [go_sem, F]; refine h _ ?_; refine AW_sr fun K h => ?_; simp (maxSteps := 9999999) [go_sem, F]; refine h _ ?_; obtain ⟨x1, e1, hM⟩ := bind_some hM; refine AW_sr fun K h => ?_; simp (maxSteps := 9999999) [go_sem, F]; refine by_c false (w_szLineS_ctr k a0 1048576 x1 e1) ?_; simp (maxSteps := 9999999) [go_sem, F]; refine h _ ?_; refine AW_seq fun K2 hK2 => ?_
  refine AW_sr fun K h => ?_; simp (maxSteps := 9999999) [go_sem, F]; refine h _ ?_; refine AW_if hM (fun h3 hM => ?_) (fun h3 hM => ?_)
  · have g := h3; (try simp at g); have F := And.intro F (And.intro h3 (And.intro g (lT h3))); refine AW_sr fun K h => ?_; simp (maxSteps := 9999999) [go_sem, F]; refine h _ ?_; obtain rfl := si hM; refine AW_ret ?_; simp (maxSteps := 9999999) [go_sem, F]
  · have g := h3; (try simp at g); have F := And.intro F (And.intro h3 (And.intro g (lF h3))); refine AW_skip ?_; refine hK2 _ ?_; obtain ⟨x2, e4, hM⟩ := bind_some hM; obtain ⟨x3, e5, hM⟩ := bind_some hM; refine AW_sr fun K h => ?_; simp (maxSteps := 9999999) [go_sem, F]; refine by_c false (w_toLineS_ctr k a0 x2 e4) ?_; simp (maxSteps := 9999999) [go_sem, F]; refine by_c false (s_FormatView_ctr k x2 x3 e5) ?_
    simp (maxSteps := 9999999) [go_sem, F]; refine h _ ?_; obtain ⟨x4, e6, hM⟩ := bind_some hM; refine AW_sr fun K h => ?_; simp (maxSteps := 9999999) [go_sem, F]; refine by_c false (w_toLineS_ctr k a0 x4 e6) ?_; simp (maxSteps := 9999999) [go_sem, F]; refine h _ ?_; obtain ⟨x5, e7, hM⟩ := bind_some hM; refine AW_sr fun K h => ?_; simp (maxSteps := 9999999) [go_sem, F]; refine by_c false (i_FormatView_ctr k x4 x5 e7) ?_
    simp (maxSteps := 9999999) [go_sem, F]; refine h _ ?_; refine AW_seq fun K8 hK8 => ?_; refine AW_sr fun K h => ?_; simp (maxSteps := 9999999) [go_sem, F]; refine h _ ?_; refine AW_if hM (fun h9 hM => ?_) (fun h9 hM => ?_)
    · have g := h9; (try simp at g); have F := And.intro F (And.intro h9 g); refine AW_sr fun K h => ?_; simp (maxSteps := 9999999) [go_sem, F]; refine h _ ?_; obtain rfl := si hM; refine AW_ret ?_; simp (maxSteps := 9999999) [go_sem, F]
    · have g := h9; (try simp at g); have F := And.intro F (And.intro h9 g); refine AW_skip ?_; refine hK8 _ ?_; refine AW_seq fun K10 hK10 => ?_; obtain ⟨x6, e11, hM⟩ := bind_some hM; obtain ⟨x7, e12, hM⟩ := bind_some hM; refine AW_sr fun K h => ?_; simp (maxSteps := 9999999) [go_sem, F]; refine by_c false (w_toLineS_ctr k a0 x6 e11) ?_; simp (maxSteps := 9999999) [go_sem, F]; refine by_c false (w_eqLineS_ctr k x4 x6 x7 e12) ?_
      simp (maxSteps := 9999999) [go_sem, F]; refine h _ ?_; refine AW_if hM (fun h13 hM => ?_) (fun h13 hM => ?_)
      · have g := h13; (try simp at g); have F := And.intro F (And.intro h13 g); refine AW_sr fun K h => ?_; simp (maxSteps := 9999999) [go_sem, F]; refine h _ ?_; obtain rfl := si hM; refine AW_ret ?_; simp (maxSteps := 9999999) [go_sem, F]
      · have g := h13; (try simp at g); have F := And.intro F (And.intro h13 g); refine AW_skip ?_; refine hK10 _ ?_; refine AW_sr fun K h => ?_; simp (maxSteps := 9999999) [go_sem, F]; refine h _ ?_; obtain rfl := si hM; refine AW_ret ?_; simp (maxSteps := 9999999) [go_sem, F]
end Go.Proofs.YtmiboaogfjgkjaaDoor
