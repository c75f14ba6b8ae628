/- Contracts of the program's functions: where the mirrored function answers, the program's function returns this answer. Written by a program of mine. -/
import Derived.Test.YtmiboaogfjgkjaaWn
import Derived.Test.YtmiboaogfjgkjaaMd1
set_option linter.unusedSimpArgs false
set_option linter.unusedVariables false
namespace Go.Proofs.Ytmiboaogfjgkjaa
open Go.RowKit Am
set_option maxHeartbeats 4000000
set_option maxRecDepth 100000
theorem s_l1In_ctr (a0 : Int) (a1 : Int) (a2 : Int) (r : Bool) (hM : s_l1In a0 a1 a2 = some r) : Ctr Try.prog 77 [.one (.int .i64 a0), .one (.int .i64 a1), .one (.int .i64 a2)] true [.one (.bool r)] := by
  unfold s_l1In at hM
  refine walkM Try.func77 Try.ntmps77 Try.results77 fun N w0 hbad F => ?_
  refine AW_sr fun K h => ?_; simp [go_sem, F]; refine h _ ?_; obtain ⟨e1, hU3, hR2⟩ := bind_some hM; clear hM; refine AW_mid (ι := Bool) (fun i => ⟨15, [(6, .one (.l (.bool i)))], [], []⟩) (fun i => i = e1) ?_ ?_
  · intro K4 hK4; have hM := hU3; clear hU3; rcases ifM hM with ⟨h5, hM⟩ | ⟨h5, hM⟩
    · have g := h5; (try simp at g); have F := And.intro F (And.intro h5 (And.intro g (eT h5))); refine AW_region ?_; simp [go_sem, F]; obtain rfl := si hM; exact fin hK4 (decide (a0 ≤ a2)) rfl
    · have g := h5; (try simp at g); have F := And.intro F (And.intro h5 (And.intro g (eF h5))); refine AW_region ?_; simp [go_sem, F]; obtain rfl := si hM; exact fin hK4 false rfl
  · rintro x1 rfl; have hM := hR2; (try dsimp only at hM); obtain rfl := si hM; refine AW_ret ?_; simp [go_sem, F]
theorem i_within_ctr (a0 : Int) (a1 : Int) (a2 : Int) (r : Bool) (hM : i_within a0 a1 a2 = some r) : Ctr Try.prog 92 [.one (.int .i64 a0), .one (.int .i64 a1), .one (.int .i64 a2)] true [.one (.bool r)] := by
  unfold i_within at hM
  refine walkM Try.func92 Try.ntmps92 Try.results92 fun N w0 hbad F => ?_
  refine AW_sr fun K h => ?_; simp [go_sem, F]; refine h _ ?_; obtain ⟨e1, hU3, hR2⟩ := bind_some hM; clear hM; refine AW_mid (ι := Bool) (fun i => ⟨15, [(6, .one (.l (.bool i)))], [], []⟩) (fun i => i = e1) ?_ ?_
  · intro K4 hK4; have hM := hU3; clear hU3; rcases ifM hM with ⟨h5, hM⟩ | ⟨h5, hM⟩
    · have g := h5; (try simp at g); have F := And.intro F (And.intro h5 (And.intro g (eT h5))); refine AW_region ?_; simp [go_sem, F]; obtain rfl := si hM; exact fin hK4 (decide (a0 ≤ a2)) rfl
    · have g := h5; (try simp at g); have F := And.intro F (And.intro h5 (And.intro g (eF h5))); refine AW_region ?_; simp [go_sem, F]; obtain rfl := si hM; exact fin hK4 false rfl
  · rintro x1 rfl; have hM := hR2; (try dsimp only at hM); obtain rfl := si hM; refine AW_ret ?_; simp [go_sem, F]
end Go.Proofs.Ytmiboaogfjgkjaa
