/- Contracts of the program's functions: where the mirrored function answers, the program's function returns this answer. Written by a program of mine. -/
import Derived.Test.YtmiboaogfjgkjaaWn
import Derived.Test.YtmiboaogfjgkjaaMdA0
set_option linter.unusedSimpArgs false
set_option linter.unusedVariables false
namespace Go.Proofs.Ytmiboaogfjgkjaa
open Go.RowKit Am
set_option maxHeartbeats 4000000
set_option maxRecDepth 100000
theorem w_eqIntS_ctr (k : Nat) (a0 : List Int) (a1 : List Int) (r : Bool) (hM : w_eqIntS k a0 a1 = some r) : Ctr Try.prog 33 [.one (.sl (a0.map iC)), .one (.sl (a1.map iC))] true [.one (.bool r)] := by
  unfold w_eqIntS at hM
  refine walkM Try.func33 Try.ntmps33 Try.results33 fun N w0 hbad F => ?_
  refine AW_sr fun K h => ?_; simp [go_sem, F]; refine h _ ?_; refine AW_seq fun K1 hK1 => ?_; refine AW_sr fun K h => ?_; simp [go_sem, F]; refine h _ ?_; refine AW_if hM (fun h2 hM => ?_) (fun h2 hM => ?_)
  · have g := h2; (try simp at g); have F := And.intro F (And.intro h2 g); refine AW_sr fun K h => ?_; simp [go_sem, F]; refine h _ ?_; obtain rfl := si hM; refine AW_ret ?_; simp [go_sem, F]
  · have g := h2; (try simp at g); have F := And.intro F (And.intro h2 g); refine AW_skip ?_; refine hK1 _ ?_; obtain ⟨e3, hU5, hR4⟩ := bind_some hM; clear hM; refine AW_mid (ι := Unit) (fun i => ⟨26, [], [], []⟩) (fun i => (.inl i) = e3) ?_ ?_
    · intro K6 hK6; have hM := hU5; clear hU5; refine AW_sr fun K h => ?_; simp [go_sem, F]; refine h _ ?_; refine AW_block ?_; refine AW_lp (ι := Int) (fun i => ⟨26, [(0, .one (.l (.sl (a0.map iC)))), (1, .one (.l (.sl (a1.map iC)))), (5, .one (.l (.int .i64 i)))], [], []⟩) (fun n i => w_eqIntS_u1 a0 a1 n i = some e3) k 0 hM (by simp [w_eqIntS_u1]) ?_; intro KL7 n x1 hL7 hM F; have hM : w_eqIntS_u1 a0 a1 (n + 1) x1 = some e3 := hM; rw [w_eqIntS_u1] at hM
      refine AW_seq fun K8 hK8 => ?_; refine AW_sr fun K h => ?_; simp [go_sem, F]; refine h _ ?_; refine AW_if hM (fun h9 hM => ?_) (fun h9 hM => ?_)
      · have g := h9; (try simp at g); have F := And.intro F (And.intro h9 (And.intro g (lT h9))); refine AW_skip ?_; refine hK8 _ ?_; refine AW_seq fun K10 hK10 => ?_; refine AW_block ?_; refine AW_seq fun K11 hK11 => ?_; obtain ⟨x2, e12, hM⟩ := bind_some hM; have F := And.intro F (at_f e12); obtain ⟨x3, e13, hM⟩ := bind_some hM; have F := And.intro F (at_f e13); refine AW_quickN 8 mixed (by kernel_rfl) (by kernel_rfl) ?_
        simp [go_sem, F]; refine hK11 _ ?_; refine AW_if hM (fun h14 hM => ?_) (fun h14 hM => ?_)
        · have g := h14; (try simp at g); have F := And.intro F (And.intro h14 g); refine AW_sr fun K h => ?_; simp [go_sem, F]; refine h _ ?_; obtain rfl := si hM; have hM := hR4; dsimp only at hM; obtain rfl := si hM; refine AW_ret ?_; simp [go_sem, F]
        · have g := h14; (try simp at g); have F := And.intro F (And.intro h14 g); refine AW_skip ?_; refine hK10 _ ?_; refine AW_region ?_; simp [go_sem, F]; exact fin hL7 (IntKind.i64.wrap (x1 + 1)) hM
      · have g := h9; (try simp at g); have F := And.intro F (And.intro h9 (And.intro g (lF h9))); refine AW_exit ?_; obtain rfl := si hM; exact fin hK6 () rfl
    · rintro _ rfl; have hM := hR4; dsimp only at hM; refine AW_sr fun K h => ?_; simp [go_sem, F]; refine h _ ?_; obtain rfl := si hM; refine AW_ret ?_; simp [go_sem, F]
end Go.Proofs.Ytmiboaogfjgkjaa
