/- Contracts of the program's functions: where the mirrored function answers, the program's function returns this answer. Written by a program of mine. -/
import Derived.Test.YtmiboaogfjgkjaaWn
import Derived.Test.YtmiboaogfjgkjaaMdA5
import Derived.Test.YtmiboaogfjgkjaaCtA0
import Derived.Test.YtmiboaogfjgkjaaCtA2
import Derived.Test.YtmiboaogfjgkjaaCtA3
import Derived.Test.YtmiboaogfjgkjaaCtA4
set_option linter.unusedSimpArgs false
set_option linter.unusedVariables false
namespace Go.Proofs.Ytmiboaogfjgkjaa
open Go.RowKit Am
set_option maxHeartbeats 4000000
set_option maxRecDepth 100000
theorem w_eqMark_ctr (a0 : TMark) (a1 : TMark) (r : Bool) (hM : w_eqMark a0 a1 = some r) : Ctr Try.prog 168 [.agg (TMark.c a0), .agg (TMark.c a1)] true [.one (.bool r)] := by
  unfold w_eqMark at hM
  refine walkM Try.func168 Try.ntmps168 Try.results168 fun N w0 hbad F => ?_
  refine AW_sr fun K h => ?_; simp [go_sem, F]; refine h _ ?_; refine AW_seq fun K1 hK1 => ?_; refine AW_sr fun K h => ?_; simp [go_sem, F]; refine h _ ?_; refine AW_if hM (fun h2 hM => ?_) (fun h2 hM => ?_)
  · have g := h2; (try simp at g); have F := And.intro F (And.intro h2 g); refine AW_sr fun K h => ?_; simp [go_sem, F]; refine h _ ?_; obtain rfl := si hM; refine AW_ret ?_; simp [go_sem, F]
  · have g := h2; (try simp at g); have F := And.intro F (And.intro h2 g); refine AW_skip ?_; refine hK1 _ ?_; refine AW_seq fun K3 hK3 => ?_; refine AW_sr fun K h => ?_; simp [go_sem, F]; refine h _ ?_; refine AW_if hM (fun h4 hM => ?_) (fun h4 hM => ?_)
    · have g := h4; (try simp at g); have F := And.intro F (And.intro h4 g); refine AW_sr fun K h => ?_; simp [go_sem, F]; refine h _ ?_; obtain rfl := si hM; refine AW_ret ?_; simp [go_sem, F]
    · have g := h4; (try simp at g); have F := And.intro F (And.intro h4 g); refine AW_skip ?_; refine hK3 _ ?_; refine AW_seq fun K5 hK5 => ?_; refine AW_sr fun K h => ?_; simp [go_sem, F]; refine h _ ?_; refine AW_if hM (fun h6 hM => ?_) (fun h6 hM => ?_)
      · have g := h6; (try simp at g); have F := And.intro F (And.intro h6 g); refine AW_sr fun K h => ?_; simp [go_sem, F]; refine h _ ?_; obtain rfl := si hM; refine AW_ret ?_; simp [go_sem, F]
      · have g := h6; (try simp at g); have F := And.intro F (And.intro h6 g); refine AW_skip ?_; refine hK5 _ ?_; refine AW_seq fun K7 hK7 => ?_; refine AW_sr fun K h => ?_; simp [go_sem, F]; refine h _ ?_; refine AW_if hM (fun h8 hM => ?_) (fun h8 hM => ?_)
        · have g := h8; (try simp at g); have F := And.intro F (And.intro h8 g); refine AW_sr fun K h => ?_; simp [go_sem, F]; refine h _ ?_; obtain rfl := si hM; refine AW_ret ?_; simp [go_sem, F]
        · have g := h8; (try simp at g); have F := And.intro F (And.intro h8 g); refine AW_skip ?_; refine hK7 _ ?_; refine AW_sr fun K h => ?_; simp [go_sem, F]; refine h _ ?_; obtain rfl := si hM; refine AW_ret ?_; simp [go_sem, F]
theorem w_eqMarkS_ctr (k : Nat) (a0 : List TMark) (a1 : List TMark) (r : Bool) (hM : w_eqMarkS k a0 a1 = some r) : Ctr Try.prog 122 [.one (.sl (a0.map TMark.c)), .one (.sl (a1.map TMark.c))] true [.one (.bool r)] := by
  unfold w_eqMarkS at hM
  refine walkM Try.func122 Try.ntmps122 Try.results122 fun N w0 hbad F => ?_
  refine AW_sr fun K h => ?_; simp [go_sem, F]; refine h _ ?_; refine AW_seq fun K1 hK1 => ?_; refine AW_sr fun K h => ?_; simp [go_sem, F]; refine h _ ?_; refine AW_if hM (fun h2 hM => ?_) (fun h2 hM => ?_)
  · have g := h2; (try simp at g); have F := And.intro F (And.intro h2 g); refine AW_sr fun K h => ?_; simp [go_sem, F]; refine h _ ?_; obtain rfl := si hM; refine AW_ret ?_; simp [go_sem, F]
  · have g := h2; (try simp at g); have F := And.intro F (And.intro h2 g); refine AW_skip ?_; refine hK1 _ ?_; obtain ⟨e3, hU5, hR4⟩ := bind_some hM; clear hM; refine AW_mid (ι := Unit) (fun i => ⟨27, [], [], []⟩) (fun i => (.inl i) = e3) ?_ ?_
    · intro K6 hK6; have hM := hU5; clear hU5; refine AW_sr fun K h => ?_; simp [go_sem, F]; refine h _ ?_; refine AW_block ?_; refine AW_lp (ι := Int) (fun i => ⟨27, [(0, .one (.l (.sl (a0.map TMark.c)))), (1, .one (.l (.sl (a1.map TMark.c)))), (5, .one (.l (.int .i64 i)))], [], []⟩) (fun n i => w_eqMarkS_u1 a0 a1 n i = some e3) k 0 hM (by simp [w_eqMarkS_u1]) ?_; intro KL7 n x1 hL7 hM F; have hM : w_eqMarkS_u1 a0 a1 (n + 1) x1 = some e3 := hM; rw [w_eqMarkS_u1] at hM
      refine AW_seq fun K8 hK8 => ?_; refine AW_sr fun K h => ?_; simp [go_sem, F]; refine h _ ?_; refine AW_if hM (fun h9 hM => ?_) (fun h9 hM => ?_)
      · have g := h9; (try simp at g); have F := And.intro F (And.intro h9 (And.intro g (lT h9))); refine AW_skip ?_; refine hK8 _ ?_; refine AW_seq fun K10 hK10 => ?_; refine AW_block ?_; refine AW_seq fun K11 hK11 => ?_; obtain ⟨x2, e12, hM⟩ := bind_some hM; have F := And.intro F (at_f e12); obtain ⟨x3, e13, hM⟩ := bind_some hM; have F := And.intro F (at_f e13); obtain ⟨x4, e14, hM⟩ := bind_some hM
        refine AW_quickN 8 mixed (by kernel_rfl) (by kernel_rfl) ?_; simp [go_sem, F]; refine by_c false (w_eqMark_ctr x2 x3 x4 e14) ?_; simp [go_sem, F]; refine hK11 _ ?_; refine AW_if hM (fun h15 hM => ?_) (fun h15 hM => ?_)
        · have g := h15; (try simp at g); have F := And.intro F (And.intro h15 g); refine AW_sr fun K h => ?_; simp [go_sem, F]; refine h _ ?_; obtain rfl := si hM; have hM := hR4; dsimp only at hM; obtain rfl := si hM; refine AW_ret ?_; simp [go_sem, F]
        · have g := h15; (try simp at g); have F := And.intro F (And.intro h15 g); refine AW_skip ?_; refine hK10 _ ?_; refine AW_region ?_; simp [go_sem, F]; exact fin hL7 (IntKind.i64.wrap (x1 + 1)) hM
      · have g := h9; (try simp at g); have F := And.intro F (And.intro h9 (And.intro g (lF h9))); refine AW_exit ?_; obtain rfl := si hM; exact fin hK6 () rfl
    · rintro _ rfl; have hM := hR4; dsimp only at hM; refine AW_sr fun K h => ?_; simp [go_sem, F]; refine h _ ?_; obtain rfl := si hM; refine AW_ret ?_; simp [go_sem, F]
theorem w_eqScene_ctr (k : Nat) (a0 : TScene) (a1 : TScene) (r : Bool) (hM : w_eqScene k a0 a1 = some r) : Ctr Try.prog 59 [.agg (TScene.c a0), .agg (TScene.c a1)] true [.one (.bool r)] := by
  unfold w_eqScene at hM
  refine walkM Try.func59 Try.ntmps59 Try.results59 fun N w0 hbad F => ?_
  refine AW_sr fun K h => ?_; simp [go_sem, F]; refine h _ ?_; refine AW_seq fun K1 hK1 => ?_; refine AW_sr fun K h => ?_; simp [go_sem, F]; refine h _ ?_; refine AW_if hM (fun h2 hM => ?_) (fun h2 hM => ?_)
  · have g := h2; (try simp at g); have F := And.intro F (And.intro h2 g); refine AW_sr fun K h => ?_; simp [go_sem, F]; refine h _ ?_; obtain rfl := si hM; refine AW_ret ?_; simp [go_sem, F]
  · have g := h2; (try simp at g); have F := And.intro F (And.intro h2 g); refine AW_skip ?_; refine hK1 _ ?_; refine AW_seq fun K3 hK3 => ?_; refine AW_sr fun K h => ?_; simp [go_sem, F]; refine h _ ?_; refine AW_if hM (fun h4 hM => ?_) (fun h4 hM => ?_)
    · have g := h4; (try simp at g); have F := And.intro F (And.intro h4 g); refine AW_sr fun K h => ?_; simp [go_sem, F]; refine h _ ?_; obtain rfl := si hM; refine AW_ret ?_; simp [go_sem, F]
    · have g := h4; (try simp at g); have F := And.intro F (And.intro h4 g); refine AW_skip ?_; refine hK3 _ ?_; refine AW_seq fun K5 hK5 => ?_; obtain ⟨x1, e6, hM⟩ := bind_some hM; refine AW_sr fun K h => ?_; simp [go_sem, F]; refine by_c false (w_eqMarkS_ctr k a0.marks a1.marks x1 e6) ?_; simp [go_sem, F]; refine h _ ?_; refine AW_if hM (fun h7 hM => ?_) (fun h7 hM => ?_)
      · have g := h7; (try simp at g); have F := And.intro F (And.intro h7 g); refine AW_sr fun K h => ?_; simp [go_sem, F]; refine h _ ?_; obtain rfl := si hM; refine AW_ret ?_; simp [go_sem, F]
      · have g := h7; (try simp at g); have F := And.intro F (And.intro h7 g); refine AW_skip ?_; refine hK5 _ ?_; refine AW_sr fun K h => ?_; simp [go_sem, F]; refine h _ ?_; obtain rfl := si hM; refine AW_ret ?_; simp [go_sem, F]
end Go.Proofs.Ytmiboaogfjgkjaa
