/- Contracts of the program's functions: where the mirrored function answers, the program's function returns this answer. Written by a program of mine. -/
import Derived.Test.YtmiboaogfjgkjaaWn
import Derived.Test.YtmiboaogfjgkjaaMdA1
import Derived.Test.YtmiboaogfjgkjaaCtA0
set_option linter.unusedSimpArgs false
set_option linter.unusedVariables false
namespace Go.Proofs.Ytmiboaogfjgkjaa
open Go.RowKit Am
set_option maxHeartbeats 4000000
set_option maxRecDepth 100000
theorem w_szStringS_ctr (k : Nat) (a0 : List ByteArray) (a1 : Int) (r : Int) (hM : w_szStringS k a0 a1 = some r) : Ctr Try.prog 110 [.one (.sl (a0.map sC)), .one (.int .i64 a1)] true [.one (.int .i64 r)] := by
  unfold w_szStringS at hM
  refine walkM Try.func110 Try.ntmps110 Try.results110 fun N w0 hbad F => ?_
  refine AW_sr fun K h => ?_; simp [go_sem, F]; refine h _ ?_; refine AW_sr fun K h => ?_; simp [go_sem, F]; refine h _ ?_; refine AW_seq fun K1 hK1 => ?_; refine AW_sr fun K h => ?_; simp [go_sem, F]; refine h _ ?_; refine AW_if hM (fun h2 hM => ?_) (fun h2 hM => ?_)
  · have g := h2; (try simp at g); have F := And.intro F (And.intro h2 (And.intro g (lT h2))); refine AW_sr fun K h => ?_; simp [go_sem, F]; refine h _ ?_; obtain rfl := si hM; refine AW_ret ?_; simp [go_sem, F]
  · have g := h2; (try simp at g); have F := And.intro F (And.intro h2 (And.intro g (lF h2))); refine AW_skip ?_; refine hK1 _ ?_; obtain ⟨e3, hU5, hR4⟩ := bind_some hM; clear hM; refine AW_mid (ι := Int) (fun i => ⟨28, [(1, .one (.l (.int .i64 i)))], [], []⟩) (fun i => (.inl i) = e3) ?_ ?_
    · intro K6 hK6; have hM := hU5; clear hU5; refine AW_sr fun K h => ?_; simp [go_sem, F]; refine h _ ?_; refine AW_block ?_; refine AW_lp (ι := Int × Int) (fun i => ⟨28, [(0, .one (.l (.sl (a0.map sC)))), (1, .one (.l (.int .i64 i.1))), (5, .one (.l (.int .i64 i.2)))], [], []⟩) (fun n i => w_szStringS_u1 a0 n i.1 i.2 = some e3) k ((IntKind.i64.wrap (a1 - (a0.length : Int))), 0) hM (by simp [w_szStringS_u1]) ?_
      intro KL7 n ⟨x2, x3⟩ hL7 hM F; have hM : w_szStringS_u1 a0 (n + 1) x2 x3 = some e3 := hM; rw [w_szStringS_u1] at hM; refine AW_seq fun K8 hK8 => ?_; refine AW_sr fun K h => ?_; simp [go_sem, F]; refine h _ ?_; refine AW_if hM (fun h9 hM => ?_) (fun h9 hM => ?_)
      · have g := h9; (try simp at g); have F := And.intro F (And.intro h9 (And.intro g (lT h9))); refine AW_skip ?_; refine hK8 _ ?_; refine AW_seq fun K10 hK10 => ?_; refine AW_block ?_; obtain ⟨x4, e11, hM⟩ := bind_some hM; have F := And.intro F (at_f e11); refine AW_sr fun K h => ?_; simp [go_sem, F]; refine h _ ?_; refine AW_sr fun K h => ?_; simp [go_sem, F]; refine h _ ?_; refine AW_if hM (fun h12 hM => ?_) (fun h12 hM => ?_)
        · have g := h12; (try simp at g); have F := And.intro F (And.intro h12 (And.intro g (lT h12))); refine AW_sr fun K h => ?_; simp [go_sem, F]; refine h _ ?_; obtain rfl := si hM; have hM := hR4; dsimp only at hM; obtain rfl := si hM; refine AW_ret ?_; simp [go_sem, F]
        · have g := h12; (try simp at g); have F := And.intro F (And.intro h12 (And.intro g (lF h12))); refine AW_skip ?_; refine hK10 _ ?_; refine AW_region ?_; simp [go_sem, F]; exact fin hL7 ((IntKind.i64.wrap (x2 - (x4.size : Int))), (IntKind.i64.wrap (x3 + 1))) hM
      · have g := h9; (try simp at g); have F := And.intro F (And.intro h9 (And.intro g (lF h9))); refine AW_exit ?_; obtain rfl := si hM; exact fin hK6 x2 rfl
    · rintro x1 rfl; have hM := hR4; dsimp only at hM; refine AW_sr fun K h => ?_; simp [go_sem, F]; refine h _ ?_; obtain rfl := si hM; refine AW_ret ?_; simp [go_sem, F]
theorem w_szIntS_ctr (a0 : List Int) (a1 : Int) (r : Int) (hM : w_szIntS a0 a1 = some r) : Ctr Try.prog 173 [.one (.sl (a0.map iC)), .one (.int .i64 a1)] true [.one (.int .i64 r)] := by
  unfold w_szIntS at hM
  refine walkM Try.func173 Try.ntmps173 Try.results173 fun N w0 hbad F => ?_
  refine AW_sr fun K h => ?_; simp [go_sem, F]; refine h _ ?_; refine AW_sr fun K h => ?_; simp [go_sem, F]; refine h _ ?_; refine AW_seq fun K1 hK1 => ?_; refine AW_sr fun K h => ?_; simp [go_sem, F]; refine h _ ?_; refine AW_if hM (fun h2 hM => ?_) (fun h2 hM => ?_)
  · have g := h2; (try simp at g); have F := And.intro F (And.intro h2 (And.intro g (lT h2))); refine AW_sr fun K h => ?_; simp [go_sem, F]; refine h _ ?_; obtain rfl := si hM; refine AW_ret ?_; simp [go_sem, F]
  · have g := h2; (try simp at g); have F := And.intro F (And.intro h2 (And.intro g (lF h2))); refine AW_skip ?_; refine hK1 _ ?_; refine AW_sr fun K h => ?_; simp [go_sem, F]; refine h _ ?_; obtain rfl := si hM; refine AW_ret ?_; simp [go_sem, F]
theorem w_szOriginS_ctr (a0 : List TOrigin) (a1 : Int) (r : Int) (hM : w_szOriginS a0 a1 = some r) : Ctr Try.prog 180 [.one (.sl (a0.map TOrigin.c)), .one (.int .i64 a1)] true [.one (.int .i64 r)] := by
  unfold w_szOriginS at hM
  refine walkM Try.func180 Try.ntmps180 Try.results180 fun N w0 hbad F => ?_
  refine AW_sr fun K h => ?_; simp [go_sem, F]; refine h _ ?_; refine AW_sr fun K h => ?_; simp [go_sem, F]; refine h _ ?_; refine AW_seq fun K1 hK1 => ?_; refine AW_sr fun K h => ?_; simp [go_sem, F]; refine h _ ?_; refine AW_if hM (fun h2 hM => ?_) (fun h2 hM => ?_)
  · have g := h2; (try simp at g); have F := And.intro F (And.intro h2 (And.intro g (lT h2))); refine AW_sr fun K h => ?_; simp [go_sem, F]; refine h _ ?_; obtain rfl := si hM; refine AW_ret ?_; simp [go_sem, F]
  · have g := h2; (try simp at g); have F := And.intro F (And.intro h2 (And.intro g (lF h2))); refine AW_skip ?_; refine hK1 _ ?_; refine AW_sr fun K h => ?_; simp [go_sem, F]; refine h _ ?_; obtain rfl := si hM; refine AW_ret ?_; simp [go_sem, F]
end Go.Proofs.Ytmiboaogfjgkjaa
