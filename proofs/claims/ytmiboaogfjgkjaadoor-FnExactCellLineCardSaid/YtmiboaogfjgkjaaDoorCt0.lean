/- Contracts of the program's functions: where the mirrored function answers, the program's function returns this answer. Written by a program of mine. -/
import Derived.Test.YtmiboaogfjgkjaaDoorWn
import Derived.Test.YtmiboaogfjgkjaaDoorMd0
import Derived.Test.YtmiboaogfjgkjaaDoorLc
set_option linter.unusedSimpArgs false
set_option linter.unusedVariables false
namespace Go.Proofs.YtmiboaogfjgkjaaDoor
open Go.RowKit Am
set_option maxHeartbeats 4000000
set_option maxRecDepth 100000
theorem s_FormatInt_ctr (k : Nat) (a0 : Int) (r : ByteArray) (hM : s_FormatInt k a0 = some r) : Ctr Tryd.prog 19 [.one (.int .i64 a0)] true [.one (.str r)] := by
  unfold s_FormatInt at hM
  refine walkM Tryd.func19 Tryd.ntmps19 Tryd.results19 fun N w0 hbad F => ?_
  refine AW_sr fun K h => ?_; simp [go_sem, F]; refine h _ ?_; refine AW_seq fun K1 hK1 => ?_; refine AW_sr fun K h => ?_; simp [go_sem, F]; refine h _ ?_; refine AW_if hM (fun h2 hM => ?_) (fun h2 hM => ?_)
  · have g := h2; (try simp at g); have F := And.intro F (And.intro h2 g); refine AW_sr fun K h => ?_; simp [go_sem, F]; refine h _ ?_; obtain rfl := si hM; refine AW_ret ?_; simp [go_sem, F]
  · have g := h2; (try simp at g); have F := And.intro F (And.intro h2 g); refine AW_skip ?_; refine hK1 _ ?_; refine AW_sr fun K h => ?_; simp [go_sem, F]; refine h _ ?_; refine AW_sr fun K h => ?_; simp [go_sem, F]; refine h _ ?_; obtain ⟨e3, hU5, hR4⟩ := bind_some hM; clear hM; refine AW_mid (ι := ByteArray) (fun i => ⟨31, [(3, .one (.l (.bool (decide (a0 < 0))))), (4, .one (.l (.str i)))], [], []⟩) (fun i => i = e3) ?_ ?_
    · intro K6 hK6; have hM := hU5; clear hU5; refine AW_block ?_; refine AW_lp (ι := Int × ByteArray) (fun i => ⟨31, [(0, .one (.l (.int .i64 i.1))), (3, .one (.l (.bool (decide (a0 < 0))))), (4, .one (.l (.str i.2)))], [], []⟩) (fun n i => s_FormatInt_u1 n i.1 i.2 = some e3) k (a0, (⟨#[]⟩ : ByteArray)) hM (by simp [s_FormatInt_u1]) ?_; intro KL7 n ⟨x2, x3⟩ hL7 hM F; have hM : s_FormatInt_u1 (n + 1) x2 x3 = some e3 := hM; rw [s_FormatInt_u1] at hM
      refine AW_seq fun K8 hK8 => ?_; refine AW_sr fun K h => ?_; simp [go_sem, F]; refine h _ ?_; refine AW_if hM (fun h9 hM => ?_) (fun h9 hM => ?_)
      · have g := h9; (try simp at g); have F := And.intro F (And.intro h9 g); refine AW_skip ?_; refine hK8 _ ?_; refine AW_block ?_; refine AW_sr fun K h => ?_; simp [go_sem, F]; refine h _ ?_; obtain ⟨e10, hU12, hR11⟩ := bind_some hM; clear hM; refine AW_mid (ι := Int) (fun i => ⟨31, [(0, .one (.l (.int .i64 x2))), (3, .one (.l (.bool (decide (a0 < 0))))), (4, .one (.l (.str x3))), (5, .one (.l (.int .i64 i)))], [], []⟩) (fun i => i = e10) ?_ ?_
        · intro K13 hK13; have hM := hU12; clear hU12; refine AW_sr fun K h => ?_; simp [go_sem, F]; refine h _ ?_; refine AW_if hM (fun h14 hM => ?_) (fun h14 hM => ?_)
          · have g := h14; (try simp at g); have F := And.intro F (And.intro h14 (And.intro g (lT h14))); refine AW_region ?_; simp [go_sem, F]; obtain rfl := si hM; exact fin hK13 (IntKind.i64.wrap (0 - (IntKind.i64.wrap (x2.tmod 10)))) rfl
          · have g := h14; (try simp at g); have F := And.intro F (And.intro h14 (And.intro g (lF h14))); refine AW_skip ?_; obtain rfl := si hM; exact fin hK13 (IntKind.i64.wrap (x2.tmod 10)) rfl
        · rintro x4 rfl; have hM := hR11; (try dsimp only at hM); obtain ⟨x5, e15, hM⟩ := bind_some hM; obtain ⟨c16, s17⟩ := cat_spec e15; replace c16 := c16.symm; subst c16; (try simp [go_sem] at s17); have F := And.intro F s17; refine AW_sr fun K h => ?_; simp [go_sem, F]; refine h _ ?_; refine AW_region ?_; simp [go_sem, F]; exact fin hL7 ((IntKind.i64.wrap (x2.tdiv 10)), ((bStr [(IntKind.u8.wrap (IntKind.i64.wrap (48 + x4)))]) ++ x3)) hM
      · have g := h9; (try simp at g); have F := And.intro F (And.intro h9 g); refine AW_exit ?_; obtain rfl := si hM; exact fin hK6 x3 rfl
    · rintro x1 rfl; have hM := hR4; (try dsimp only at hM); refine AW_seq fun K18 hK18 => ?_; refine AW_sr fun K h => ?_; simp [go_sem, F]; refine h _ ?_; refine AW_if hM (fun h19 hM => ?_) (fun h19 hM => ?_)
      · have g := h19; (try simp at g); have F := And.intro F (And.intro h19 (And.intro g (lT h19))); obtain ⟨x6, e20, hM⟩ := bind_some hM; obtain ⟨c21, s22⟩ := cat_spec e20; replace c21 := c21.symm; subst c21; (try simp [go_sem] at s22); have F := And.intro F s22; refine AW_sr fun K h => ?_; simp [go_sem, F]; refine h _ ?_; obtain rfl := si hM; refine AW_ret ?_; simp [go_sem, F]
      · have g := h19; (try simp at g); have F := And.intro F (And.intro h19 (And.intro g (lF h19))); refine AW_skip ?_; refine hK18 _ ?_; refine AW_sr fun K h => ?_; simp [go_sem, F]; refine h _ ?_; obtain rfl := si hM; refine AW_ret ?_; simp [go_sem, F]
theorem i_FormatInt_ctr (a0 : Int) (r : ByteArray) (hM : i_FormatInt a0 = some r) : Ctr Tryd.prog 21 [.one (.int .i64 a0)] true [.one (.str r)] := by
  unfold i_FormatInt at hM
  refine walkM Tryd.func21 Tryd.ntmps21 Tryd.results21 fun N w0 hbad F => ?_
  refine AW_sr fun K h => ?_; simp [go_sem, F]; refine h _ ?_; obtain ⟨x1, e1, hM⟩ := bind_some hM; refine AW_sr fun K h => ?_; simp [go_sem, F]; refine by_c false (x_strconv_Itoa_ctr a0 x1 e1) ?_; simp [go_sem, F]; refine h _ ?_; obtain rfl := si hM; refine AW_ret ?_; simp [go_sem, F]
end Go.Proofs.YtmiboaogfjgkjaaDoor
