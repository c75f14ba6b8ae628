/- Contracts of the program's functions: where the mirrored function answers, the program's function returns this answer. Written by a program of mine. -/
import Derived.Test.YtmiboaogfjgkjaaWn
import Derived.Test.YtmiboaogfjgkjaaMdA4
import Derived.Test.YtmiboaogfjgkjaaCtA0
import Derived.Test.YtmiboaogfjgkjaaCtA1
import Derived.Test.YtmiboaogfjgkjaaCtA2
import Derived.Test.YtmiboaogfjgkjaaCtA3
set_option linter.unusedSimpArgs false
set_option linter.unusedVariables false
namespace Go.Proofs.Ytmiboaogfjgkjaa
open Go.RowKit Am

set_option maxHeartbeats 4000000
set_option maxRecDepth 100000
theorem w_eqRead_ctr (k : Nat) (a0 : TRead) (a1 : TRead) (r : Bool) (hM : w_eqRead k a0 a1 = some r) : Ctr Try.prog 190 [.agg (TRead.c a0), .agg (TRead.c a1)] true [.one (.bool r)] := by
  unfold w_eqRead at hM
  refine walkM Try.func190 Try.ntmps190 Try.results190 fun N w0 hbad F => ?_
  refine AW_sr fun K h => ?_; simp [go_sem, F]; refine h _ ?_; refine AW_seq fun K1 hK1 => ?_; refine AW_sr fun K h => ?_; simp [go_sem, F]; refine h _ ?_; refine AW_if hM (fun h2 hM => ?_) (fun h2 hM => ?_)
  · have g := h2; (try simp at g); have F := And.intro F (And.intro h2 g); refine AW_sr fun K h => ?_; simp [go_sem, F]; refine h _ ?_; obtain rfl := si hM; refine AW_ret ?_; simp [go_sem, F]
  · have g := h2; (try simp at g); have F := And.intro F (And.intro h2 g); refine AW_skip ?_; refine hK1 _ ?_; refine AW_seq fun K3 hK3 => ?_; refine AW_sr fun K h => ?_; simp [go_sem, F]; refine h _ ?_; refine AW_if hM (fun h4 hM => ?_) (fun h4 hM => ?_)
    · have g := h4; (try simp at g); have F := And.intro F (And.intro h4 g); refine AW_sr fun K h => ?_; simp [go_sem, F]; refine h _ ?_; obtain rfl := si hM; refine AW_ret ?_; simp [go_sem, F]
    · have g := h4; (try simp at g); have F := And.intro F (And.intro h4 g); refine AW_skip ?_; refine hK3 _ ?_; refine AW_seq fun K5 hK5 => ?_; refine AW_sr fun K h => ?_; simp [go_sem, F]; refine h _ ?_; refine AW_if hM (fun h6 hM => ?_) (fun h6 hM => ?_)
      · have g := h6; (try simp at g); have F := And.intro F (And.intro h6 g); refine AW_sr fun K h => ?_; simp [go_sem, F]; refine h _ ?_; obtain rfl := si hM; refine AW_ret ?_; simp [go_sem, F]
      · have g := h6; (try simp at g); have F := And.intro F (And.intro h6 g); refine AW_skip ?_; refine hK5 _ ?_; refine AW_seq fun K7 hK7 => ?_; refine AW_sr fun K h => ?_; simp [go_sem, F]; refine h _ ?_; refine AW_if hM (fun h8 hM => ?_) (fun h8 hM => ?_)
        · have g := h8; (try simp at g); have F := And.intro F (And.intro h8 g); refine AW_sr fun K h => ?_; simp [go_sem, F]; refine h _ ?_; obtain rfl := si hM; refine AW_ret ?_; simp [go_sem, F]
        · have g := h8; (try simp at g); have F := And.intro F (And.intro h8 g); refine AW_skip ?_; refine hK7 _ ?_; refine AW_seq fun K9 hK9 => ?_; obtain ⟨x1, e10, hM⟩ := bind_some hM; refine AW_sr fun K h => ?_; simp [go_sem, F]; refine by_c false (w_eqValue_ctr k a0.result a1.result x1 e10) ?_; simp [go_sem, F]; refine h _ ?_; refine AW_if hM (fun h11 hM => ?_) (fun h11 hM => ?_)
          · have g := h11; (try simp at g); have F := And.intro F (And.intro h11 g); refine AW_sr fun K h => ?_; simp [go_sem, F]; refine h _ ?_; obtain rfl := si hM; refine AW_ret ?_; simp [go_sem, F]
          · have g := h11; (try simp at g); have F := And.intro F (And.intro h11 g); refine AW_skip ?_; refine hK9 _ ?_; refine AW_sr fun K h => ?_; simp [go_sem, F]; refine h _ ?_; obtain rfl := si hM; refine AW_ret ?_; simp [go_sem, F]
theorem w_eqReadS_ctr (k : Nat) (a0 : List TRead) (a1 : List TRead) (r : Bool) (hM : w_eqReadS k a0 a1 = some r) : Ctr Try.prog 176 [.one (.sl (a0.map TRead.c)), .one (.sl (a1.map TRead.c))] true [.one (.bool r)] := by
  unfold w_eqReadS at hM
  refine walkM Try.func176 Try.ntmps176 Try.results176 fun N w0 hbad F => ?_
  refine AW_sr fun K h => ?_; simp [go_sem, F]; refine h _ ?_; refine AW_seq fun K1 hK1 => ?_; refine AW_sr fun K h => ?_; simp [go_sem, F]; refine h _ ?_; refine AW_if hM (fun h2 hM => ?_) (fun h2 hM => ?_)
  · have g := h2; (try simp at g); have F := And.intro F (And.intro h2 g); refine AW_sr fun K h => ?_; simp [go_sem, F]; refine h _ ?_; obtain rfl := si hM; refine AW_ret ?_; simp [go_sem, F]
  · have g := h2; (try simp at g); have F := And.intro F (And.intro h2 g); refine AW_skip ?_; refine hK1 _ ?_; obtain ⟨e3, hU5, hR4⟩ := bind_some hM; clear hM; refine AW_mid (ι := Unit) (fun i => ⟨27, [], [], []⟩) (fun i => (.inl i) = e3) ?_ ?_
    · intro K6 hK6; have hM := hU5; clear hU5; refine AW_sr fun K h => ?_; simp [go_sem, F]; refine h _ ?_; refine AW_block ?_; refine AW_lp (ι := Int) (fun i => ⟨27, [(0, .one (.l (.sl (a0.map TRead.c)))), (1, .one (.l (.sl (a1.map TRead.c)))), (5, .one (.l (.int .i64 i)))], [], []⟩) (fun n i => w_eqReadS_u1 k a0 a1 n i = some e3) k 0 hM (by simp [w_eqReadS_u1]) ?_; intro KL7 n x1 hL7 hM F; have hM : w_eqReadS_u1 k a0 a1 (n + 1) x1 = some e3 := hM; rw [w_eqReadS_u1] at hM
      refine AW_seq fun K8 hK8 => ?_; refine AW_sr fun K h => ?_; simp [go_sem, F]; refine h _ ?_; refine AW_if hM (fun h9 hM => ?_) (fun h9 hM => ?_)
      · have g := h9; (try simp at g); have F := And.intro F (And.intro h9 (And.intro g (lT h9))); refine AW_skip ?_; refine hK8 _ ?_; refine AW_seq fun K10 hK10 => ?_; refine AW_block ?_; refine AW_seq fun K11 hK11 => ?_; obtain ⟨x2, e12, hM⟩ := bind_some hM; have F := And.intro F (at_f e12); obtain ⟨x3, e13, hM⟩ := bind_some hM; have F := And.intro F (at_f e13); obtain ⟨x4, e14, hM⟩ := bind_some hM
        refine AW_quickN 8 mixed (by kernel_rfl) (by kernel_rfl) ?_; simp [go_sem, F]; refine by_c false (w_eqRead_ctr k x2 x3 x4 e14) ?_; simp [go_sem, F]; refine hK11 _ ?_; refine AW_if hM (fun h15 hM => ?_) (fun h15 hM => ?_)
        · have g := h15; (try simp at g); have F := And.intro F (And.intro h15 g); refine AW_sr fun K h => ?_; simp [go_sem, F]; refine h _ ?_; obtain rfl := si hM; have hM := hR4; dsimp only at hM; obtain rfl := si hM; refine AW_ret ?_; simp [go_sem, F]
        · have g := h15; (try simp at g); have F := And.intro F (And.intro h15 g); refine AW_skip ?_; refine hK10 _ ?_; refine AW_region ?_; simp [go_sem, F]; exact fin hL7 (IntKind.i64.wrap (x1 + 1)) hM
      · have g := h9; (try simp at g); have F := And.intro F (And.intro h9 (And.intro g (lF h9))); refine AW_exit ?_; obtain rfl := si hM; exact fin hK6 () rfl
    · rintro _ rfl; have hM := hR4; dsimp only at hM; refine AW_sr fun K h => ?_; simp [go_sem, F]; refine h _ ?_; obtain rfl := si hM; refine AW_ret ?_; simp [go_sem, F]
theorem w_eqTape_ctr (k : Nat) (a0 : TTape) (a1 : TTape) (r : Bool) (hM : w_eqTape k a0 a1 = some r) : Ctr Try.prog 138 [.agg (TTape.c a0), .agg (TTape.c a1)] true [.one (.bool r)] := by
  unfold w_eqTape at hM
  refine walkM Try.func138 Try.ntmps138 Try.results138 fun N w0 hbad F => ?_
  refine AW_sr fun K h => ?_; simp [go_sem, F]; refine h _ ?_; refine AW_seq fun K1 hK1 => ?_; refine AW_sr fun K h => ?_; simp [go_sem, F]; refine h _ ?_; refine AW_if hM (fun h2 hM => ?_) (fun h2 hM => ?_)
  · have g := h2; (try simp at g); have F := And.intro F (And.intro h2 g); refine AW_sr fun K h => ?_; simp [go_sem, F]; refine h _ ?_; obtain rfl := si hM; refine AW_ret ?_; simp [go_sem, F]
  · have g := h2; (try simp at g); have F := And.intro F (And.intro h2 g); refine AW_skip ?_; refine hK1 _ ?_; refine AW_seq fun K3 hK3 => ?_; refine AW_sr fun K h => ?_; simp [go_sem, F]; refine h _ ?_; refine AW_if hM (fun h4 hM => ?_) (fun h4 hM => ?_)
    · have g := h4; (try simp at g); have F := And.intro F (And.intro h4 g); refine AW_sr fun K h => ?_; simp [go_sem, F]; refine h _ ?_; obtain rfl := si hM; refine AW_ret ?_; simp [go_sem, F]
    · have g := h4; (try simp at g); have F := And.intro F (And.intro h4 g); refine AW_skip ?_; refine hK3 _ ?_; refine AW_seq fun K5 hK5 => ?_; obtain ⟨x1, e6, hM⟩ := bind_some hM; refine AW_sr fun K h => ?_; simp [go_sem, F]; refine by_c false (w_eqReadS_ctr k a0.reads a1.reads x1 e6) ?_; simp [go_sem, F]; refine h _ ?_; refine AW_if hM (fun h7 hM => ?_) (fun h7 hM => ?_)
      · have g := h7; (try simp at g); have F := And.intro F (And.intro h7 g); refine AW_sr fun K h => ?_; simp [go_sem, F]; refine h _ ?_; obtain rfl := si hM; refine AW_ret ?_; simp [go_sem, F]
      · have g := h7; (try simp at g); have F := And.intro F (And.intro h7 g); refine AW_skip ?_; refine hK5 _ ?_; refine AW_sr fun K h => ?_; simp [go_sem, F]; refine h _ ?_; obtain rfl := si hM; refine AW_ret ?_; simp [go_sem, F]
theorem w_eqTapeS_ctr (k : Nat) (a0 : List TTape) (a1 : List TTape) (r : Bool) (hM : w_eqTapeS k a0 a1 = some r) : Ctr Try.prog 70 [.one (.sl (a0.map TTape.c)), .one (.sl (a1.map TTape.c))] true [.one (.bool r)] := by
  unfold w_eqTapeS at hM
  refine walkM Try.func70 Try.ntmps70 Try.results70 fun N w0 hbad F => ?_
  refine AW_sr fun K h => ?_; simp [go_sem, F]; refine h _ ?_; refine AW_seq fun K1 hK1 => ?_; refine AW_sr fun K h => ?_; simp [go_sem, F]; refine h _ ?_; refine AW_if hM (fun h2 hM => ?_) (fun h2 hM => ?_)
  · have g := h2; (try simp at g); have F := And.intro F (And.intro h2 g); refine AW_sr fun K h => ?_; simp [go_sem, F]; refine h _ ?_; obtain rfl := si hM; refine AW_ret ?_; simp [go_sem, F]
  · have g := h2; (try simp at g); have F := And.intro F (And.intro h2 g); refine AW_skip ?_; refine hK1 _ ?_; obtain ⟨e3, hU5, hR4⟩ := bind_some hM; clear hM; refine AW_mid (ι := Unit) (fun i => ⟨27, [], [], []⟩) (fun i => (.inl i) = e3) ?_ ?_
    · intro K6 hK6; have hM := hU5; clear hU5; refine AW_sr fun K h => ?_; simp [go_sem, F]; refine h _ ?_; refine AW_block ?_; refine AW_lp (ι := Int) (fun i => ⟨27, [(0, .one (.l (.sl (a0.map TTape.c)))), (1, .one (.l (.sl (a1.map TTape.c)))), (5, .one (.l (.int .i64 i)))], [], []⟩) (fun n i => w_eqTapeS_u1 k a0 a1 n i = some e3) k 0 hM (by simp [w_eqTapeS_u1]) ?_; intro KL7 n x1 hL7 hM F; have hM : w_eqTapeS_u1 k a0 a1 (n + 1) x1 = some e3 := hM; rw [w_eqTapeS_u1] at hM
      refine AW_seq fun K8 hK8 => ?_; refine AW_sr fun K h => ?_; simp [go_sem, F]; refine h _ ?_; refine AW_if hM (fun h9 hM => ?_) (fun h9 hM => ?_)
      · have g := h9; (try simp at g); have F := And.intro F (And.intro h9 (And.intro g (lT h9))); refine AW_skip ?_; refine hK8 _ ?_; refine AW_seq fun K10 hK10 => ?_; refine AW_block ?_; refine AW_seq fun K11 hK11 => ?_; obtain ⟨x2, e12, hM⟩ := bind_some hM; have F := And.intro F (at_f e12); obtain ⟨x3, e13, hM⟩ := bind_some hM; have F := And.intro F (at_f e13); obtain ⟨x4, e14, hM⟩ := bind_some hM
        refine AW_quickN 8 mixed (by kernel_rfl) (by kernel_rfl) ?_; simp [go_sem, F]; refine by_c false (w_eqTape_ctr k x2 x3 x4 e14) ?_; simp [go_sem, F]; refine hK11 _ ?_; refine AW_if hM (fun h15 hM => ?_) (fun h15 hM => ?_)
        · have g := h15; (try simp at g); have F := And.intro F (And.intro h15 g); refine AW_sr fun K h => ?_; simp [go_sem, F]; refine h _ ?_; obtain rfl := si hM; have hM := hR4; dsimp only at hM; obtain rfl := si hM; refine AW_ret ?_; simp [go_sem, F]
        · have g := h15; (try simp at g); have F := And.intro F (And.intro h15 g); refine AW_skip ?_; refine hK10 _ ?_; refine AW_region ?_; simp [go_sem, F]; exact fin hL7 (IntKind.i64.wrap (x1 + 1)) hM
      · have g := h9; (try simp at g); have F := And.intro F (And.intro h9 (And.intro g (lF h9))); refine AW_exit ?_; obtain rfl := si hM; exact fin hK6 () rfl
    · rintro _ rfl; have hM := hR4; dsimp only at hM; refine AW_sr fun K h => ?_; simp [go_sem, F]; refine h _ ?_; obtain rfl := si hM; refine AW_ret ?_; simp [go_sem, F]
theorem w_eqRun_ctr (k : Nat) (a0 : TRun) (a1 : TRun) (r : Bool) (hM : w_eqRun k a0 a1 = some r) : Ctr Try.prog 26 [.agg (TRun.c a0), .agg (TRun.c a1)] true [.one (.bool r)] := by
  unfold w_eqRun at hM
  refine walkM Try.func26 Try.ntmps26 Try.results26 fun N w0 hbad F => ?_
  refine AW_sr fun K h => ?_; simp [go_sem, F]; refine h _ ?_; refine AW_seq fun K1 hK1 => ?_; obtain ⟨x1, e2, hM⟩ := bind_some hM; refine AW_sr fun K h => ?_; simp [go_sem, F]; refine by_c false (w_eqValueS_ctr k a0.values a1.values x1 e2) ?_; simp [go_sem, F]; refine h _ ?_; refine AW_if hM (fun h3 hM => ?_) (fun h3 hM => ?_)
  · have g := h3; (try simp at g); have F := And.intro F (And.intro h3 g); refine AW_sr fun K h => ?_; simp [go_sem, F]; refine h _ ?_; obtain rfl := si hM; refine AW_ret ?_; simp [go_sem, F]
  · have g := h3; (try simp at g); have F := And.intro F (And.intro h3 g); refine AW_skip ?_; refine hK1 _ ?_; refine AW_seq fun K4 hK4 => ?_; obtain ⟨x2, e5, hM⟩ := bind_some hM; refine AW_sr fun K h => ?_; simp [go_sem, F]; refine by_c false (w_eqTapeS_ctr k a0.tapes a1.tapes x2 e5) ?_; simp [go_sem, F]; refine h _ ?_; refine AW_if hM (fun h6 hM => ?_) (fun h6 hM => ?_)
    · have g := h6; (try simp at g); have F := And.intro F (And.intro h6 g); refine AW_sr fun K h => ?_; simp [go_sem, F]; refine h _ ?_; obtain rfl := si hM; refine AW_ret ?_; simp [go_sem, F]
    · have g := h6; (try simp at g); have F := And.intro F (And.intro h6 g); refine AW_skip ?_; refine hK4 _ ?_; refine AW_seq fun K7 hK7 => ?_; refine AW_sr fun K h => ?_; simp [go_sem, F]; refine h _ ?_; refine AW_if hM (fun h8 hM => ?_) (fun h8 hM => ?_)
      · have g := h8; (try simp at g); have F := And.intro F (And.intro h8 g); refine AW_sr fun K h => ?_; simp [go_sem, F]; refine h _ ?_; obtain rfl := si hM; refine AW_ret ?_; simp [go_sem, F]
      · have g := h8; (try simp at g); have F := And.intro F (And.intro h8 g); refine AW_skip ?_; refine hK7 _ ?_; refine AW_sr fun K h => ?_; simp [go_sem, F]; refine h _ ?_; obtain rfl := si hM; refine AW_ret ?_; simp [go_sem, F]
theorem w_szFile_ctr (a0 : TFile) (a1 : Int) (r : Int) (hM : w_szFile a0 a1 = some r) : Ctr Try.prog 147 [.agg (TFile.c a0), .one (.int .i64 a1)] true [.one (.int .i64 r)] := by
  unfold w_szFile at hM
  refine walkM Try.func147 Try.ntmps147 Try.results147 fun N w0 hbad F => ?_
  refine AW_sr fun K h => ?_; simp [go_sem, F]; refine h _ ?_; refine AW_sr fun K h => ?_; simp [go_sem, F]; refine h _ ?_; refine AW_seq fun K1 hK1 => ?_; refine AW_sr fun K h => ?_; simp [go_sem, F]; refine h _ ?_; refine AW_if hM (fun h2 hM => ?_) (fun h2 hM => ?_)
  · have g := h2; (try simp at g); have F := And.intro F (And.intro h2 (And.intro g (lT h2))); refine AW_sr fun K h => ?_; simp [go_sem, F]; refine h _ ?_; obtain rfl := si hM; refine AW_ret ?_; simp [go_sem, F]
  · have g := h2; (try simp at g); have F := And.intro F (And.intro h2 (And.intro g (lF h2))); refine AW_skip ?_; refine hK1 _ ?_; refine AW_sr fun K h => ?_; simp [go_sem, F]; refine h _ ?_; obtain rfl := si hM; refine AW_ret ?_; simp [go_sem, F]
theorem w_szFileS_ctr (k : Nat) (a0 : List TFile) (a1 : Int) (r : Int) (hM : w_szFileS k a0 a1 = some r) : Ctr Try.prog 97 [.one (.sl (a0.map TFile.c)), .one (.int .i64 a1)] true [.one (.int .i64 r)] := by
  unfold w_szFileS at hM
  refine walkM Try.func97 Try.ntmps97 Try.results97 fun N w0 hbad F => ?_
  refine AW_sr fun K h => ?_; simp [go_sem, F]; refine h _ ?_; refine AW_sr fun K h => ?_; simp [go_sem, F]; refine h _ ?_; refine AW_seq fun K1 hK1 => ?_; refine AW_sr fun K h => ?_; simp [go_sem, F]; refine h _ ?_; refine AW_if hM (fun h2 hM => ?_) (fun h2 hM => ?_)
  · have g := h2; (try simp at g); have F := And.intro F (And.intro h2 (And.intro g (lT h2))); refine AW_sr fun K h => ?_; simp [go_sem, F]; refine h _ ?_; obtain rfl := si hM; refine AW_ret ?_; simp [go_sem, F]
  · have g := h2; (try simp at g); have F := And.intro F (And.intro h2 (And.intro g (lF h2))); refine AW_skip ?_; refine hK1 _ ?_; obtain ⟨e3, hU5, hR4⟩ := bind_some hM; clear hM; refine AW_mid (ι := Int) (fun i => ⟨27, [(1, .one (.l (.int .i64 i)))], [], []⟩) (fun i => (.inl i) = e3) ?_ ?_
    · intro K6 hK6; have hM := hU5; clear hU5; refine AW_sr fun K h => ?_; simp [go_sem, F]; refine h _ ?_; refine AW_block ?_; refine AW_lp (ι := Int × Int) (fun i => ⟨27, [(0, .one (.l (.sl (a0.map TFile.c)))), (1, .one (.l (.int .i64 i.1))), (5, .one (.l (.int .i64 i.2)))], [], []⟩) (fun n i => w_szFileS_u1 a0 n i.1 i.2 = some e3) k ((IntKind.i64.wrap (a1 - (a0.length : Int))), 0) hM (by simp [w_szFileS_u1]) ?_
      intro KL7 n ⟨x2, x3⟩ hL7 hM F; have hM : w_szFileS_u1 a0 (n + 1) x2 x3 = some e3 := hM; rw [w_szFileS_u1] at hM; refine AW_seq fun K8 hK8 => ?_; refine AW_sr fun K h => ?_; simp [go_sem, F]; refine h _ ?_; refine AW_if hM (fun h9 hM => ?_) (fun h9 hM => ?_)
      · have g := h9; (try simp at g); have F := And.intro F (And.intro h9 (And.intro g (lT h9))); refine AW_skip ?_; refine hK8 _ ?_; refine AW_seq fun K10 hK10 => ?_; refine AW_block ?_; obtain ⟨x4, e11, hM⟩ := bind_some hM; have F := And.intro F (at_f e11); obtain ⟨x5, e12, hM⟩ := bind_some hM; refine AW_sr fun K h => ?_; simp [go_sem, F]; refine by_c false (w_szFile_ctr x4 x2 x5 e12) ?_; simp [go_sem, F]
        refine h _ ?_; refine AW_sr fun K h => ?_; simp [go_sem, F]; refine h _ ?_; refine AW_if hM (fun h13 hM => ?_) (fun h13 hM => ?_)
        · have g := h13; (try simp at g); have F := And.intro F (And.intro h13 (And.intro g (lT h13))); refine AW_sr fun K h => ?_; simp [go_sem, F]; refine h _ ?_; obtain rfl := si hM; have hM := hR4; dsimp only at hM; obtain rfl := si hM; refine AW_ret ?_; simp [go_sem, F]
        · have g := h13; (try simp at g); have F := And.intro F (And.intro h13 (And.intro g (lF h13))); refine AW_skip ?_; refine hK10 _ ?_; refine AW_region ?_; simp [go_sem, F]; exact fin hL7 (x5, (IntKind.i64.wrap (x3 + 1))) hM
      · have g := h9; (try simp at g); have F := And.intro F (And.intro h9 (And.intro g (lF h9))); refine AW_exit ?_; obtain rfl := si hM; exact fin hK6 x2 rfl
    · rintro x1 rfl; have hM := hR4; dsimp only at hM; refine AW_sr fun K h => ?_; simp [go_sem, F]; refine h _ ?_; obtain rfl := si hM; refine AW_ret ?_; simp [go_sem, F]
theorem w_szWorld_ctr (k : Nat) (a0 : TWorld) (a1 : Int) (r : Int) (hM : w_szWorld k a0 a1 = some r) : Ctr Try.prog 47 [.agg (TWorld.c a0), .one (.int .i64 a1)] true [.one (.int .i64 r)] := by
  unfold w_szWorld at hM
  refine walkM Try.func47 Try.ntmps47 Try.results47 fun N w0 hbad F => ?_
  refine AW_sr fun K h => ?_; simp [go_sem, F]; refine h _ ?_; obtain ⟨x1, e1, hM⟩ := bind_some hM; refine AW_sr fun K h => ?_; simp [go_sem, F]; refine by_c false (w_szFileS_ctr k a0.files a1 x1 e1) ?_; simp [go_sem, F]; refine h _ ?_; refine AW_seq fun K2 hK2 => ?_; refine AW_sr fun K h => ?_; simp [go_sem, F]; refine h _ ?_; refine AW_if hM (fun h3 hM => ?_) (fun h3 hM => ?_)
  · have g := h3; (try simp at g); have F := And.intro F (And.intro h3 (And.intro g (lT h3))); refine AW_sr fun K h => ?_; simp [go_sem, F]; refine h _ ?_; obtain rfl := si hM; refine AW_ret ?_; simp [go_sem, F]
  · have g := h3; (try simp at g); have F := And.intro F (And.intro h3 (And.intro g (lF h3))); refine AW_skip ?_; refine hK2 _ ?_; refine AW_sr fun K h => ?_; simp [go_sem, F]; refine h _ ?_; obtain rfl := si hM; refine AW_ret ?_; simp [go_sem, F]
theorem w_szEntry_ctr (k : Nat) (a0 : TEntry) (a1 : Int) (r : Int) (hM : w_szEntry k a0 a1 = some r) : Ctr Try.prog 135 [.agg (TEntry.c a0), .one (.int .i64 a1)] true [.one (.int .i64 r)] := by
  unfold w_szEntry at hM
  refine walkM Try.func135 Try.ntmps135 Try.results135 fun N w0 hbad F => ?_
  refine AW_sr fun K h => ?_; simp [go_sem, F]; refine h _ ?_; obtain ⟨x1, e1, hM⟩ := bind_some hM; refine AW_sr fun K h => ?_; simp [go_sem, F]; refine by_c false (w_szIntS_ctr a0.inputs a1 x1 e1) ?_; simp [go_sem, F]; refine h _ ?_; refine AW_seq fun K2 hK2 => ?_; refine AW_sr fun K h => ?_; simp [go_sem, F]; refine h _ ?_; refine AW_if hM (fun h3 hM => ?_) (fun h3 hM => ?_)
  · have g := h3; (try simp at g); have F := And.intro F (And.intro h3 (And.intro g (lT h3))); refine AW_sr fun K h => ?_; simp [go_sem, F]; refine h _ ?_; obtain rfl := si hM; refine AW_ret ?_; simp [go_sem, F]
  · have g := h3; (try simp at g); have F := And.intro F (And.intro h3 (And.intro g (lF h3))); refine AW_skip ?_; refine hK2 _ ?_; obtain ⟨x2, e4, hM⟩ := bind_some hM; refine AW_sr fun K h => ?_; simp [go_sem, F]; refine by_c false (w_szValue_ctr k a0.value x1 x2 e4) ?_; simp [go_sem, F]; refine h _ ?_; refine AW_seq fun K5 hK5 => ?_; refine AW_sr fun K h => ?_; simp [go_sem, F]; refine h _ ?_; refine AW_if hM (fun h6 hM => ?_) (fun h6 hM => ?_)
    · have g := h6; (try simp at g); have F := And.intro F (And.intro h6 (And.intro g (lT h6))); refine AW_sr fun K h => ?_; simp [go_sem, F]; refine h _ ?_; obtain rfl := si hM; refine AW_ret ?_; simp [go_sem, F]
    · have g := h6; (try simp at g); have F := And.intro F (And.intro h6 (And.intro g (lF h6))); refine AW_skip ?_; refine hK5 _ ?_; refine AW_sr fun K h => ?_; simp [go_sem, F]; refine h _ ?_; obtain rfl := si hM; refine AW_ret ?_; simp [go_sem, F]
theorem w_szEntryS_ctr (k : Nat) (a0 : List TEntry) (a1 : Int) (r : Int) (hM : w_szEntryS k a0 a1 = some r) : Ctr Try.prog 67 [.one (.sl (a0.map TEntry.c)), .one (.int .i64 a1)] true [.one (.int .i64 r)] := by
  unfold w_szEntryS at hM
  refine walkM Try.func67 Try.ntmps67 Try.results67 fun N w0 hbad F => ?_
  refine AW_sr fun K h => ?_; simp [go_sem, F]; refine h _ ?_; refine AW_sr fun K h => ?_; simp [go_sem, F]; refine h _ ?_; refine AW_seq fun K1 hK1 => ?_; refine AW_sr fun K h => ?_; simp [go_sem, F]; refine h _ ?_; refine AW_if hM (fun h2 hM => ?_) (fun h2 hM => ?_)
  · have g := h2; (try simp at g); have F := And.intro F (And.intro h2 (And.intro g (lT h2))); refine AW_sr fun K h => ?_; simp [go_sem, F]; refine h _ ?_; obtain rfl := si hM; refine AW_ret ?_; simp [go_sem, F]
  · have g := h2; (try simp at g); have F := And.intro F (And.intro h2 (And.intro g (lF h2))); refine AW_skip ?_; refine hK1 _ ?_; obtain ⟨e3, hU5, hR4⟩ := bind_some hM; clear hM; refine AW_mid (ι := Int) (fun i => ⟨27, [(1, .one (.l (.int .i64 i)))], [], []⟩) (fun i => (.inl i) = e3) ?_ ?_
    · intro K6 hK6; have hM := hU5; clear hU5; refine AW_sr fun K h => ?_; simp [go_sem, F]; refine h _ ?_; refine AW_block ?_; refine AW_lp (ι := Int × Int) (fun i => ⟨27, [(0, .one (.l (.sl (a0.map TEntry.c)))), (1, .one (.l (.int .i64 i.1))), (5, .one (.l (.int .i64 i.2)))], [], []⟩) (fun n i => w_szEntryS_u1 k a0 n i.1 i.2 = some e3) k ((IntKind.i64.wrap (a1 - (a0.length : Int))), 0) hM (by simp [w_szEntryS_u1]) ?_
      intro KL7 n ⟨x2, x3⟩ hL7 hM F; have hM : w_szEntryS_u1 k a0 (n + 1) x2 x3 = some e3 := hM; rw [w_szEntryS_u1] at hM; refine AW_seq fun K8 hK8 => ?_; refine AW_sr fun K h => ?_; simp [go_sem, F]; refine h _ ?_; refine AW_if hM (fun h9 hM => ?_) (fun h9 hM => ?_)
      · have g := h9; (try simp at g); have F := And.intro F (And.intro h9 (And.intro g (lT h9))); refine AW_skip ?_; refine hK8 _ ?_; refine AW_seq fun K10 hK10 => ?_; refine AW_block ?_; obtain ⟨x4, e11, hM⟩ := bind_some hM; have F := And.intro F (at_f e11); obtain ⟨x5, e12, hM⟩ := bind_some hM; refine AW_sr fun K h => ?_; simp [go_sem, F]; refine by_c false (w_szEntry_ctr k x4 x2 x5 e12) ?_; simp [go_sem, F]
        refine h _ ?_; refine AW_sr fun K h => ?_; simp [go_sem, F]; refine h _ ?_; refine AW_if hM (fun h13 hM => ?_) (fun h13 hM => ?_)
        · have g := h13; (try simp at g); have F := And.intro F (And.intro h13 (And.intro g (lT h13))); refine AW_sr fun K h => ?_; simp [go_sem, F]; refine h _ ?_; obtain rfl := si hM; have hM := hR4; dsimp only at hM; obtain rfl := si hM; refine AW_ret ?_; simp [go_sem, F]
        · have g := h13; (try simp at g); have F := And.intro F (And.intro h13 (And.intro g (lF h13))); refine AW_skip ?_; refine hK10 _ ?_; refine AW_region ?_; simp [go_sem, F]; exact fin hL7 (x5, (IntKind.i64.wrap (x3 + 1))) hM
      · have g := h9; (try simp at g); have F := And.intro F (And.intro h9 (And.intro g (lF h9))); refine AW_exit ?_; obtain rfl := si hM; exact fin hK6 x2 rfl
    · rintro x1 rfl; have hM := hR4; dsimp only at hM; refine AW_sr fun K h => ?_; simp [go_sem, F]; refine h _ ?_; obtain rfl := si hM; refine AW_ret ?_; simp [go_sem, F]
theorem w_szEngine_ctr (k : Nat) (a0 : TEngine) (a1 : Int) (r : Int) (hM : w_szEngine k a0 a1 = some r) : Ctr Try.prog 11 [.agg (TEngine.c a0), .one (.int .i64 a1)] true [.one (.int .i64 r)] := by
  unfold w_szEngine at hM
  refine walkM Try.func11 Try.ntmps11 Try.results11 fun N w0 hbad F => ?_
  refine AW_sr fun K h => ?_; simp [go_sem, F]; refine h _ ?_; obtain ⟨x1, e1, hM⟩ := bind_some hM; refine AW_sr fun K h => ?_; simp [go_sem, F]; refine by_c false (w_szNotebook_ctr k a0.notebook a1 x1 e1) ?_; simp [go_sem, F]; refine h _ ?_; refine AW_seq fun K2 hK2 => ?_; refine AW_sr fun K h => ?_; simp [go_sem, F]; refine h _ ?_; refine AW_if hM (fun h3 hM => ?_) (fun h3 hM => ?_)
  · have g := h3; (try simp at g); have F := And.intro F (And.intro h3 (And.intro g (lT h3))); refine AW_sr fun K h => ?_; simp [go_sem, F]; refine h _ ?_; obtain rfl := si hM; refine AW_ret ?_; simp [go_sem, F]
  · have g := h3; (try simp at g); have F := And.intro F (And.intro h3 (And.intro g (lF h3))); refine AW_skip ?_; refine hK2 _ ?_; obtain ⟨x2, e4, hM⟩ := bind_some hM; refine AW_sr fun K h => ?_; simp [go_sem, F]; refine by_c false (w_szWorld_ctr k a0.world x1 x2 e4) ?_; simp [go_sem, F]; refine h _ ?_; refine AW_seq fun K5 hK5 => ?_; refine AW_sr fun K h => ?_; simp [go_sem, F]; refine h _ ?_; refine AW_if hM (fun h6 hM => ?_) (fun h6 hM => ?_)
    · have g := h6; (try simp at g); have F := And.intro F (And.intro h6 (And.intro g (lT h6))); refine AW_sr fun K h => ?_; simp [go_sem, F]; refine h _ ?_; obtain rfl := si hM; refine AW_ret ?_; simp [go_sem, F]
    · have g := h6; (try simp at g); have F := And.intro F (And.intro h6 (And.intro g (lF h6))); refine AW_skip ?_; refine hK5 _ ?_; obtain ⟨x3, e7, hM⟩ := bind_some hM; refine AW_sr fun K h => ?_; simp [go_sem, F]; refine by_c false (w_szTapeS_ctr k a0.tapes x2 x3 e7) ?_; simp [go_sem, F]; refine h _ ?_; refine AW_seq fun K8 hK8 => ?_; refine AW_sr fun K h => ?_; simp [go_sem, F]; refine h _ ?_; refine AW_if hM (fun h9 hM => ?_) (fun h9 hM => ?_)
      · have g := h9; (try simp at g); have F := And.intro F (And.intro h9 (And.intro g (lT h9))); refine AW_sr fun K h => ?_; simp [go_sem, F]; refine h _ ?_; obtain rfl := si hM; refine AW_ret ?_; simp [go_sem, F]
      · have g := h9; (try simp at g); have F := And.intro F (And.intro h9 (And.intro g (lF h9))); refine AW_skip ?_; refine hK8 _ ?_; obtain ⟨x4, e10, hM⟩ := bind_some hM; refine AW_sr fun K h => ?_; simp [go_sem, F]; refine by_c false (w_szEntryS_ctr k a0.entries x3 x4 e10) ?_; simp [go_sem, F]; refine h _ ?_; refine AW_seq fun K11 hK11 => ?_; refine AW_sr fun K h => ?_; simp [go_sem, F]; refine h _ ?_
        refine AW_if hM (fun h12 hM => ?_) (fun h12 hM => ?_)
        · have g := h12; (try simp at g); have F := And.intro F (And.intro h12 (And.intro g (lT h12))); refine AW_sr fun K h => ?_; simp [go_sem, F]; refine h _ ?_; obtain rfl := si hM; refine AW_ret ?_; simp [go_sem, F]
        · have g := h12; (try simp at g); have F := And.intro F (And.intro h12 (And.intro g (lF h12))); refine AW_skip ?_; refine hK11 _ ?_; refine AW_sr fun K h => ?_; simp [go_sem, F]; refine h _ ?_; obtain rfl := si hM; refine AW_ret ?_; simp [go_sem, F]
theorem w_toFile_ctr (a0 : TFile) (r : TFile) (hM : w_toFile a0 = some r) : Ctr Try.prog 149 [.agg (TFile.c a0)] true [.agg (TFile.c r)] := by
  unfold w_toFile at hM
  refine walkM Try.func149 Try.ntmps149 Try.results149 fun N w0 hbad F => ?_
  refine AW_sr fun K h => ?_; simp [go_sem, F]; refine h _ ?_; refine AW_sr fun K h => ?_; simp [go_sem, F]; refine h _ ?_; refine AW_sr fun K h => ?_; simp [go_sem, F]; refine h _ ?_; refine AW_sr fun K h => ?_; simp [go_sem, F]; refine h _ ?_; refine AW_sr fun K h => ?_; simp [go_sem, F]; refine h _ ?_; obtain rfl := si hM; refine AW_ret ?_; simp [go_sem, F]
theorem w_toFileS_ctr (k : Nat) (a0 : List TFile) (r : List TFile) (hM : w_toFileS k a0 = some r) : Ctr Try.prog 100 [.one (.sl (a0.map TFile.c))] true [.one (.sl (r.map TFile.c))] := by
  unfold w_toFileS at hM
  refine walkM Try.func100 Try.ntmps100 Try.results100 fun N w0 hbad F => ?_
  refine AW_sr fun K h => ?_; simp [go_sem, F]; refine h _ ?_; obtain ⟨x1, e1, hM⟩ := bind_some hM; obtain ⟨c2, s3⟩ := mk_spec e1; replace c2 := c2.symm; subst c2; (try simp at s3); have F := And.intro F s3; refine AW_sr fun K h => ?_; simp [go_sem, F]; refine h _ ?_; obtain ⟨e6, hU8, hR7⟩ := bind_some hM; clear hM; refine AW_mid (ι := List TFile) (fun i => ⟨23, [(3, .one (.own 448 i.length))], [], [(448, some ⟨true, i.map TFile.c⟩)]⟩) (fun i => i = e6) ?_ ?_
  · intro K9 hK9; have hM := hU8; clear hU8; refine AW_sr fun K h => ?_; simp [go_sem, F]; refine h _ ?_; refine AW_block ?_; refine AW_lp (ι := (List TFile) × Int) (fun i => ⟨23, [(0, .one (.l (.sl (a0.map TFile.c)))), (3, .one (.own 448 i.1.length)), (4, .one (.l (.int .i64 i.2)))], [], [(448, some ⟨true, i.1.map TFile.c⟩)]⟩) (fun n i => w_toFileS_u1 a0 n i.1 i.2 = some e6) k ((List.replicate ((a0.length : Int).toNat) (TFile.mk (⟨#[]⟩ : ByteArray) 0)), 0) hM (by simp [w_toFileS_u1]) ?_
    intro KL10 n ⟨x3, x4⟩ hL10 hM F; have hM : w_toFileS_u1 a0 (n + 1) x3 x4 = some e6 := hM; rw [w_toFileS_u1] at hM; refine AW_seq fun K11 hK11 => ?_; refine AW_sr fun K h => ?_; simp [go_sem, F]; refine h _ ?_; refine AW_if hM (fun h12 hM => ?_) (fun h12 hM => ?_)
    · have g := h12; (try simp at g); have F := And.intro F (And.intro h12 (And.intro g (lT h12))); refine AW_skip ?_; refine hK11 _ ?_; refine AW_seq fun K13 hK13 => ?_; refine AW_block ?_; obtain ⟨x5, e14, hM⟩ := bind_some hM; have F := And.intro F (at_f e14); obtain ⟨x6, e15, hM⟩ := bind_some hM; obtain ⟨x7, e16, hM⟩ := bind_some hM; have F := And.intro F (at_f e16); have F := And.intro F (at_l e16)
      refine AW_region ?_; simp [go_sem, F]; refine by_c false (w_toFile_ctr x5 x6 e15) ?_; simp [go_sem, F]; refine hK13 _ ?_; refine AW_region ?_; simp [go_sem, F]; exact fin hL10 ((x3.set x4.toNat x6), (IntKind.i64.wrap (x4 + 1))) hM
    · have g := h12; (try simp at g); have F := And.intro F (And.intro h12 (And.intro g (lF h12))); refine AW_exit ?_; obtain rfl := si hM; exact fin hK9 x3 rfl
  · rintro x2 rfl; have hM := hR7; (try dsimp only at hM); refine AW_sr fun K h => ?_; simp [go_sem, F]; refine h _ ?_; obtain rfl := si hM; refine AW_ret ?_; simp [go_sem, F]
theorem w_toWorld_ctr (k : Nat) (a0 : TWorld) (r : TWorld) (hM : w_toWorld k a0 = some r) : Ctr Try.prog 49 [.agg (TWorld.c a0)] true [.agg (TWorld.c r)] := by
  unfold w_toWorld at hM
  refine walkM Try.func49 Try.ntmps49 Try.results49 fun N w0 hbad F => ?_
  refine AW_sr fun K h => ?_; simp [go_sem, F]; refine h _ ?_; refine AW_sr fun K h => ?_; simp [go_sem, F]; refine h _ ?_; refine AW_sr fun K h => ?_; simp [go_sem, F]; refine h _ ?_; refine AW_sr fun K h => ?_; simp [go_sem, F]; refine h _ ?_; obtain ⟨x1, e1, hM⟩ := bind_some hM; refine AW_sr fun K h => ?_; simp [go_sem, F]; refine by_c false (w_toFileS_ctr k a0.files x1 e1) ?_; simp [go_sem, F]
  refine h _ ?_; refine AW_sr fun K h => ?_; simp [go_sem, F]; refine h _ ?_; obtain rfl := si hM; refine AW_ret ?_; simp [go_sem, F]
end Go.Proofs.Ytmiboaogfjgkjaa
