/- Contracts of the program's functions: where the mirrored function answers, the program's function returns this answer. Written by a program of mine. -/
import Derived.Test.YtmiboaogfjgkjaaWn
import Derived.Test.YtmiboaogfjgkjaaMd9
import Derived.Test.YtmiboaogfjgkjaaCt1
import Derived.Test.YtmiboaogfjgkjaaCt5
import Derived.Test.YtmiboaogfjgkjaaCt6
set_option linter.unusedSimpArgs false
set_option linter.unusedVariables false
namespace Go.Proofs.Ytmiboaogfjgkjaa
open Go.RowKit Am

set_option maxHeartbeats 4000000
set_option maxRecDepth 100000
theorem s_l14Files_ctr (k : Nat) (a0 : List TFile) (r : Bool) (hM : s_l14Files k a0 = some r) : Ctr Try.prog 148 [.one (.sl (a0.map TFile.c))] true [.one (.bool r)] := by
  unfold s_l14Files at hM
  refine walkM Try.func148 Try.ntmps148 Try.results148 fun N w0 hbad F => ?_
  refine AW_sr fun K h => ?_; simp [go_sem, F]; refine h _ ?_; obtain ⟨e1, hU3, hR2⟩ := bind_some hM; clear hM; refine AW_mid (ι := Unit) (fun i => ⟨47, [(0, .one (.l (.sl (a0.map TFile.c))))], [], []⟩) (fun i => (.inl i) = e1) ?_ ?_
  · intro K4 hK4; have hM := hU3; clear hU3; refine AW_sr fun K h => ?_; simp [go_sem, F]; refine h _ ?_; refine AW_block ?_; refine AW_lp (ι := Int) (fun i => ⟨47, [(0, .one (.l (.sl (a0.map TFile.c)))), (3, .one (.l (.int .i64 i)))], [], []⟩) (fun n i => s_l14Files_u1 k a0 n i = some e1) k 0 hM (by simp [s_l14Files_u1]) ?_; intro KL5 n x1 hL5 hM F; have hM : s_l14Files_u1 k a0 (n + 1) x1 = some e1 := hM; rw [s_l14Files_u1] at hM
    refine AW_seq fun K6 hK6 => ?_; refine AW_sr fun K h => ?_; simp [go_sem, F]; refine h _ ?_; refine AW_if hM (fun h7 hM => ?_) (fun h7 hM => ?_)
    · have g := h7; (try simp at g); have F := And.intro F (And.intro h7 (And.intro g (lT h7))); refine AW_skip ?_; refine hK6 _ ?_; refine AW_seq fun K8 hK8 => ?_; refine AW_block ?_; obtain ⟨e9, hU11, hR10⟩ := bind_some hM; clear hM; refine AW_mid (ι := Bool) (fun i => ⟨47, [(0, .one (.l (.sl (a0.map TFile.c)))), (3, .one (.l (.int .i64 x1))), (43, .one (.l (.bool i)))], [], []⟩) (fun i => i = e9) ?_ ?_
      · intro K12 hK12; have hM := hU11; clear hU11; obtain ⟨x3, e13, hM⟩ := bind_some hM; have F := And.intro F (at_f e13); obtain ⟨x4, e14, hM⟩ := bind_some hM; rcases ifM hM with ⟨h15, hM⟩ | ⟨h15, hM⟩
        · have g := h15; (try simp at g); have F := And.intro F (And.intro h15 g); refine AW_quickN 31 mixed (by kernel_rfl) (by kernel_rfl) ?_; simp [go_sem, F]; refine by_c false (s_IsValidName_ctr k x3.name x4 e14) ?_; simp [go_sem, F]; obtain rfl := si hM; exact fin hK12 true rfl
        · have g := h15; (try simp at g); have F := And.intro F (And.intro h15 g); obtain ⟨x5, e16, hM⟩ := bind_some hM; rcases ifM hM with ⟨h17, hM⟩ | ⟨h17, hM⟩
          · have g := h17; (try simp at g); have F := And.intro F (And.intro h17 g); refine AW_quickN 31 mixed (by kernel_rfl) (by kernel_rfl) ?_; simp [go_sem, F]; refine by_c false (s_IsValidName_ctr k x3.name x4 e14) ?_; simp [go_sem, F]; refine by_c false (s_l3Number_ctr x3.n x5 e16) ?_; simp [go_sem, F]; obtain rfl := si hM; exact fin hK12 true rfl
          · have g := h17; (try simp at g); have F := And.intro F (And.intro h17 g); rcases ifM hM with ⟨h18, hM⟩ | ⟨h18, hM⟩
            · have g := h18; (try simp at g); have F := And.intro F (And.intro h18 (And.intro g (lT h18))); obtain ⟨x6, e19, hM⟩ := bind_some hM; have F := And.intro F (at_f e19); refine AW_quickN 31 mixed (by kernel_rfl) (by kernel_rfl) ?_; simp [go_sem, F]; refine by_c false (s_IsValidName_ctr k x3.name x4 e14) ?_; simp [go_sem, F]; refine by_c false (s_l3Number_ctr x3.n x5 e16) ?_; simp [go_sem, F]
              obtain rfl := si hM; exact fin hK12 (!sLess x6.name x3.name) rfl
            · have g := h18; (try simp at g); have F := And.intro F (And.intro h18 (And.intro g (lF h18))); refine AW_quickN 31 mixed (by kernel_rfl) (by kernel_rfl) ?_; simp [go_sem, F]; refine by_c false (s_IsValidName_ctr k x3.name x4 e14) ?_; simp [go_sem, F]; refine by_c false (s_l3Number_ctr x3.n x5 e16) ?_; simp [go_sem, F]; obtain rfl := si hM; exact fin hK12 false rfl
      · rintro x2 rfl; have hM := hR10; (try dsimp only at hM); refine AW_if hM (fun h20 hM => ?_) (fun h20 hM => ?_)
        · have g := h20; (try simp at g); have F := And.intro F (And.intro h20 g); refine AW_sr fun K h => ?_; simp [go_sem, F]; refine h _ ?_; obtain rfl := si hM; have hM := hR2; dsimp only at hM; obtain rfl := si hM; refine AW_ret ?_; simp [go_sem, F]
        · have g := h20; (try simp at g); have F := And.intro F (And.intro h20 g); refine AW_skip ?_; refine hK8 _ ?_; refine AW_region ?_; simp [go_sem, F]; exact fin hL5 (IntKind.i64.wrap (x1 + 1)) hM
    · have g := h7; (try simp at g); have F := And.intro F (And.intro h7 (And.intro g (lF h7))); refine AW_exit ?_; obtain rfl := si hM; exact fin hK4 () rfl
  · rintro _ rfl; have hM := hR2; dsimp only at hM; refine AW_sr fun K h => ?_; simp [go_sem, F]; refine h _ ?_; obtain rfl := si hM; refine AW_ret ?_; simp [go_sem, F]
theorem s_IsValidWorld_ctr (k : Nat) (a0 : TWorld) (r : Bool) (hM : s_IsValidWorld k a0 = some r) : Ctr Try.prog 98 [.agg (TWorld.c a0)] true [.one (.bool r)] := by
  unfold s_IsValidWorld at hM
  refine walkM Try.func98 Try.ntmps98 Try.results98 fun N w0 hbad F => ?_
  refine AW_sr fun K h => ?_; simp [go_sem, F]; refine h _ ?_; obtain ⟨e1, hU3, hR2⟩ := bind_some hM; clear hM; refine AW_mid (ι := Bool) (fun i => ⟨16, [(2, .one (.l (.bool i)))], [], []⟩) (fun i => i = e1) ?_ ?_
  · intro K4 hK4; have hM := hU3; clear hU3; obtain ⟨x2, e5, hM⟩ := bind_some hM; rcases ifM hM with ⟨h6, hM⟩ | ⟨h6, hM⟩
    · have g := h6; (try simp at g); have F := And.intro F (And.intro h6 g); obtain ⟨x3, e7, hM⟩ := bind_some hM; rcases ifM hM with ⟨h8, hM⟩ | ⟨h8, hM⟩
      · have g := h8; (try simp at g); have F := And.intro F (And.intro h8 g); obtain ⟨x4, e9, hM⟩ := bind_some hM; refine AW_region ?_; simp [go_sem, F]; refine by_c false (s_l1In_ctr a0.clock 0 1000 x2 e5) ?_; simp [go_sem, F]; refine by_c false (s_l1In_ctr a0.seed 0 1000000 x3 e7) ?_; simp [go_sem, F]; refine by_c false (s_l14Files_ctr k a0.files x4 e9) ?_; simp [go_sem, F]; obtain rfl := si hM
        exact fin hK4 x4 rfl
      · have g := h8; (try simp at g); have F := And.intro F (And.intro h8 g); refine AW_region ?_; simp [go_sem, F]; refine by_c false (s_l1In_ctr a0.clock 0 1000 x2 e5) ?_; simp [go_sem, F]; refine by_c false (s_l1In_ctr a0.seed 0 1000000 x3 e7) ?_; simp [go_sem, F]; obtain rfl := si hM; exact fin hK4 false rfl
    · have g := h6; (try simp at g); have F := And.intro F (And.intro h6 g); refine AW_region ?_; simp [go_sem, F]; refine by_c false (s_l1In_ctr a0.clock 0 1000 x2 e5) ?_; simp [go_sem, F]; obtain rfl := si hM; exact fin hK4 false rfl
  · rintro x1 rfl; have hM := hR2; (try dsimp only at hM); obtain rfl := si hM; refine AW_ret ?_; simp [go_sem, F]
theorem s_l14Copy_ctr (a0 : TWorld) (r : TWorld) (hM : s_l14Copy a0 = some r) : Ctr Try.prog 99 [.agg (TWorld.c a0)] true [.agg (TWorld.c r)] := by
  unfold s_l14Copy at hM
  refine walkM Try.func99 Try.ntmps99 Try.results99 fun N w0 hbad F => ?_
  refine AW_sr fun K h => ?_; simp [go_sem, F]; refine h _ ?_; obtain ⟨x1, e1, hM⟩ := bind_some hM; obtain ⟨c2, s3⟩ := app_spec e1; replace c2 := c2.symm; subst c2; (try simp at s3); have F := And.intro F s3; refine AW_sr fun K h => ?_; simp [go_sem, F]; refine h _ ?_; refine AW_sr fun K h => ?_; simp [go_sem, F]; refine h _ ?_; obtain rfl := si hM; refine AW_ret ?_; simp [go_sem, F]
theorem s_NewEngine_ctr (k : Nat) (a0 : TWorld) (a1 : Int) (r : TEngine × Bool) (hM : s_NewEngine k a0 a1 = some r) : Ctr Try.prog 48 [.agg (TWorld.c a0), .one (.int .i64 a1)] true [.agg (TEngine.c r.1), .one (.bool r.2)] := by
  unfold s_NewEngine at hM
  refine walkM Try.func48 Try.ntmps48 Try.results48 fun N w0 hbad F => ?_
  refine AW_sr fun K h => ?_; simp [go_sem, F]; refine h _ ?_; refine AW_seq fun K1 hK1 => ?_; obtain ⟨e2, hU4, hR3⟩ := bind_some hM; clear hM; refine AW_mid (ι := Bool) (fun i => ⟨19, [(1, .one (.l (.int .i64 a1))), (2, .one (.box 2 0)), (4, .one (.box 4 0)), (13, .one (.l (.bool i)))], [(2, [.l (.int .i64 a0.clock), .l (.int .i64 a0.seed), .l (.sl (a0.files.map TFile.c))]), (4, [.nil, .l (.int .i64 0), .l (.int .i64 0), .nil, .nil, .nil, .l (.int .i64 0), .l (.int .i64 0), .l (.int .i64 0)])], []⟩) (fun i => i = e2) ?_ ?_
  · intro K5 hK5; have hM := hU4; clear hU4; obtain ⟨x2, e6, hM⟩ := bind_some hM; rcases ifM hM with ⟨h7, hM⟩ | ⟨h7, hM⟩
    · have g := h7; (try simp at g); have F := And.intro F (And.intro h7 g); refine AW_region ?_; simp [go_sem, F]; refine by_c false (s_IsValidWorld_ctr k a0 x2 e6) ?_; simp [go_sem, F]; obtain rfl := si hM; exact fin hK5 true rfl
    · have g := h7; (try simp at g); have F := And.intro F (And.intro h7 g); obtain ⟨x3, e8, hM⟩ := bind_some hM; refine AW_region ?_; simp [go_sem, F]; refine by_c false (s_IsValidWorld_ctr k a0 x2 e6) ?_; simp [go_sem, F]; refine by_c false (s_l1In_ctr a1 0 1000 x3 e8) ?_; simp [go_sem, F]; obtain rfl := si hM; exact fin hK5 (!x3) rfl
  · rintro x1 rfl; have hM := hR3; (try dsimp only at hM); refine AW_if hM (fun h9 hM => ?_) (fun h9 hM => ?_)
    · have g := h9; (try simp at g); have F := And.intro F (And.intro h9 g); refine AW_sr fun K h => ?_; simp [go_sem, F]; refine h _ ?_; obtain rfl := si hM; refine AW_ret ?_; simp [go_sem, F]
    · have g := h9; (try simp at g); have F := And.intro F (And.intro h9 g); refine AW_skip ?_; refine hK1 _ ?_; obtain ⟨x4, e10, hM⟩ := bind_some hM; refine AW_sr fun K h => ?_; simp [go_sem, F]; refine by_c false (s_l14Copy_ctr a0 x4 e10) ?_; simp [go_sem, F]; refine h _ ?_; obtain rfl := si hM; refine AW_ret ?_; simp [go_sem, F]
theorem i_IsValidWorld_ctr (k : Nat) (a0 : TWorld) (r : Bool) (hM : i_IsValidWorld k a0 = some r) : Ctr Try.prog 101 [.agg (TWorld.c a0)] true [.one (.bool r)] := by
  unfold i_IsValidWorld at hM
  refine walkM Try.func101 Try.ntmps101 Try.results101 fun N w0 hbad F => ?_
  refine AW_sr fun K h => ?_; simp [go_sem, F]; refine h _ ?_; obtain ⟨e1, hU3, hR2⟩ := bind_some hM; clear hM; refine AW_mid (ι := Unit) (fun i => ⟨54, [(1, .one (.box 1 0))], [(1, [.l (.int .i64 a0.clock), .l (.int .i64 a0.seed), .l (.sl (a0.files.map TFile.c))])], []⟩) (fun i => (.inl i) = e1) ?_ ?_
  · intro K4 hK4; have hM := hU3; clear hU3; refine AW_sr fun K h => ?_; simp [go_sem, F]; refine h _ ?_; refine AW_block ?_; refine AW_lp (ι := Int) (fun i => ⟨54, [(1, .one (.box 1 0)), (6, .one (.l (.sl (a0.files.map TFile.c)))), (7, .one (.l (.int .i64 (a0.files.length : Int)))), (8, .one (.l (.int .i64 i)))], [(1, [.l (.int .i64 a0.clock), .l (.int .i64 a0.seed), .l (.sl (a0.files.map TFile.c))])], []⟩) (fun n i => i_IsValidWorld_u1 k a0 n i = some e1) k 0 hM (by simp [i_IsValidWorld_u1]) ?_
    intro KL5 n x1 hL5 hM F; have hM : i_IsValidWorld_u1 k a0 (n + 1) x1 = some e1 := hM; rw [i_IsValidWorld_u1] at hM; refine AW_sr fun K h => ?_; simp [go_sem, F]; refine h _ ?_; refine AW_seq fun K6 hK6 => ?_; refine AW_if hM (fun h7 hM => ?_) (fun h7 hM => ?_)
    · have g := h7; (try simp at g); have F := And.intro F (And.intro h7 (And.intro g (lT h7))); refine AW_skip ?_; refine hK6 _ ?_; refine AW_seq fun K8 hK8 => ?_; refine AW_block ?_; obtain ⟨x2, e9, hM⟩ := bind_some hM; have F := And.intro F (at_f e9); refine AW_sr fun K h => ?_; simp [go_sem, F]; refine h _ ?_; obtain ⟨e10, hU12, hR11⟩ := bind_some hM; clear hM; refine AW_mid (ι := Bool) (fun i => ⟨54, [(1, .one (.box 1 0)), (6, .one (.l (.sl (a0.files.map TFile.c)))), (7, .one (.l (.int .i64 (a0.files.length : Int)))), (8, .one (.l (.int .i64 x1))), (38, .one (.l (.bool i)))], [(1, [.l (.int .i64 a0.clock), .l (.int .i64 a0.seed), .l (.sl (a0.files.map TFile.c))])], []⟩) (fun i => i = e10) ?_ ?_
      · intro K13 hK13; have hM := hU12; clear hU12; obtain ⟨x4, e14, hM⟩ := bind_some hM; rcases ifM hM with ⟨h15, hM⟩ | ⟨h15, hM⟩
        · have g := h15; (try simp at g); have F := And.intro F (And.intro h15 g); refine AW_quickN 23 mixed (by kernel_rfl) (by kernel_rfl) ?_; simp [go_sem, F]; refine by_c false (i_IsValidName_ctr k x2.name x4 e14) ?_; simp [go_sem, F]; obtain rfl := si hM; exact fin hK13 true rfl
        · have g := h15; (try simp at g); have F := And.intro F (And.intro h15 g); obtain ⟨x5, e16, hM⟩ := bind_some hM; rcases ifM hM with ⟨h17, hM⟩ | ⟨h17, hM⟩
          · have g := h17; (try simp at g); have F := And.intro F (And.intro h17 g); refine AW_quickN 23 mixed (by kernel_rfl) (by kernel_rfl) ?_; simp [go_sem, F]; refine by_c false (i_IsValidName_ctr k x2.name x4 e14) ?_; simp [go_sem, F]; refine by_c false (i_isNumber_ctr x2.n x5 e16) ?_; simp [go_sem, F]; obtain rfl := si hM; exact fin hK13 true rfl
          · have g := h17; (try simp at g); have F := And.intro F (And.intro h17 g); rcases ifM hM with ⟨h18, hM⟩ | ⟨h18, hM⟩
            · have g := h18; (try simp at g); have F := And.intro F (And.intro h18 (And.intro g (lT h18))); obtain ⟨x6, e19, hM⟩ := bind_some hM; have F := And.intro F (at_f e19); refine AW_quickN 23 mixed (by kernel_rfl) (by kernel_rfl) ?_; simp [go_sem, F]; refine by_c false (i_IsValidName_ctr k x2.name x4 e14) ?_; simp [go_sem, F]; refine by_c false (i_isNumber_ctr x2.n x5 e16) ?_; simp [go_sem, F]
              obtain rfl := si hM; exact fin hK13 (!sLess x6.name x2.name) rfl
            · have g := h18; (try simp at g); have F := And.intro F (And.intro h18 (And.intro g (lF h18))); refine AW_quickN 23 mixed (by kernel_rfl) (by kernel_rfl) ?_; simp [go_sem, F]; refine by_c false (i_IsValidName_ctr k x2.name x4 e14) ?_; simp [go_sem, F]; refine by_c false (i_isNumber_ctr x2.n x5 e16) ?_; simp [go_sem, F]; obtain rfl := si hM; exact fin hK13 false rfl
      · rintro x3 rfl; have hM := hR11; (try dsimp only at hM); refine AW_if hM (fun h20 hM => ?_) (fun h20 hM => ?_)
        · have g := h20; (try simp at g); have F := And.intro F (And.intro h20 g); refine AW_sr fun K h => ?_; simp [go_sem, F]; refine h _ ?_; obtain rfl := si hM; have hM := hR2; dsimp only at hM; obtain rfl := si hM; refine AW_ret ?_; simp [go_sem, F]
        · have g := h20; (try simp at g); have F := And.intro F (And.intro h20 g); refine AW_skip ?_; refine hK8 _ ?_; refine AW_region ?_; simp [go_sem, F]; exact fin hL5 (IntKind.i64.wrap (x1 + 1)) hM
    · have g := h7; (try simp at g); have F := And.intro F (And.intro h7 (And.intro g (lF h7))); refine AW_exit ?_; obtain rfl := si hM; exact fin hK4 () rfl
  · rintro _ rfl; have hM := hR2; dsimp only at hM; obtain ⟨e21, hU23, hR22⟩ := bind_some hM; clear hM; refine AW_mid (ι := Bool) (fun i => ⟨54, [(2, .one (.l (.bool i)))], [], []⟩) (fun i => i = e21) ?_ ?_
    · intro K24 hK24; have hM := hU23; clear hU23; obtain ⟨x8, e25, hM⟩ := bind_some hM; rcases ifM hM with ⟨h26, hM⟩ | ⟨h26, hM⟩
      · have g := h26; (try simp at g); have F := And.intro F (And.intro h26 g); obtain ⟨x9, e27, hM⟩ := bind_some hM; rcases ifM hM with ⟨h28, hM⟩ | ⟨h28, hM⟩
        · have g := h28; (try simp at g); have F := And.intro F (And.intro h28 g); refine AW_region ?_; simp [go_sem, F]; refine by_c false (i_within_ctr a0.clock 0 1000 x8 e25) ?_; simp [go_sem, F]; refine by_c false (i_within_ctr a0.seed 0 1000000 x9 e27) ?_; simp [go_sem, F]; obtain rfl := si hM; exact fin hK24 (decide ((a0.files.length : Int) ≤ 4)) rfl
        · have g := h28; (try simp at g); have F := And.intro F (And.intro h28 g); refine AW_region ?_; simp [go_sem, F]; refine by_c false (i_within_ctr a0.clock 0 1000 x8 e25) ?_; simp [go_sem, F]; refine by_c false (i_within_ctr a0.seed 0 1000000 x9 e27) ?_; simp [go_sem, F]; obtain rfl := si hM; exact fin hK24 false rfl
      · have g := h26; (try simp at g); have F := And.intro F (And.intro h26 g); refine AW_region ?_; simp [go_sem, F]; refine by_c false (i_within_ctr a0.clock 0 1000 x8 e25) ?_; simp [go_sem, F]; obtain rfl := si hM; exact fin hK24 false rfl
    · rintro x7 rfl; have hM := hR22; (try dsimp only at hM); obtain rfl := si hM; refine AW_ret ?_; simp [go_sem, F]
theorem i_copyWorld_ctr (a0 : TWorld) (r : TWorld) (hM : i_copyWorld a0 = some r) : Ctr Try.prog 102 [.agg (TWorld.c a0)] true [.agg (TWorld.c r)] := by
  unfold i_copyWorld at hM
  refine walkM Try.func102 Try.ntmps102 Try.results102 fun N w0 hbad F => ?_
  refine AW_sr fun K h => ?_; simp [go_sem, F]; refine h _ ?_; obtain ⟨x1, e1, hM⟩ := bind_some hM; obtain ⟨c2, s3⟩ := app_spec e1; replace c2 := c2.symm; subst c2; (try simp at s3); have F := And.intro F s3; refine AW_sr fun K h => ?_; simp [go_sem, F]; refine h _ ?_; refine AW_sr fun K h => ?_; simp [go_sem, F]; refine h _ ?_; obtain rfl := si hM; refine AW_ret ?_; simp [go_sem, F]
theorem i_NewEngine_ctr (k : Nat) (a0 : TWorld) (a1 : Int) (r : TEngine × Bool) (hM : i_NewEngine k a0 a1 = some r) : Ctr Try.prog 50 [.agg (TWorld.c a0), .one (.int .i64 a1)] true [.agg (TEngine.c r.1), .one (.bool r.2)] := by
  unfold i_NewEngine at hM
  refine walkM Try.func50 Try.ntmps50 Try.results50 fun N w0 hbad F => ?_
  refine AW_sr fun K h => ?_; simp [go_sem, F]; refine h _ ?_; refine AW_seq fun K1 hK1 => ?_; obtain ⟨e2, hU4, hR3⟩ := bind_some hM; clear hM; refine AW_mid (ι := Bool) (fun i => ⟨19, [(1, .one (.l (.int .i64 a1))), (2, .one (.box 2 0)), (4, .one (.box 4 0)), (13, .one (.l (.bool i)))], [(2, [.l (.int .i64 a0.clock), .l (.int .i64 a0.seed), .l (.sl (a0.files.map TFile.c))]), (4, [.nil, .l (.int .i64 0), .l (.int .i64 0), .nil, .nil, .nil, .l (.int .i64 0), .l (.int .i64 0), .l (.int .i64 0)])], []⟩) (fun i => i = e2) ?_ ?_
  · intro K5 hK5; have hM := hU4; clear hU4; obtain ⟨x2, e6, hM⟩ := bind_some hM; rcases ifM hM with ⟨h7, hM⟩ | ⟨h7, hM⟩
    · have g := h7; (try simp at g); have F := And.intro F (And.intro h7 g); refine AW_region ?_; simp [go_sem, F]; refine by_c false (i_IsValidWorld_ctr k a0 x2 e6) ?_; simp [go_sem, F]; obtain rfl := si hM; exact fin hK5 true rfl
    · have g := h7; (try simp at g); have F := And.intro F (And.intro h7 g); obtain ⟨x3, e8, hM⟩ := bind_some hM; refine AW_region ?_; simp [go_sem, F]; refine by_c false (i_IsValidWorld_ctr k a0 x2 e6) ?_; simp [go_sem, F]; refine by_c false (i_within_ctr a1 0 1000 x3 e8) ?_; simp [go_sem, F]; obtain rfl := si hM; exact fin hK5 (!x3) rfl
  · rintro x1 rfl; have hM := hR3; (try dsimp only at hM); refine AW_if hM (fun h9 hM => ?_) (fun h9 hM => ?_)
    · have g := h9; (try simp at g); have F := And.intro F (And.intro h9 g); refine AW_sr fun K h => ?_; simp [go_sem, F]; refine h _ ?_; obtain rfl := si hM; refine AW_ret ?_; simp [go_sem, F]
    · have g := h9; (try simp at g); have F := And.intro F (And.intro h9 g); refine AW_skip ?_; refine hK1 _ ?_; obtain ⟨x4, e10, hM⟩ := bind_some hM; refine AW_sr fun K h => ?_; simp [go_sem, F]; refine by_c false (i_copyWorld_ctr a0 x4 e10) ?_; simp [go_sem, F]; refine h _ ?_; obtain rfl := si hM; refine AW_ret ?_; simp [go_sem, F]
end Go.Proofs.Ytmiboaogfjgkjaa
