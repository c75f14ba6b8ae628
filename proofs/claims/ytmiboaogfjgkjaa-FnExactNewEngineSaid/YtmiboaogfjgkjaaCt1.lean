/- Contracts of the program's functions: where the mirrored function answers, the program's function returns this answer. Written by a program of mine. -/
import Derived.Test.YtmiboaogfjgkjaaWn
import Derived.Test.YtmiboaogfjgkjaaMd1
set_option linter.unusedSimpArgs false
set_option linter.unusedVariables false
namespace Go.Proofs.Ytmiboaogfjgkjaa
open Go.RowKit Am

set_option maxHeartbeats 4000000
set_option maxRecDepth 100000
theorem s_l1In_ctr (a0 : Int) (a1 : Int) (a2 : Int) (r : Bool) (hM : s_l1In a0 a1 a2 = some r) : Ctr Try.prog 77 [.one (.int .i64 a0), .one (.int .i64 a1), .one (.int .i64 a2)] true [.one (.bool r)] := by
  unfold s_l1In at hM
  refine walkM Try.func77 Try.ntmps77 Try.results77 fun N w0 hbad F => ?_
  refine AW_sr fun K h => ?_; simp [go_sem, F]; refine h _ ?_; obtain ⟨e1, hU3, hR2⟩ := bind_some hM; clear hM; refine AW_mid (ι := Bool) (fun i => ⟨15, [(6, .one (.l (.bool i)))], [], []⟩) (fun i => i = e1) ?_ ?_
  · intro K4 hK4; have hM := hU3; clear hU3; rcases ifM hM with ⟨h5, hM⟩ | ⟨h5, hM⟩
    · have g := h5; (try simp at g); have F := And.intro F (And.intro h5 (And.intro g (eT h5))); refine AW_region ?_; simp [go_sem, F]; obtain rfl := si hM; exact fin hK4 (decide (a0 ≤ a2)) rfl
    · have g := h5; (try simp at g); have F := And.intro F (And.intro h5 (And.intro g (eF h5))); refine AW_region ?_; simp [go_sem, F]; obtain rfl := si hM; exact fin hK4 false rfl
  · rintro x1 rfl; have hM := hR2; (try dsimp only at hM); obtain rfl := si hM; refine AW_ret ?_; simp [go_sem, F]
theorem s_ApplyDiff_ctr (k : Nat) (a0 : List TLine) (a1 : TDiff) (r : List TLine) (hM : s_ApplyDiff k a0 a1 = some r) : Ctr Try.prog 38 [.one (.sl (a0.map TLine.c)), .agg (TDiff.c a1)] true [.one (.sl (r.map TLine.c))] := by
  unfold s_ApplyDiff at hM
  refine walkM Try.func38 Try.ntmps38 Try.results38 fun N w0 hbad F => ?_
  refine AW_sr fun K h => ?_; simp [go_sem, F]; refine h _ ?_; refine AW_seq fun K1 hK1 => ?_; obtain ⟨x1, e2, hM⟩ := bind_some hM; refine AW_sr fun K h => ?_; simp [go_sem, F]; refine by_c false (s_l1In_ctr a1.length 0 8 x1 e2) ?_; simp [go_sem, F]; refine h _ ?_; refine AW_if hM (fun h3 hM => ?_) (fun h3 hM => ?_)
  · have g := h3; (try simp at g); have F := And.intro F (And.intro h3 g); obtain ⟨x2, e4, hM⟩ := bind_some hM; obtain ⟨c5, s6⟩ := app_spec e4; replace c5 := c5.symm; subst c5; (try simp at s6); have F := And.intro F s6; refine AW_sr fun K h => ?_; simp [go_sem, F]; refine h _ ?_; obtain rfl := si hM; refine AW_ret ?_; simp [go_sem, F]
  · have g := h3; (try simp at g); have F := And.intro F (And.intro h3 g); refine AW_skip ?_; refine hK1 _ ?_; obtain ⟨x3, e8, hM⟩ := bind_some hM; obtain ⟨c9, s10⟩ := mk_spec e8; replace c9 := c9.symm; subst c9; (try simp at s10); have F := And.intro F s10; refine AW_sr fun K h => ?_; simp [go_sem, F]; refine h _ ?_; obtain ⟨x4, e13, hM⟩ := bind_some hM; obtain ⟨c14, s15⟩ := cpy_spec e13; replace c14 := c14.symm; subst c14; (try simp at s15)
    have F := And.intro F s15; refine AW_sr fun K h => ?_; simp [go_sem, F]; refine h _ ?_; obtain ⟨e17, hU19, hR18⟩ := bind_some hM; clear hM; refine AW_mid (ι := List TLine) (fun i => ⟨52, [(5, .one (.own 1024 i.length))], [], [(1024, some ⟨true, i.map TLine.c⟩)]⟩) (fun i => i = e17) ?_ ?_
    · intro K20 hK20; have hM := hU19; clear hU19; refine AW_sr fun K h => ?_; simp [go_sem, F]; refine h _ ?_; refine AW_block ?_; refine AW_lp (ι := (List TLine) × Int) (fun i => ⟨52, [(3, .one (.box 3 0)), (5, .one (.own 1024 i.1.length)), (6, .one (.l (.int .i64 i.2)))], [(3, [.l (.int .i64 a1.length), .l (.sl (a1.changes.map TChange.c))])], [(1024, some ⟨true, i.1.map TLine.c⟩)]⟩) (fun n i => s_ApplyDiff_u1 a1 n i.1 i.2 = some e17) k ((over (List.replicate (a1.length.toNat) (TLine.mk 0 false (⟨#[]⟩ : ByteArray))) a0), 0) hM (by simp [s_ApplyDiff_u1]) ?_
      intro KL21 n ⟨x6, x7⟩ hL21 hM F; have hM : s_ApplyDiff_u1 a1 (n + 1) x6 x7 = some e17 := hM; rw [s_ApplyDiff_u1] at hM; refine AW_seq fun K22 hK22 => ?_; refine AW_sr fun K h => ?_; simp [go_sem, F]; refine h _ ?_; refine AW_if hM (fun h23 hM => ?_) (fun h23 hM => ?_)
      · have g := h23; (try simp at g); have F := And.intro F (And.intro h23 (And.intro g (lT h23))); refine AW_skip ?_; refine hK22 _ ?_; obtain ⟨e24, hU26, hR25⟩ := bind_some hM; clear hM; refine AW_mid (ι := List TLine) (fun i => ⟨52, [(3, .one (.box 3 0)), (5, .one (.own 1024 i.length)), (6, .one (.l (.int .i64 x7)))], [(3, [.l (.int .i64 a1.length), .l (.sl (a1.changes.map TChange.c))])], [(1024, some ⟨true, i.map TLine.c⟩)]⟩) (fun i => i = e24) ?_ ?_
        · intro K27 hK27; have hM := hU26; clear hU26; refine AW_block ?_; refine AW_seq fun K28 hK28 => ?_; obtain ⟨x9, e29, hM⟩ := bind_some hM; have F := And.intro F (at_f e29); obtain ⟨x10, e30, hM⟩ := bind_some hM; refine AW_quickN 9 mixed (by kernel_rfl) (by kernel_rfl) ?_; simp [go_sem, F]; refine by_c false (s_l1In_ctr x9.at_ 0 (IntKind.i64.wrap (a1.length - 1)) x10 e30) ?_; simp [go_sem, F]
          refine hK28 _ ?_; refine AW_if hM (fun h31 hM => ?_) (fun h31 hM => ?_)
          · have g := h31; (try simp at g); have F := And.intro F (And.intro h31 g); obtain ⟨x11, e32, hM⟩ := bind_some hM; have F := And.intro F (at_f e32); have F := And.intro F (at_l e32); refine AW_quickN 13 mixed (by kernel_rfl) (by kernel_rfl) ?_; simp [go_sem, F]; obtain rfl := si hM; exact fin hK27 (x6.set x9.at_.toNat x9.line) rfl
          · have g := h31; (try simp at g); have F := And.intro F (And.intro h31 g); refine AW_skip ?_; obtain rfl := si hM; exact fin hK27 x6 rfl
        · rintro x8 rfl; have hM := hR25; (try dsimp only at hM); refine AW_region ?_; simp [go_sem, F]; exact fin hL21 (x8, (IntKind.i64.wrap (x7 + 1))) hM
      · have g := h23; (try simp at g); have F := And.intro F (And.intro h23 (And.intro g (lF h23))); refine AW_exit ?_; obtain rfl := si hM; exact fin hK20 x6 rfl
    · rintro x5 rfl; have hM := hR18; (try dsimp only at hM); refine AW_sr fun K h => ?_; simp [go_sem, F]; refine h _ ?_; obtain rfl := si hM; refine AW_ret ?_; simp [go_sem, F]
theorem i_within_ctr (a0 : Int) (a1 : Int) (a2 : Int) (r : Bool) (hM : i_within a0 a1 a2 = some r) : Ctr Try.prog 92 [.one (.int .i64 a0), .one (.int .i64 a1), .one (.int .i64 a2)] true [.one (.bool r)] := by
  unfold i_within at hM
  refine walkM Try.func92 Try.ntmps92 Try.results92 fun N w0 hbad F => ?_
  refine AW_sr fun K h => ?_; simp [go_sem, F]; refine h _ ?_; obtain ⟨e1, hU3, hR2⟩ := bind_some hM; clear hM; refine AW_mid (ι := Bool) (fun i => ⟨15, [(6, .one (.l (.bool i)))], [], []⟩) (fun i => i = e1) ?_ ?_
  · intro K4 hK4; have hM := hU3; clear hU3; rcases ifM hM with ⟨h5, hM⟩ | ⟨h5, hM⟩
    · have g := h5; (try simp at g); have F := And.intro F (And.intro h5 (And.intro g (eT h5))); refine AW_region ?_; simp [go_sem, F]; obtain rfl := si hM; exact fin hK4 (decide (a0 ≤ a2)) rfl
    · have g := h5; (try simp at g); have F := And.intro F (And.intro h5 (And.intro g (eF h5))); refine AW_region ?_; simp [go_sem, F]; obtain rfl := si hM; exact fin hK4 false rfl
  · rintro x1 rfl; have hM := hR2; (try dsimp only at hM); obtain rfl := si hM; refine AW_ret ?_; simp [go_sem, F]
theorem i_ApplyDiff_ctr (k : Nat) (a0 : List TLine) (a1 : TDiff) (r : List TLine) (hM : i_ApplyDiff k a0 a1 = some r) : Ctr Try.prog 41 [.one (.sl (a0.map TLine.c)), .agg (TDiff.c a1)] true [.one (.sl (r.map TLine.c))] := by
  unfold i_ApplyDiff at hM
  refine walkM Try.func41 Try.ntmps41 Try.results41 fun N w0 hbad F => ?_
  refine AW_sr fun K h => ?_; simp [go_sem, F]; refine h _ ?_; refine AW_seq fun K1 hK1 => ?_; obtain ⟨x1, e2, hM⟩ := bind_some hM; refine AW_sr fun K h => ?_; simp [go_sem, F]; refine by_c false (i_within_ctr a1.length 0 8 x1 e2) ?_; simp [go_sem, F]; refine h _ ?_; refine AW_if hM (fun h3 hM => ?_) (fun h3 hM => ?_)
  · have g := h3; (try simp at g); have F := And.intro F (And.intro h3 g); obtain ⟨x2, e4, hM⟩ := bind_some hM; obtain ⟨c5, s6⟩ := app_spec e4; replace c5 := c5.symm; subst c5; (try simp at s6); have F := And.intro F s6; refine AW_sr fun K h => ?_; simp [go_sem, F]; refine h _ ?_; obtain rfl := si hM; refine AW_ret ?_; simp [go_sem, F]
  · have g := h3; (try simp at g); have F := And.intro F (And.intro h3 g); refine AW_skip ?_; refine hK1 _ ?_; obtain ⟨x3, e8, hM⟩ := bind_some hM; obtain ⟨c9, s10⟩ := mk_spec e8; replace c9 := c9.symm; subst c9; (try simp at s10); have F := And.intro F s10; refine AW_sr fun K h => ?_; simp [go_sem, F]; refine h _ ?_; obtain ⟨x4, e13, hM⟩ := bind_some hM; obtain ⟨c14, s15⟩ := cpy_spec e13; replace c14 := c14.symm; subst c14; (try simp at s15)
    have F := And.intro F s15; refine AW_sr fun K h => ?_; simp [go_sem, F]; refine h _ ?_; obtain ⟨e17, hU19, hR18⟩ := bind_some hM; clear hM; refine AW_mid (ι := List TLine) (fun i => ⟨42, [(5, .one (.own 1088 i.length))], [], [(1088, some ⟨true, i.map TLine.c⟩)]⟩) (fun i => i = e17) ?_ ?_
    · intro K20 hK20; have hM := hU19; clear hU19; refine AW_sr fun K h => ?_; simp [go_sem, F]; refine h _ ?_; refine AW_block ?_; refine AW_lp (ι := (List TLine) × Int) (fun i => ⟨42, [(3, .one (.box 3 0)), (5, .one (.own 1088 i.1.length)), (22, .one (.l (.sl (a1.changes.map TChange.c)))), (23, .one (.l (.int .i64 (a1.changes.length : Int)))), (24, .one (.l (.int .i64 i.2)))], [(3, [.l (.int .i64 a1.length), .l (.sl (a1.changes.map TChange.c))])], [(1088, some ⟨true, i.1.map TLine.c⟩)]⟩) (fun n i => i_ApplyDiff_u1 a1 n i.1 i.2 = some e17) k ((over (List.replicate (a1.length.toNat) (TLine.mk 0 false (⟨#[]⟩ : ByteArray))) a0), 0) hM (by simp [i_ApplyDiff_u1]) ?_
      intro KL21 n ⟨x6, x7⟩ hL21 hM F; have hM : i_ApplyDiff_u1 a1 (n + 1) x6 x7 = some e17 := hM; rw [i_ApplyDiff_u1] at hM; refine AW_sr fun K h => ?_; simp [go_sem, F]; refine h _ ?_; refine AW_seq fun K22 hK22 => ?_; refine AW_if hM (fun h23 hM => ?_) (fun h23 hM => ?_)
      · have g := h23; (try simp at g); have F := And.intro F (And.intro h23 (And.intro g (lT h23))); refine AW_skip ?_; refine hK22 _ ?_; obtain ⟨e24, hU26, hR25⟩ := bind_some hM; clear hM; refine AW_mid (ι := List TLine) (fun i => ⟨42, [(3, .one (.box 3 0)), (5, .one (.own 1088 i.length)), (22, .one (.l (.sl (a1.changes.map TChange.c)))), (23, .one (.l (.int .i64 (a1.changes.length : Int)))), (24, .one (.l (.int .i64 x7)))], [(3, [.l (.int .i64 a1.length), .l (.sl (a1.changes.map TChange.c))])], [(1088, some ⟨true, i.map TLine.c⟩)]⟩) (fun i => i = e24) ?_ ?_
        · intro K27 hK27; have hM := hU26; clear hU26; refine AW_block ?_; obtain ⟨x9, e28, hM⟩ := bind_some hM; have F := And.intro F (at_f e28); refine AW_sr fun K h => ?_; simp [go_sem, F]; refine h _ ?_; obtain ⟨x10, e29, hM⟩ := bind_some hM; refine AW_sr fun K h => ?_; simp [go_sem, F]; refine by_c false (i_within_ctr x9.at_ 0 (IntKind.i64.wrap (a1.length - 1)) x10 e29) ?_; simp [go_sem, F]; refine h _ ?_
          refine AW_if hM (fun h30 hM => ?_) (fun h30 hM => ?_)
          · have g := h30; (try simp at g); have F := And.intro F (And.intro h30 g); obtain ⟨x11, e31, hM⟩ := bind_some hM; have F := And.intro F (at_f e31); have F := And.intro F (at_l e31); refine AW_region ?_; simp [go_sem, F]; obtain rfl := si hM; exact fin hK27 (x6.set x9.at_.toNat x9.line) rfl
          · have g := h30; (try simp at g); have F := And.intro F (And.intro h30 g); refine AW_skip ?_; obtain rfl := si hM; exact fin hK27 x6 rfl
        · rintro x8 rfl; have hM := hR25; (try dsimp only at hM); refine AW_region ?_; simp [go_sem, F]; exact fin hL21 (x8, (IntKind.i64.wrap (x7 + 1))) hM
      · have g := h23; (try simp at g); have F := And.intro F (And.intro h23 (And.intro g (lF h23))); refine AW_exit ?_; obtain rfl := si hM; exact fin hK20 x6 rfl
    · rintro x5 rfl; have hM := hR18; (try dsimp only at hM); refine AW_sr fun K h => ?_; simp [go_sem, F]; refine h _ ?_; obtain rfl := si hM; refine AW_ret ?_; simp [go_sem, F]
end Go.Proofs.Ytmiboaogfjgkjaa
