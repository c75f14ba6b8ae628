/- The law FnExactFreshView: its mirrored function, and its contract. Written by a program of mine. -/
import Derived.Test.YtmiboaogfjgkjaaGreatDoorMkC
import Derived.Test.YtmiboaogfjgkjaaGreatDoorWn
import Derived.Test.YtmiboaogfjgkjaaGreatDoorCt2
import Derived.Test.YtmiboaogfjgkjaaGreatDoorCt3
import Derived.Test.YtmiboaogfjgkjaaGreatDoorCtA0
import Derived.Test.YtmiboaogfjgkjaaGreatDoorCtA1
import Derived.Test.YtmiboaogfjgkjaaGreatDoorCtA2
import Derived.Test.YtmiboaogfjgkjaaGreatDoorCtA3
set_option linter.unusedSimpArgs false
set_option linter.unusedVariables false
namespace Go.Proofs.YtmiboaogfjgkjaaGreatDoor
open Go.RowKit Am
def w_FnExactFreshView (k : Nat) (a0 : TNotebook) (a1 : TRun) : Option Bool :=
  (w_szNotebook k a0 1048576).bind fun x1 =>
  if (decide (x1 < 0)) then
    some true
  else
    (w_szRun k a1 x1).bind fun x2 =>
    if (decide (x2 < 0)) then
      some true
    else
      (w_toNotebook k a0).bind fun x3 =>
      (w_toRun k a1).bind fun x4 =>
      (s_FreshView k x3 x4).bind fun x5 =>
      (w_toNotebook k a0).bind fun x6 =>
      (w_toRun k a1).bind fun x7 =>
      (i_FreshView k x6 x7).bind fun x8 =>
      (w_eqLineS k x8 x5).bind fun x9 =>
      if (!x9) then
        some false
      else
        (w_toNotebook k a0).bind fun x10 =>
        (w_eqNotebook k x6 x10).bind fun x11 =>
        if (!x11) then
          some false
        else
          (w_toRun k a1).bind fun x12 =>
          (w_eqRun k x7 x12).bind fun x13 =>
          if (!x13) then
            some false
          else
            (wr? TNotebook.markV TNotebook.cnV 1 x6).bind fun x14 =>
            (wr? TRun.markV TRun.cnV x14.2 x7).bind fun x15 =>
            (if (decide (x15.2 < 0)) then
              some true
            else
              (w_eqLineS k x8 x5).bind fun x17 =>
              some (!x17)).bind fun x16 =>
            if x16 then
              some false
            else
              (wr? TLine.markL TLine.cnL 1 x8).bind fun x18 =>
              (hd? 1 (TLine.cnL x8)).bind fun x19 =>
              if (decide (x19 < 0)) then
                some false
              else
                if (!decide (x19 = x18.2)) then
                  some false
                else
                  (w_toNotebook k a0).bind fun x20 =>
                  (w_toRun k a1).bind fun x21 =>
                  (i_FreshView k x20 x21).bind fun x22 =>
                  (w_eqLineS k x22 x5).bind fun x23 =>
                  if (!x23) then
                    some false
                  else
                    (hd? 1 (TLine.cnL x8)).bind fun x24 =>
                    if (decide (x24 < 0)) then
                      some false
                    else
                      if (!decide (x24 = x18.2)) then
                        some false
                      else
                        some true
set_option maxHeartbeats 4000000 in
set_option maxRecDepth 100000 in
theorem w_FnExactFreshView_ctr (k : Nat) (a0 : TNotebook) (a1 : TRun) (r : Bool) (hM : w_FnExactFreshView k a0 a1 = some r) : Ctr Tryz.prog 3 [.agg (TNotebook.c a0), .agg (TRun.c a1)] true [.one (.bool r)] := by
  unfold w_FnExactFreshView at hM
  refine walkM Tryz.func3 Tryz.ntmps3 Tryz.results3 fun N w0 hbad F => ?_
  refine AW_sr fun K h => ?_; simp (maxSteps := 9999999) [go_sem, F]; refine h _ ?_; refine AW_sr fun K h => ?_; simp (maxSteps := 9999999) [go_sem, F]; refine h _ ?_; obtain ⟨x1, e1, hM⟩ := bind_some hM; refine AW_sr fun K h => ?_; simp (maxSteps := 9999999) [go_sem, F]; refine by_c true (w_szNotebook_ctr k a0 1048576 x1 e1) ?_; simp (maxSteps := 9999999) [go_sem, F]; refine h _ ?_; refine AW_seq fun K2 hK2 => ?_
  refine AW_sr fun K h => ?_; simp (maxSteps := 9999999) [go_sem, F]; refine h _ ?_; refine AW_if hM (fun h3 hM => ?_) (fun h3 hM => ?_)
  · have g := h3; (try simp at g); have F := And.intro F (And.intro h3 (And.intro g (lT h3))); refine AW_sr fun K h => ?_; simp (maxSteps := 9999999) [go_sem, F]; refine h _ ?_; obtain rfl := si hM; refine AW_ret ?_; simp (maxSteps := 9999999) [go_sem, F]
  · have g := h3; (try simp at g); have F := And.intro F (And.intro h3 (And.intro g (lF h3))); refine AW_skip ?_; refine hK2 _ ?_; obtain ⟨x2, e4, hM⟩ := bind_some hM; refine AW_sr fun K h => ?_; simp (maxSteps := 9999999) [go_sem, F]; refine by_c true (w_szRun_ctr k a1 x1 x2 e4) ?_; simp (maxSteps := 9999999) [go_sem, F]; refine h _ ?_; refine AW_seq fun K5 hK5 => ?_; refine AW_sr fun K h => ?_; simp (maxSteps := 9999999) [go_sem, F]
    refine h _ ?_; refine AW_if hM (fun h6 hM => ?_) (fun h6 hM => ?_)
    · have g := h6; (try simp at g); have F := And.intro F (And.intro h6 (And.intro g (lT h6))); refine AW_sr fun K h => ?_; simp (maxSteps := 9999999) [go_sem, F]; refine h _ ?_; obtain rfl := si hM; refine AW_ret ?_; simp (maxSteps := 9999999) [go_sem, F]
    · have g := h6; (try simp at g); have F := And.intro F (And.intro h6 (And.intro g (lF h6))); refine AW_skip ?_; refine hK5 _ ?_; refine AW_seq fun K7 hK7 => ?_; refine AW_fz (σ' := ⟨92, [(2, .one (.box 2 0)), (3, .one (.box 3 0))], [(2, [.l (.sl (a0.cells.map TCell.c))]), (3, [.l (.sl (a1.values.map TValue.c)), .l (.sl (a1.tapes.map TTape.c)), .l (.int .i64 a1.steps)])], []⟩) ?_; obtain ⟨x3, e8, hM⟩ := bind_some hM
      obtain ⟨x4, e9, hM⟩ := bind_some hM; obtain ⟨x5, e10, hM⟩ := bind_some hM; refine AW_open [[], [0], [], [0, 1, 2], [0, 1, 2, 3], [0, 1, 2, 3, 4]] mixed (by kernel_rfl) ?_; simp (maxSteps := 9999999) [go_sem, F]; refine by_c true (w_toNotebook_ctr k a0 x3 e8) ?_; simp (maxSteps := 9999999) [go_sem, F]; refine by_c true (w_toRun_ctr k a1 x4 e9) ?_; simp (maxSteps := 9999999) [go_sem, F]; refine by_c true (s_FreshView_ctr k x3 x4 x5 e10) ?_
      simp (maxSteps := 9999999) [go_sem, F]; refine ⟨dOkK_sound (by kernel_rfl), ?_⟩; refine hK7 _ ?_; obtain ⟨x6, e11, hM⟩ := bind_some hM; refine AW_sr fun K h => ?_; simp (maxSteps := 9999999) [go_sem, F]; refine by_c true (w_toNotebook_ctr k a0 x6 e11) ?_; simp (maxSteps := 9999999) [go_sem, F]; refine h _ ?_; obtain ⟨x7, e12, hM⟩ := bind_some hM; refine AW_sr fun K h => ?_; simp (maxSteps := 9999999) [go_sem, F]
      refine by_c true (w_toRun_ctr k a1 x7 e12) ?_; simp (maxSteps := 9999999) [go_sem, F]; refine h _ ?_; obtain ⟨x8, e13, hM⟩ := bind_some hM; refine AW_sr fun K h => ?_; simp (maxSteps := 9999999) [go_sem, F]; refine by_c true (i_FreshView_ctr k x6 x7 x8 e13) ?_; simp (maxSteps := 9999999) [go_sem, F]; refine h _ ?_; refine AW_seq fun K14 hK14 => ?_; obtain ⟨x9, e15, hM⟩ := bind_some hM; refine AW_sr fun K h => ?_
      simp (maxSteps := 9999999) [go_sem, F]; refine by_c true (w_eqLineS_ctr k x8 x5 x9 e15) ?_; simp (maxSteps := 9999999) [go_sem, F]; refine h _ ?_; refine AW_if hM (fun h16 hM => ?_) (fun h16 hM => ?_)
      · have g := h16; (try simp at g); have F := And.intro F (And.intro h16 g); refine AW_sr fun K h => ?_; simp (maxSteps := 9999999) [go_sem, F]; refine h _ ?_; obtain rfl := si hM; refine AW_ret ?_; simp (maxSteps := 9999999) [go_sem, F]
      · have g := h16; (try simp at g); have F := And.intro F (And.intro h16 g); refine AW_skip ?_; refine hK14 _ ?_; refine AW_seq fun K17 hK17 => ?_; refine AW_seq fun K18 hK18 => ?_; refine AW_fz (σ' := ⟨92, [(2, .one (.box 2 0)), (3, .one (.box 3 0)), (6, .one (.own 1001792 x5.length)), (7, .one (.box 7 0)), (8, .one (.box 8 0)), (9, .one (.own 1002240 x8.length))], [(2, [.l (.sl (a0.cells.map TCell.c))]), (3, [.l (.sl (a1.values.map TValue.c)), .l (.sl (a1.tapes.map TTape.c)), .l (.int .i64 a1.steps)]), (7, [.own 1001920 x6.cells.length]), (8, [.own 1002048 x7.values.length, .own 1002049 x7.tapes.length, .l (.int .i64 x7.steps)])], [(1001792, some ⟨true, x5.map TLine.c⟩), (1001920, some ⟨true, x6.cells.map TCell.c⟩), (1002048, some ⟨true, x7.values.map TValue.c⟩), (1002049, some ⟨true, x7.tapes.map TTape.c⟩), (1002240, some ⟨true, x8.map TLine.c⟩)]⟩) ?_
        obtain ⟨x10, e19, hM⟩ := bind_some hM; obtain ⟨x11, e20, hM⟩ := bind_some hM; refine AW_open [[], [], [1], [0, 1, 2], [0, 1, 2, 3]] mixed (by kernel_rfl) ?_; simp (maxSteps := 9999999) [go_sem, F]; refine by_c true (w_toNotebook_ctr k a0 x10 e19) ?_; simp (maxSteps := 9999999) [go_sem, F]; refine by_c true (w_eqNotebook_ctr k x6 x10 x11 e20) ?_; simp (maxSteps := 9999999) [go_sem, F]; refine ⟨dOkK_sound (by kernel_rfl), ?_⟩
        refine hK18 _ ?_; refine AW_if hM (fun h21 hM => ?_) (fun h21 hM => ?_)
        · have g := h21; (try simp at g); have F := And.intro F (And.intro h21 g); refine AW_sr fun K h => ?_; simp (maxSteps := 9999999) [go_sem, F]; refine h _ ?_; obtain rfl := si hM; refine AW_ret ?_; simp (maxSteps := 9999999) [go_sem, F]
        · have g := h21; (try simp at g); have F := And.intro F (And.intro h21 g); refine AW_skip ?_; refine hK17 _ ?_; refine AW_seq fun K22 hK22 => ?_; refine AW_seq fun K23 hK23 => ?_; refine AW_fz (σ' := ⟨92, [(2, .one (.box 2 0)), (3, .one (.box 3 0)), (6, .one (.own 1001792 x5.length)), (7, .one (.box 7 0)), (8, .one (.box 8 0)), (9, .one (.own 1002240 x8.length))], [(2, [.l (.sl (a0.cells.map TCell.c))]), (3, [.l (.sl (a1.values.map TValue.c)), .l (.sl (a1.tapes.map TTape.c)), .l (.int .i64 a1.steps)]), (7, [.own 1001920 x6.cells.length]), (8, [.own 1002048 x7.values.length, .own 1002049 x7.tapes.length, .l (.int .i64 x7.steps)])], [(1001792, some ⟨true, x5.map TLine.c⟩), (1001920, some ⟨true, x6.cells.map TCell.c⟩), (1002048, some ⟨true, x7.values.map TValue.c⟩), (1002049, some ⟨true, x7.tapes.map TTape.c⟩), (1002240, some ⟨true, x8.map TLine.c⟩)]⟩) ?_
          obtain ⟨x12, e24, hM⟩ := bind_some hM; obtain ⟨x13, e25, hM⟩ := bind_some hM; refine AW_open [[], [], [1], [0, 1, 2], [0, 1, 2, 3]] mixed (by kernel_rfl) ?_; simp (maxSteps := 9999999) [go_sem, F]; refine by_c true (w_toRun_ctr k a1 x12 e24) ?_; simp (maxSteps := 9999999) [go_sem, F]; refine by_c true (w_eqRun_ctr k x7 x12 x13 e25) ?_; simp (maxSteps := 9999999) [go_sem, F]; refine ⟨dOkK_sound (by kernel_rfl), ?_⟩
          refine hK23 _ ?_; refine AW_if hM (fun h26 hM => ?_) (fun h26 hM => ?_)
          · have g := h26; (try simp at g); have F := And.intro F (And.intro h26 g); refine AW_sr fun K h => ?_; simp (maxSteps := 9999999) [go_sem, F]; refine h _ ?_; obtain rfl := si hM; refine AW_ret ?_; simp (maxSteps := 9999999) [go_sem, F]
          · have g := h26; (try simp at g); have F := And.intro F (And.intro h26 g); refine AW_skip ?_; refine hK22 _ ?_; refine AW_sr fun K h => ?_; simp (maxSteps := 9999999) [go_sem, F]; refine h _ ?_; refine AW_seq fun K27 hK27 => ?_; obtain ⟨x14, e28, hM⟩ := bind_some hM; obtain ⟨q29, q30, q31, q32⟩ := wr_spec e28; have F := And.intro F (And.intro q31 q32); have F := And.intro F (TNotebook.markV_len e28)
            refine AW_write hbad 2 ?_; simp (maxSteps := 9999999) [go_sem, F]; refine by_wr (mk_Notebook e28) (by simp (maxSteps := 9999999) [go_sem, F]) (by simp (maxSteps := 9999999) [go_sem, F]) ?_; simp (maxSteps := 9999999) [go_sem, F]; refine hK27 _ ?_; refine AW_seq fun K33 hK33 => ?_; obtain ⟨x15, e34, hM⟩ := bind_some hM; obtain ⟨q35, q36, q37, q38⟩ := wr_spec e34; have F := And.intro F (And.intro q37 q38)
            have F := And.intro F (TRun.markV_len e34); refine AW_write hbad 2 ?_; simp (maxSteps := 9999999) [go_sem, F]; refine by_wr (mk_Run e34) (by simp (maxSteps := 9999999) [go_sem, F]) (by simp (maxSteps := 9999999) [go_sem, F]) ?_; simp (maxSteps := 9999999) [go_sem, F]; refine hK33 _ ?_; refine AW_seq fun K39 hK39 => ?_; obtain ⟨e40, hU42, hR41⟩ := bind_some hM; clear hM; refine AW_mid (ι := Bool) (fun i => ⟨92, [(2, .one (.box 2 0)), (3, .one (.box 3 0)), (6, .one (.own 1001792 x5.length)), (9, .one (.own 1002240 x8.length)), (63, .one (.l (.bool i)))], [(2, [.l (.sl (a0.cells.map TCell.c))]), (3, [.l (.sl (a1.values.map TValue.c)), .l (.sl (a1.tapes.map TTape.c)), .l (.int .i64 a1.steps)])], [(1001792, some ⟨true, x5.map TLine.c⟩), (1002240, some ⟨true, x8.map TLine.c⟩)]⟩) (fun i => i = e40) ?_ ?_
            · intro K43 hK43; have hM := hU42; clear hU42; rcases ifM hM with ⟨h44, hM⟩ | ⟨h44, hM⟩
              · have g := h44; (try simp at g); have F := And.intro F (And.intro h44 (And.intro g (lT h44))); refine AW_region ?_; simp (maxSteps := 9999999) [go_sem, F]; obtain rfl := si hM; exact fin hK43 true rfl
              · have g := h44; (try simp at g); have F := And.intro F (And.intro h44 (And.intro g (lF h44))); obtain ⟨x17, e45, hM⟩ := bind_some hM; refine AW_region ?_; simp (maxSteps := 9999999) [go_sem, F]; refine by_c true (w_eqLineS_ctr k x8 x5 x17 e45) ?_; simp (maxSteps := 9999999) [go_sem, F]; obtain rfl := si hM; exact fin hK43 (!x17) rfl
            · rintro x16 rfl; have hM := hR41; (try dsimp only at hM); refine AW_if hM (fun h46 hM => ?_) (fun h46 hM => ?_)
              · have g := h46; (try simp at g); have F := And.intro F (And.intro h46 g); refine AW_sr fun K h => ?_; simp (maxSteps := 9999999) [go_sem, F]; refine h _ ?_; obtain rfl := si hM; refine AW_ret ?_; simp (maxSteps := 9999999) [go_sem, F]
              · have g := h46; (try simp at g); have F := And.intro F (And.intro h46 g); refine AW_skip ?_; refine hK39 _ ?_; refine AW_sr fun K h => ?_; simp (maxSteps := 9999999) [go_sem, F]; refine h _ ?_; refine AW_seq fun K47 hK47 => ?_; obtain ⟨x18, e48, hM⟩ := bind_some hM; obtain ⟨q49, q50, q51, q52⟩ := wr_spec e48; have F := And.intro F (And.intro q51 q52); have F := And.intro F (TLine.markL_len e48)
                refine AW_write hbad 2 ?_; simp (maxSteps := 9999999) [go_sem, F]; refine by_wr (mk_LineS e48) (by simp (maxSteps := 9999999) [go_sem, F]) (by simp (maxSteps := 9999999) [go_sem, F]) ?_; simp (maxSteps := 9999999) [go_sem, F]; refine hK47 _ ?_; refine AW_sr fun K h => ?_; simp (maxSteps := 9999999) [go_sem, F]; refine h _ ?_; refine AW_seq fun K53 hK53 => ?_; obtain ⟨x19, e54, hM⟩ := bind_some hM
                refine AW_region ?_; simp (maxSteps := 9999999) [go_sem, F]; refine by_c true (hd_LineS (k := 1) (ys := x18.1) e54 (by first | exact q49 | (rw [q49]; first | done | rfl))) ?_; simp (maxSteps := 9999999) [go_sem, F]; refine hK53 _ ?_; refine AW_seq fun K55 hK55 => ?_; refine AW_sr fun K h => ?_; simp (maxSteps := 9999999) [go_sem, F]; refine h _ ?_; refine AW_if hM (fun h56 hM => ?_) (fun h56 hM => ?_)
                · have g := h56; (try simp at g); have F := And.intro F (And.intro h56 (And.intro g (lT h56))); refine AW_sr fun K h => ?_; simp (maxSteps := 9999999) [go_sem, F]; refine h _ ?_; obtain rfl := si hM; refine AW_ret ?_; simp (maxSteps := 9999999) [go_sem, F]
                · have g := h56; (try simp at g); have F := And.intro F (And.intro h56 (And.intro g (lF h56))); refine AW_skip ?_; refine hK55 _ ?_; refine AW_seq fun K57 hK57 => ?_; refine AW_sr fun K h => ?_; simp (maxSteps := 9999999) [go_sem, F]; refine h _ ?_; refine AW_if hM (fun h58 hM => ?_) (fun h58 hM => ?_)
                  · have g := h58; (try simp at g); have F := And.intro F (And.intro h58 g); refine AW_sr fun K h => ?_; simp (maxSteps := 9999999) [go_sem, F]; refine h _ ?_; obtain rfl := si hM; refine AW_ret ?_; simp (maxSteps := 9999999) [go_sem, F]
                  · have g := h58; (try simp at g); have F := And.intro F (And.intro h58 g); refine AW_skip ?_; refine hK57 _ ?_; refine AW_seq fun K59 hK59 => ?_; refine AW_fz (σ' := ⟨92, [(2, .one (.box 2 0)), (3, .one (.box 3 0)), (6, .one (.own 1001792 x5.length)), (9, .one (.l (.sl (x18.1.map TLine.c)))), (11, .one (.l (.int .i64 x18.2)))], [(2, [.l (.sl (a0.cells.map TCell.c))]), (3, [.l (.sl (a1.values.map TValue.c)), .l (.sl (a1.tapes.map TTape.c)), .l (.int .i64 a1.steps)])], [(1001792, some ⟨true, x5.map TLine.c⟩)]⟩) ?_
                    obtain ⟨x20, e60, hM⟩ := bind_some hM; obtain ⟨x21, e61, hM⟩ := bind_some hM; obtain ⟨x22, e62, hM⟩ := bind_some hM; refine AW_open [[], [0], [], [0, 1, 2], [0, 1, 2, 3], [0, 1, 2, 3, 4]] mixed (by kernel_rfl) ?_; simp (maxSteps := 9999999) [go_sem, F]; refine by_c true (w_toNotebook_ctr k a0 x20 e60) ?_; simp (maxSteps := 9999999) [go_sem, F]; refine by_c true (w_toRun_ctr k a1 x21 e61) ?_
                    simp (maxSteps := 9999999) [go_sem, F]; refine by_c true (i_FreshView_ctr k x20 x21 x22 e62) ?_; simp (maxSteps := 9999999) [go_sem, F]; refine ⟨dOkK_sound (by kernel_rfl), ?_⟩; refine hK59 _ ?_; refine AW_seq fun K63 hK63 => ?_; obtain ⟨x23, e64, hM⟩ := bind_some hM; refine AW_sr fun K h => ?_; simp (maxSteps := 9999999) [go_sem, F]; refine by_c true (w_eqLineS_ctr k x22 x5 x23 e64) ?_
                    simp (maxSteps := 9999999) [go_sem, F]; refine h _ ?_; refine AW_if hM (fun h65 hM => ?_) (fun h65 hM => ?_)
                    · have g := h65; (try simp at g); have F := And.intro F (And.intro h65 g); refine AW_sr fun K h => ?_; simp (maxSteps := 9999999) [go_sem, F]; refine h _ ?_; obtain rfl := si hM; refine AW_ret ?_; simp (maxSteps := 9999999) [go_sem, F]
                    · have g := h65; (try simp at g); have F := And.intro F (And.intro h65 g); refine AW_skip ?_; refine hK63 _ ?_; refine AW_sr fun K h => ?_; simp (maxSteps := 9999999) [go_sem, F]; refine h _ ?_; refine AW_seq fun K66 hK66 => ?_; obtain ⟨x24, e67, hM⟩ := bind_some hM; refine AW_region ?_; simp (maxSteps := 9999999) [go_sem, F]; refine by_c true (hd_LineS (k := 1) (ys := x18.1) e67 (by first | exact q49 | (rw [q49]; first | done | rfl))) ?_
                      simp (maxSteps := 9999999) [go_sem, F]; refine hK66 _ ?_; refine AW_seq fun K68 hK68 => ?_; refine AW_sr fun K h => ?_; simp (maxSteps := 9999999) [go_sem, F]; refine h _ ?_; refine AW_if hM (fun h69 hM => ?_) (fun h69 hM => ?_)
                      · have g := h69; (try simp at g); have F := And.intro F (And.intro h69 (And.intro g (lT h69))); refine AW_sr fun K h => ?_; simp (maxSteps := 9999999) [go_sem, F]; refine h _ ?_; obtain rfl := si hM; refine AW_ret ?_; simp (maxSteps := 9999999) [go_sem, F]
                      · have g := h69; (try simp at g); have F := And.intro F (And.intro h69 (And.intro g (lF h69))); refine AW_skip ?_; refine hK68 _ ?_; refine AW_seq fun K70 hK70 => ?_; refine AW_sr fun K h => ?_; simp (maxSteps := 9999999) [go_sem, F]; refine h _ ?_; refine AW_if hM (fun h71 hM => ?_) (fun h71 hM => ?_)
                        · have g := h71; (try simp at g); have F := And.intro F (And.intro h71 g); refine AW_sr fun K h => ?_; simp (maxSteps := 9999999) [go_sem, F]; refine h _ ?_; obtain rfl := si hM; refine AW_ret ?_; simp (maxSteps := 9999999) [go_sem, F]
                        · have g := h71; (try simp at g); have F := And.intro F (And.intro h71 g); refine AW_skip ?_; refine hK70 _ ?_; refine AW_sr fun K h => ?_; simp (maxSteps := 9999999) [go_sem, F]; refine h _ ?_; obtain rfl := si hM; refine AW_ret ?_; simp (maxSteps := 9999999) [go_sem, F]
end Go.Proofs.YtmiboaogfjgkjaaGreatDoor
