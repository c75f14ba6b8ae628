/- The law FnExactNewEngine: its mirrored function, and its contract. Written by a program of mine. -/
import Derived.Test.YtmiboaogfjgkjaaMkC
import Derived.Test.YtmiboaogfjgkjaaWn
import Derived.Test.YtmiboaogfjgkjaaCt9
import Derived.Test.YtmiboaogfjgkjaaCtA4
import Derived.Test.YtmiboaogfjgkjaaCtA5
set_option linter.unusedSimpArgs false
set_option linter.unusedVariables false
namespace Go.Proofs.Ytmiboaogfjgkjaa
open Go.RowKit Am

def w_FnExactNewEngine (k : Nat) (a0 : TWorld) (a1 : Int) : Option Bool :=
  (w_szWorld k a0 1048576).bind fun x1 =>
  if (decide (x1 < 0)) then
    some true
  else
    (w_toWorld k a0).bind fun x2 =>
    (s_NewEngine k x2 a1).bind fun x3 =>
    (w_toWorld k a0).bind fun x4 =>
    (i_NewEngine k x4 a1).bind fun x5 =>
    ((w_eqEngine k x5.1 x3.1).bind fun x7 =>
    if (!x7) then
      some true
    else
      some (!(x5.2 == x3.2))).bind fun x6 =>
    if x6 then
      some false
    else
      (w_toWorld k a0).bind fun x8 =>
      (w_eqWorld k x4 x8).bind fun x9 =>
      if (!x9) then
        some false
      else
        (wr? TWorld.markV TWorld.cnV 1 x4).bind fun x10 =>
        (if (decide (x10.2 < 0)) then
          some true
        else
          (w_eqEngine k x5.1 x3.1).bind fun x12 =>
          if (!x12) then
            some true
          else
            some (!(x5.2 == x3.2))).bind fun x11 =>
        if x11 then
          some false
        else
          (wr? TEngine.markV TEngine.cnV 1 x5.1).bind fun x13 =>
          (hd? 1 (TEngine.cnV x5.1)).bind fun x14 =>
          if (decide (x14 < 0)) then
            some false
          else
            if (!decide (x14 = x13.2)) then
              some false
            else
              (w_toWorld k a0).bind fun x15 =>
              (i_NewEngine k x15 a1).bind fun x16 =>
              ((w_eqEngine k x16.1 x3.1).bind fun x18 =>
              if (!x18) then
                some true
              else
                some (!(x16.2 == x3.2))).bind fun x17 =>
              if x17 then
                some false
              else
                (hd? 1 (TEngine.cnV x5.1)).bind fun x19 =>
                if (decide (x19 < 0)) then
                  some false
                else
                  if (!decide (x19 = x13.2)) then
                    some false
                  else
                    some true
set_option maxHeartbeats 4000000 in
set_option maxRecDepth 100000 in
theorem w_FnExactNewEngine_ctr (k : Nat) (a0 : TWorld) (a1 : Int) (r : Bool) (hM : w_FnExactNewEngine k a0 a1 = some r) : Ctr Try.prog 8 [.agg (TWorld.c a0), .one (.int .i64 a1)] true [.one (.bool r)] := by
  unfold w_FnExactNewEngine at hM
  refine walkM Try.func8 Try.ntmps8 Try.results8 fun N w0 hbad F => ?_
  refine AW_sr fun K h => ?_; simp (maxSteps := 9999999) [go_sem, F]; refine h _ ?_; refine AW_sr fun K h => ?_; simp (maxSteps := 9999999) [go_sem, F]; refine h _ ?_; obtain ⟨x1, e1, hM⟩ := bind_some hM; refine AW_sr fun K h => ?_; simp (maxSteps := 9999999) [go_sem, F]; refine by_c true (w_szWorld_ctr k a0 1048576 x1 e1) ?_; simp (maxSteps := 9999999) [go_sem, F]; refine h _ ?_; refine AW_seq fun K2 hK2 => ?_
  refine AW_sr fun K h => ?_; simp (maxSteps := 9999999) [go_sem, F]; refine h _ ?_; refine AW_if hM (fun h3 hM => ?_) (fun h3 hM => ?_)
  · have g := h3; (try simp at g); have F := And.intro F (And.intro h3 (And.intro g (lT h3))); refine AW_sr fun K h => ?_; simp (maxSteps := 9999999) [go_sem, F]; refine h _ ?_; obtain rfl := si hM; refine AW_ret ?_; simp (maxSteps := 9999999) [go_sem, F]
  · have g := h3; (try simp at g); have F := And.intro F (And.intro h3 (And.intro g (lF h3))); refine AW_skip ?_; refine hK2 _ ?_; obtain ⟨x2, e4, hM⟩ := bind_some hM; obtain ⟨x3, e5, hM⟩ := bind_some hM; refine AW_sr fun K h => ?_; simp (maxSteps := 9999999) [go_sem, F]; refine by_c true (w_toWorld_ctr k a0 x2 e4) ?_; simp (maxSteps := 9999999) [go_sem, F]; refine by_c true (s_NewEngine_ctr k x2 a1 x3 e5) ?_
    simp (maxSteps := 9999999) [go_sem, F]; refine h _ ?_; obtain ⟨x4, e6, hM⟩ := bind_some hM; refine AW_sr fun K h => ?_; simp (maxSteps := 9999999) [go_sem, F]; refine by_c true (w_toWorld_ctr k a0 x4 e6) ?_; simp (maxSteps := 9999999) [go_sem, F]; refine h _ ?_; obtain ⟨x5, e7, hM⟩ := bind_some hM; refine AW_sr fun K h => ?_; simp (maxSteps := 9999999) [go_sem, F]; refine by_c true (i_NewEngine_ctr k x4 a1 x5 e7) ?_
    simp (maxSteps := 9999999) [go_sem, F]; refine h _ ?_; refine AW_seq fun K8 hK8 => ?_; obtain ⟨e9, hU11, hR10⟩ := bind_some hM; clear hM; refine AW_mid (ι := Bool) (fun i => ⟨101, [(1, .one (.l (.int .i64 a1))), (2, .one (.box 2 0)), (6, .one (.box 6 0)), (7, .one (.l (.bool x3.2))), (8, .one (.box 8 0)), (9, .one (.box 9 0)), (10, .one (.l (.bool x5.2))), (44, .one (.l (.bool i)))], [(2, [.l (.int .i64 a0.clock), .l (.int .i64 a0.seed), .l (.sl (a0.files.map TFile.c))]), (6, [.own 1001600 x3.1.notebook.cells.length, .l (.int .i64 x3.1.world.clock), .l (.int .i64 x3.1.world.seed), .own 1001601 x3.1.world.files.length, .own 1001602 x3.1.tapes.length, .own 1001603 x3.1.entries.length, .l (.int .i64 x3.1.next), .l (.int .i64 x3.1.limit), .l (.int .i64 x3.1.work)]), (8, [.l (.int .i64 x4.clock), .l (.int .i64 x4.seed), .own 1001856 x4.files.length]), (9, [.own 1002112 x5.1.notebook.cells.length, .l (.int .i64 x5.1.world.clock), .l (.int .i64 x5.1.world.seed), .own 1002113 x5.1.world.files.length, .own 1002114 x5.1.tapes.length, .own 1002115 x5.1.entries.length, .l (.int .i64 x5.1.next), .l (.int .i64 x5.1.limit), .l (.int .i64 x5.1.work)])], [(1001600, some ⟨true, x3.1.notebook.cells.map TCell.c⟩), (1001601, some ⟨true, x3.1.world.files.map TFile.c⟩), (1001602, some ⟨true, x3.1.tapes.map TTape.c⟩), (1001603, some ⟨true, x3.1.entries.map TEntry.c⟩), (1001856, some ⟨true, x4.files.map TFile.c⟩), (1002112, some ⟨true, x5.1.notebook.cells.map TCell.c⟩), (1002113, some ⟨true, x5.1.world.files.map TFile.c⟩), (1002114, some ⟨true, x5.1.tapes.map TTape.c⟩), (1002115, some ⟨true, x5.1.entries.map TEntry.c⟩)]⟩) (fun i => i = e9) ?_ ?_
    · intro K12 hK12; have hM := hU11; clear hU11; obtain ⟨x7, e13, hM⟩ := bind_some hM; rcases ifM hM with ⟨h14, hM⟩ | ⟨h14, hM⟩
      · have g := h14; (try simp at g); have F := And.intro F (And.intro h14 g); refine AW_region ?_; simp (maxSteps := 9999999) [go_sem, F]; refine by_c true (w_eqEngine_ctr k x5.1 x3.1 x7 e13) ?_; simp (maxSteps := 9999999) [go_sem, F]; obtain rfl := si hM; exact fin hK12 true rfl
      · have g := h14; (try simp at g); have F := And.intro F (And.intro h14 g); refine AW_region ?_; simp (maxSteps := 9999999) [go_sem, F]; refine by_c true (w_eqEngine_ctr k x5.1 x3.1 x7 e13) ?_; simp (maxSteps := 9999999) [go_sem, F]; obtain rfl := si hM; exact fin hK12 (!(x5.2 == x3.2)) rfl
    · rintro x6 rfl; have hM := hR10; (try dsimp only at hM); refine AW_if hM (fun h15 hM => ?_) (fun h15 hM => ?_)
      · have g := h15; (try simp at g); have F := And.intro F (And.intro h15 g); refine AW_sr fun K h => ?_; simp (maxSteps := 9999999) [go_sem, F]; refine h _ ?_; obtain rfl := si hM; refine AW_ret ?_; simp (maxSteps := 9999999) [go_sem, F]
      · have g := h15; (try simp at g); have F := And.intro F (And.intro h15 g); refine AW_skip ?_; refine hK8 _ ?_; refine AW_seq fun K16 hK16 => ?_; refine AW_seq fun K17 hK17 => ?_; refine AW_fz (σ' := ⟨101, [(1, .one (.l (.int .i64 a1))), (2, .one (.box 2 0)), (6, .one (.box 6 0)), (7, .one (.l (.bool x3.2))), (8, .one (.box 8 0)), (9, .one (.box 9 0)), (10, .one (.l (.bool x5.2)))], [(2, [.l (.int .i64 a0.clock), .l (.int .i64 a0.seed), .l (.sl (a0.files.map TFile.c))]), (6, [.own 1001600 x3.1.notebook.cells.length, .l (.int .i64 x3.1.world.clock), .l (.int .i64 x3.1.world.seed), .own 1001601 x3.1.world.files.length, .own 1001602 x3.1.tapes.length, .own 1001603 x3.1.entries.length, .l (.int .i64 x3.1.next), .l (.int .i64 x3.1.limit), .l (.int .i64 x3.1.work)]), (8, [.l (.int .i64 x4.clock), .l (.int .i64 x4.seed), .own 1001856 x4.files.length]), (9, [.own 1002112 x5.1.notebook.cells.length, .l (.int .i64 x5.1.world.clock), .l (.int .i64 x5.1.world.seed), .own 1002113 x5.1.world.files.length, .own 1002114 x5.1.tapes.length, .own 1002115 x5.1.entries.length, .l (.int .i64 x5.1.next), .l (.int .i64 x5.1.limit), .l (.int .i64 x5.1.work)])], [(1001600, some ⟨true, x3.1.notebook.cells.map TCell.c⟩), (1001601, some ⟨true, x3.1.world.files.map TFile.c⟩), (1001602, some ⟨true, x3.1.tapes.map TTape.c⟩), (1001603, some ⟨true, x3.1.entries.map TEntry.c⟩), (1001856, some ⟨true, x4.files.map TFile.c⟩), (1002112, some ⟨true, x5.1.notebook.cells.map TCell.c⟩), (1002113, some ⟨true, x5.1.world.files.map TFile.c⟩), (1002114, some ⟨true, x5.1.tapes.map TTape.c⟩), (1002115, some ⟨true, x5.1.entries.map TEntry.c⟩)]⟩) ?_
        obtain ⟨x8, e18, hM⟩ := bind_some hM; obtain ⟨x9, e19, hM⟩ := bind_some hM; refine AW_open [[], [], [1], [0, 1, 2], [0, 1, 2, 3]] mixed (by kernel_rfl) ?_; simp (maxSteps := 9999999) [go_sem, F]; refine by_c true (w_toWorld_ctr k a0 x8 e18) ?_; simp (maxSteps := 9999999) [go_sem, F]; refine by_c true (w_eqWorld_ctr k x4 x8 x9 e19) ?_; simp (maxSteps := 9999999) [go_sem, F]; refine ⟨dOkK_sound (by kernel_rfl), ?_⟩
        refine hK17 _ ?_; refine AW_if hM (fun h20 hM => ?_) (fun h20 hM => ?_)
        · have g := h20; (try simp at g); have F := And.intro F (And.intro h20 g); refine AW_sr fun K h => ?_; simp (maxSteps := 9999999) [go_sem, F]; refine h _ ?_; obtain rfl := si hM; refine AW_ret ?_; simp (maxSteps := 9999999) [go_sem, F]
        · have g := h20; (try simp at g); have F := And.intro F (And.intro h20 g); refine AW_skip ?_; refine hK16 _ ?_; refine AW_sr fun K h => ?_; simp (maxSteps := 9999999) [go_sem, F]; refine h _ ?_; refine AW_seq fun K21 hK21 => ?_; obtain ⟨x10, e22, hM⟩ := bind_some hM; obtain ⟨q23, q24, q25, q26⟩ := wr_spec e22; have F := And.intro F (And.intro q25 q26); have F := And.intro F (TWorld.markV_len e22)
          refine AW_write hbad 2 ?_; simp (maxSteps := 9999999) [go_sem, F]; refine by_wr (mk_World e22) (by simp (maxSteps := 9999999) [go_sem, F]) (by simp (maxSteps := 9999999) [go_sem, F]) ?_; simp (maxSteps := 9999999) [go_sem, F]; refine hK21 _ ?_; refine AW_seq fun K27 hK27 => ?_; obtain ⟨e28, hU30, hR29⟩ := bind_some hM; clear hM; refine AW_mid (ι := Bool) (fun i => ⟨101, [(1, .one (.l (.int .i64 a1))), (2, .one (.box 2 0)), (6, .one (.box 6 0)), (7, .one (.l (.bool x3.2))), (9, .one (.box 9 0)), (65, .one (.l (.bool i)))], [(2, [.l (.int .i64 a0.clock), .l (.int .i64 a0.seed), .l (.sl (a0.files.map TFile.c))]), (6, [.own 1001600 x3.1.notebook.cells.length, .l (.int .i64 x3.1.world.clock), .l (.int .i64 x3.1.world.seed), .own 1001601 x3.1.world.files.length, .own 1001602 x3.1.tapes.length, .own 1001603 x3.1.entries.length, .l (.int .i64 x3.1.next), .l (.int .i64 x3.1.limit), .l (.int .i64 x3.1.work)]), (9, [.own 1002112 x5.1.notebook.cells.length, .l (.int .i64 x5.1.world.clock), .l (.int .i64 x5.1.world.seed), .own 1002113 x5.1.world.files.length, .own 1002114 x5.1.tapes.length, .own 1002115 x5.1.entries.length, .l (.int .i64 x5.1.next), .l (.int .i64 x5.1.limit), .l (.int .i64 x5.1.work)])], [(1001600, some ⟨true, x3.1.notebook.cells.map TCell.c⟩), (1001601, some ⟨true, x3.1.world.files.map TFile.c⟩), (1001602, some ⟨true, x3.1.tapes.map TTape.c⟩), (1001603, some ⟨true, x3.1.entries.map TEntry.c⟩), (1002112, some ⟨true, x5.1.notebook.cells.map TCell.c⟩), (1002113, some ⟨true, x5.1.world.files.map TFile.c⟩), (1002114, some ⟨true, x5.1.tapes.map TTape.c⟩), (1002115, some ⟨true, x5.1.entries.map TEntry.c⟩)]⟩) (fun i => i = e28) ?_ ?_
          · intro K31 hK31; have hM := hU30; clear hU30; rcases ifM hM with ⟨h32, hM⟩ | ⟨h32, hM⟩
            · have g := h32; (try simp at g); have F := And.intro F (And.intro h32 (And.intro g (lT h32))); refine AW_region ?_; simp (maxSteps := 9999999) [go_sem, F]; obtain rfl := si hM; exact fin hK31 true rfl
            · have g := h32; (try simp at g); have F := And.intro F (And.intro h32 (And.intro g (lF h32))); obtain ⟨x12, e33, hM⟩ := bind_some hM; rcases ifM hM with ⟨h34, hM⟩ | ⟨h34, hM⟩
              · have g := h34; (try simp at g); have F := And.intro F (And.intro h34 g); refine AW_region ?_; simp (maxSteps := 9999999) [go_sem, F]; refine by_c true (w_eqEngine_ctr k x5.1 x3.1 x12 e33) ?_; simp (maxSteps := 9999999) [go_sem, F]; obtain rfl := si hM; exact fin hK31 true rfl
              · have g := h34; (try simp at g); have F := And.intro F (And.intro h34 g); refine AW_region ?_; simp (maxSteps := 9999999) [go_sem, F]; refine by_c true (w_eqEngine_ctr k x5.1 x3.1 x12 e33) ?_; simp (maxSteps := 9999999) [go_sem, F]; obtain rfl := si hM; exact fin hK31 (!(x5.2 == x3.2)) rfl
          · rintro x11 rfl; have hM := hR29; (try dsimp only at hM); refine AW_if hM (fun h35 hM => ?_) (fun h35 hM => ?_)
            · have g := h35; (try simp at g); have F := And.intro F (And.intro h35 g); refine AW_sr fun K h => ?_; simp (maxSteps := 9999999) [go_sem, F]; refine h _ ?_; obtain rfl := si hM; refine AW_ret ?_; simp (maxSteps := 9999999) [go_sem, F]
            · have g := h35; (try simp at g); have F := And.intro F (And.intro h35 g); refine AW_skip ?_; refine hK27 _ ?_; refine AW_sr fun K h => ?_; simp (maxSteps := 9999999) [go_sem, F]; refine h _ ?_; refine AW_seq fun K36 hK36 => ?_; obtain ⟨x13, e37, hM⟩ := bind_some hM; obtain ⟨q38, q39, q40, q41⟩ := wr_spec e37; have F := And.intro F (And.intro q40 q41); have F := And.intro F (TEngine.markV_len e37)
              refine AW_write hbad 2 ?_; simp (maxSteps := 9999999) [go_sem, F]; refine by_wr (mk_Engine e37) (by simp (maxSteps := 9999999) [go_sem, F]) (by simp (maxSteps := 9999999) [go_sem, F]) ?_; simp (maxSteps := 9999999) [go_sem, F]; refine hK36 _ ?_; refine AW_sr fun K h => ?_; simp (maxSteps := 9999999) [go_sem, F]; refine h _ ?_; refine AW_seq fun K42 hK42 => ?_; obtain ⟨x14, e43, hM⟩ := bind_some hM
              refine AW_region ?_; simp (maxSteps := 9999999) [go_sem, F]; refine by_c true (hd_Engine (k := 1) (y := (TEngine.mk x13.1.notebook (TWorld.mk x5.1.world.clock x5.1.world.seed x13.1.world.files) x13.1.tapes x13.1.entries x5.1.next x5.1.limit x5.1.work)) e43 (by first | exact q38 | (rw [q38]; first | done | rfl))) ?_; simp (maxSteps := 9999999) [go_sem, F]; refine hK42 _ ?_; refine AW_seq fun K44 hK44 => ?_
              refine AW_sr fun K h => ?_; simp (maxSteps := 9999999) [go_sem, F]; refine h _ ?_; refine AW_if hM (fun h45 hM => ?_) (fun h45 hM => ?_)
              · have g := h45; (try simp at g); have F := And.intro F (And.intro h45 (And.intro g (lT h45))); refine AW_sr fun K h => ?_; simp (maxSteps := 9999999) [go_sem, F]; refine h _ ?_; obtain rfl := si hM; refine AW_ret ?_; simp (maxSteps := 9999999) [go_sem, F]
              · have g := h45; (try simp at g); have F := And.intro F (And.intro h45 (And.intro g (lF h45))); refine AW_skip ?_; refine hK44 _ ?_; refine AW_seq fun K46 hK46 => ?_; refine AW_sr fun K h => ?_; simp (maxSteps := 9999999) [go_sem, F]; refine h _ ?_; refine AW_if hM (fun h47 hM => ?_) (fun h47 hM => ?_)
                · have g := h47; (try simp at g); have F := And.intro F (And.intro h47 g); refine AW_sr fun K h => ?_; simp (maxSteps := 9999999) [go_sem, F]; refine h _ ?_; obtain rfl := si hM; refine AW_ret ?_; simp (maxSteps := 9999999) [go_sem, F]
                · have g := h47; (try simp at g); have F := And.intro F (And.intro h47 g); refine AW_skip ?_; refine hK46 _ ?_; obtain ⟨x15, e48, hM⟩ := bind_some hM; obtain ⟨x16, e49, hM⟩ := bind_some hM; refine AW_sr fun K h => ?_; simp (maxSteps := 9999999) [go_sem, F]; refine by_c true (w_toWorld_ctr k a0 x15 e48) ?_; simp (maxSteps := 9999999) [go_sem, F]; refine by_c true (i_NewEngine_ctr k x15 a1 x16 e49) ?_
                  simp (maxSteps := 9999999) [go_sem, F]; refine h _ ?_; refine AW_seq fun K50 hK50 => ?_; obtain ⟨e51, hU53, hR52⟩ := bind_some hM; clear hM; refine AW_mid (ι := Bool) (fun i => ⟨101, [(9, .one (.box 9 0)), (12, .one (.l (.int .i64 x13.2))), (92, .one (.l (.bool i)))], [(9, [.l (.sl (x13.1.notebook.cells.map TCell.c)), .l (.int .i64 x5.1.world.clock), .l (.int .i64 x5.1.world.seed), .l (.sl (x13.1.world.files.map TFile.c)), .l (.sl (x13.1.tapes.map TTape.c)), .l (.sl (x13.1.entries.map TEntry.c)), .l (.int .i64 x5.1.next), .l (.int .i64 x5.1.limit), .l (.int .i64 x5.1.work)])], []⟩) (fun i => i = e51) ?_ ?_
                  · intro K54 hK54; have hM := hU53; clear hU53; obtain ⟨x18, e55, hM⟩ := bind_some hM; rcases ifM hM with ⟨h56, hM⟩ | ⟨h56, hM⟩
                    · have g := h56; (try simp at g); have F := And.intro F (And.intro h56 g); refine AW_region ?_; simp (maxSteps := 9999999) [go_sem, F]; refine by_c true (w_eqEngine_ctr k x16.1 x3.1 x18 e55) ?_; simp (maxSteps := 9999999) [go_sem, F]; obtain rfl := si hM; exact fin hK54 true rfl
                    · have g := h56; (try simp at g); have F := And.intro F (And.intro h56 g); refine AW_region ?_; simp (maxSteps := 9999999) [go_sem, F]; refine by_c true (w_eqEngine_ctr k x16.1 x3.1 x18 e55) ?_; simp (maxSteps := 9999999) [go_sem, F]; obtain rfl := si hM; exact fin hK54 (!(x16.2 == x3.2)) rfl
                  · rintro x17 rfl; have hM := hR52; (try dsimp only at hM); refine AW_if hM (fun h57 hM => ?_) (fun h57 hM => ?_)
                    · have g := h57; (try simp at g); have F := And.intro F (And.intro h57 g); refine AW_sr fun K h => ?_; simp (maxSteps := 9999999) [go_sem, F]; refine h _ ?_; obtain rfl := si hM; refine AW_ret ?_; simp (maxSteps := 9999999) [go_sem, F]
                    · have g := h57; (try simp at g); have F := And.intro F (And.intro h57 g); refine AW_skip ?_; refine hK50 _ ?_; refine AW_sr fun K h => ?_; simp (maxSteps := 9999999) [go_sem, F]; refine h _ ?_; refine AW_seq fun K58 hK58 => ?_; obtain ⟨x19, e59, hM⟩ := bind_some hM; refine AW_region ?_; simp (maxSteps := 9999999) [go_sem, F]; refine by_c true (hd_Engine (k := 1) (y := (TEngine.mk x13.1.notebook (TWorld.mk x5.1.world.clock x5.1.world.seed x13.1.world.files) x13.1.tapes x13.1.entries x5.1.next x5.1.limit x5.1.work)) e59 (by first | exact q38 | (rw [q38]; first | done | rfl))) ?_
                      simp (maxSteps := 9999999) [go_sem, F]; refine hK58 _ ?_; refine AW_seq fun K60 hK60 => ?_; refine AW_sr fun K h => ?_; simp (maxSteps := 9999999) [go_sem, F]; refine h _ ?_; refine AW_if hM (fun h61 hM => ?_) (fun h61 hM => ?_)
                      · have g := h61; (try simp at g); have F := And.intro F (And.intro h61 (And.intro g (lT h61))); refine AW_sr fun K h => ?_; simp (maxSteps := 9999999) [go_sem, F]; refine h _ ?_; obtain rfl := si hM; refine AW_ret ?_; simp (maxSteps := 9999999) [go_sem, F]
                      · have g := h61; (try simp at g); have F := And.intro F (And.intro h61 (And.intro g (lF h61))); refine AW_skip ?_; refine hK60 _ ?_; refine AW_seq fun K62 hK62 => ?_; refine AW_sr fun K h => ?_; simp (maxSteps := 9999999) [go_sem, F]; refine h _ ?_; refine AW_if hM (fun h63 hM => ?_) (fun h63 hM => ?_)
                        · have g := h63; (try simp at g); have F := And.intro F (And.intro h63 g); refine AW_sr fun K h => ?_; simp (maxSteps := 9999999) [go_sem, F]; refine h _ ?_; obtain rfl := si hM; refine AW_ret ?_; simp (maxSteps := 9999999) [go_sem, F]
                        · have g := h63; (try simp at g); have F := And.intro F (And.intro h63 g); refine AW_skip ?_; refine hK62 _ ?_; refine AW_sr fun K h => ?_; simp (maxSteps := 9999999) [go_sem, F]; refine h _ ?_; obtain rfl := si hM; refine AW_ret ?_; simp (maxSteps := 9999999) [go_sem, F]
end Go.Proofs.Ytmiboaogfjgkjaa
