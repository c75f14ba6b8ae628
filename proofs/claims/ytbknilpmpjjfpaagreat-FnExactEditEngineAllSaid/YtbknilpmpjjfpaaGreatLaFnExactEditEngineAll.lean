/- The law FnExactEditEngineAll: its mirrored function, and its contract. Written by a program of mine. -/
import Derived.Test.YtbknilpmpjjfpaaGreatMkC
import Derived.Test.YtbknilpmpjjfpaaGreatWn
import Derived.Test.YtbknilpmpjjfpaaGreatCt4
import Derived.Test.YtbknilpmpjjfpaaGreatCtA1
import Derived.Test.YtbknilpmpjjfpaaGreatCtA2
import Derived.Test.YtbknilpmpjjfpaaGreatCtA3
import Derived.Test.YtbknilpmpjjfpaaGreatCtA4
set_option linter.unusedSimpArgs false
set_option linter.unusedVariables false
namespace Go.Proofs.YtbknilpmpjjfpaaGreat
open Go.RowKit Am
def w_FnExactEditEngineAll (k : Nat) (a0 : TEngine) (a1 : List TEdit) : Option Bool :=
  (w_szEngine k a0 1048576).bind fun x1 =>
  if (decide (x1 < 0)) then
    some true
  else
    (w_szEditS k a1 x1).bind fun x2 =>
    if (decide (x2 < 0)) then
      some true
    else
      (w_toEngine k a0).bind fun x3 =>
      (w_toEditS k a1).bind fun x4 =>
      (s_EditEngineAll k x3 x4).bind fun x5 =>
      (w_toEngine k a0).bind fun x6 =>
      (w_toEditS k a1).bind fun x7 =>
      (i_EditEngineAll k x6 x7).bind fun x8 =>
      ((w_eqEngine k x8.1 x5.1).bind fun x10 =>
      if (!x10) then
        some true
      else
        (w_eqIntS k x8.2 x5.2).bind fun x11 =>
        some (!x11)).bind fun x9 =>
      if x9 then
        some false
      else
        (w_toEngine k a0).bind fun x12 =>
        (w_eqEngine k x6 x12).bind fun x13 =>
        if (!x13) then
          some false
        else
          (w_toEditS k a1).bind fun x14 =>
          (w_eqEditS k x7 x14).bind fun x15 =>
          if (!x15) then
            some false
          else
            (wr? TEngine.markV TEngine.cnV 1 x6).bind fun x16 =>
            (wr? TEdit.markL TEdit.cnL x16.2 x7).bind fun x17 =>
            (if (decide (x17.2 < 0)) then
              some true
            else
              (w_eqEngine k x8.1 x5.1).bind fun x19 =>
              if (!x19) then
                some true
              else
                (w_eqIntS k x8.2 x5.2).bind fun x20 =>
                some (!x20)).bind fun x18 =>
            if x18 then
              some false
            else
              (wr? TEngine.markV TEngine.cnV 1 x8.1).bind fun x21 =>
              (wr? intMarkL intCnL x21.2 x8.2).bind fun x22 =>
              (hd? 1 (TEngine.cnV x8.1)).bind fun x23 =>
              if (decide (x23 < 0)) then
                some false
              else
                (hd? x23 (intCnL x8.2)).bind fun x24 =>
                if (decide (x24 < 0)) then
                  some false
                else
                  if (!decide (x24 = x22.2)) then
                    some false
                  else
                    (w_toEngine k a0).bind fun x25 =>
                    (w_toEditS k a1).bind fun x26 =>
                    (i_EditEngineAll k x25 x26).bind fun x27 =>
                    ((w_eqEngine k x27.1 x5.1).bind fun x29 =>
                    if (!x29) then
                      some true
                    else
                      (w_eqIntS k x27.2 x5.2).bind fun x30 =>
                      some (!x30)).bind fun x28 =>
                    if x28 then
                      some false
                    else
                      (hd? 1 (TEngine.cnV x8.1)).bind fun x31 =>
                      if (decide (x31 < 0)) then
                        some false
                      else
                        (hd? x31 (intCnL x8.2)).bind fun x32 =>
                        if (decide (x32 < 0)) then
                          some false
                        else
                          if (!decide (x32 = x22.2)) then
                            some false
                          else
                            some true
set_option maxHeartbeats 4000000 in
set_option maxRecDepth 100000 in
theorem w_FnExactEditEngineAll_ctr (k : Nat) (a0 : TEngine) (a1 : List TEdit) (r : Bool) (hM : w_FnExactEditEngineAll k a0 a1 = some r) : Ctr Tryz.prog 4 [.agg (TEngine.c a0), .one (.sl (a1.map TEdit.c))] true [.one (.bool r)] := by
  unfold w_FnExactEditEngineAll at hM
  refine walkM Tryz.func4 Tryz.ntmps4 Tryz.results4 fun N w0 hbad F => ?_
  refine AW_sr fun K h => ?_; simp (maxSteps := 9999999) [go_sem, F]; refine h _ ?_; refine AW_sr fun K h => ?_; simp (maxSteps := 9999999) [go_sem, F]; refine h _ ?_; obtain ⟨x1, e1, hM⟩ := bind_some hM; refine AW_sr fun K h => ?_; simp (maxSteps := 9999999) [go_sem, F]; refine by_c true (w_szEngine_ctr k a0 1048576 x1 e1) ?_; simp (maxSteps := 9999999) [go_sem, F]; refine h _ ?_; refine AW_seq fun K2 hK2 => ?_
  refine AW_sr fun K h => ?_; simp (maxSteps := 9999999) [go_sem, F]; refine h _ ?_; refine AW_if hM (fun h3 hM => ?_) (fun h3 hM => ?_)
  · have g := h3; (try simp at g); have F := And.intro F (And.intro h3 (And.intro g (lT h3))); refine AW_sr fun K h => ?_; simp (maxSteps := 9999999) [go_sem, F]; refine h _ ?_; obtain rfl := si hM; refine AW_ret ?_; simp (maxSteps := 9999999) [go_sem, F]
  · have g := h3; (try simp at g); have F := And.intro F (And.intro h3 (And.intro g (lF h3))); refine AW_skip ?_; refine hK2 _ ?_; obtain ⟨x2, e4, hM⟩ := bind_some hM; refine AW_sr fun K h => ?_; simp (maxSteps := 9999999) [go_sem, F]; refine by_c true (w_szEditS_ctr k a1 x1 x2 e4) ?_; simp (maxSteps := 9999999) [go_sem, F]; refine h _ ?_; refine AW_seq fun K5 hK5 => ?_; refine AW_sr fun K h => ?_
    simp (maxSteps := 9999999) [go_sem, F]; refine h _ ?_; refine AW_if hM (fun h6 hM => ?_) (fun h6 hM => ?_)
    · have g := h6; (try simp at g); have F := And.intro F (And.intro h6 (And.intro g (lT h6))); refine AW_sr fun K h => ?_; simp (maxSteps := 9999999) [go_sem, F]; refine h _ ?_; obtain rfl := si hM; refine AW_ret ?_; simp (maxSteps := 9999999) [go_sem, F]
    · have g := h6; (try simp at g); have F := And.intro F (And.intro h6 (And.intro g (lF h6))); refine AW_skip ?_; refine hK5 _ ?_; obtain ⟨x3, e7, hM⟩ := bind_some hM; obtain ⟨x4, e8, hM⟩ := bind_some hM; obtain ⟨x5, e9, hM⟩ := bind_some hM; refine AW_sr fun K h => ?_; simp (maxSteps := 9999999) [go_sem, F]; refine by_c false (w_toEngine_ctr k a0 x3 e7) ?_; simp (maxSteps := 9999999) [go_sem, F]
      refine by_c false (w_toEditS_ctr k a1 x4 e8) ?_; simp (maxSteps := 9999999) [go_sem, F]; refine by_froz (s_EditEngineAll_ctr k x3 x4 x5 e9) ?_; simp (maxSteps := 9999999) [go_sem, F]; refine h _ ?_; obtain ⟨x6, e10, hM⟩ := bind_some hM; refine AW_sr fun K h => ?_; simp (maxSteps := 9999999) [go_sem, F]; refine by_c true (w_toEngine_ctr k a0 x6 e10) ?_; simp (maxSteps := 9999999) [go_sem, F]; refine h _ ?_
      obtain ⟨x7, e11, hM⟩ := bind_some hM; refine AW_sr fun K h => ?_; simp (maxSteps := 9999999) [go_sem, F]; refine by_c true (w_toEditS_ctr k a1 x7 e11) ?_; simp (maxSteps := 9999999) [go_sem, F]; refine h _ ?_; obtain ⟨x8, e12, hM⟩ := bind_some hM; refine AW_sr fun K h => ?_; simp (maxSteps := 9999999) [go_sem, F]; refine by_c true (i_EditEngineAll_ctr k x6 x7 x8 e12) ?_; simp (maxSteps := 9999999) [go_sem, F]
      refine h _ ?_; refine AW_seq fun K13 hK13 => ?_; obtain ⟨e14, hU16, hR15⟩ := bind_some hM; clear hM; refine AW_mid (ι := Bool) (fun i => ⟨135, [(1, .one (.l (.sl (a1.map TEdit.c)))), (2, .one (.box 2 0)), (6, .one (.box 6 0)), (7, .one (.l (.sl (x5.2.map iC)))), (8, .one (.box 8 0)), (9, .one (.own 1002432 x7.length)), (10, .one (.box 10 0)), (11, .one (.own 1002692 x8.2.length)), (54, .one (.l (.bool i)))], [(2, [.l (.sl (a0.notebook.cells.map TCell.c)), .l (.int .i64 a0.world.clock), .l (.int .i64 a0.world.seed), .l (.sl (a0.world.files.map TFile.c)), .l (.sl (a0.tapes.map TTape.c)), .l (.sl (a0.entries.map TEntry.c)), .l (.int .i64 a0.next), .l (.int .i64 a0.limit), .l (.int .i64 a0.work)]), (6, [.l (.sl (x5.1.notebook.cells.map TCell.c)), .l (.int .i64 x5.1.world.clock), .l (.int .i64 x5.1.world.seed), .l (.sl (x5.1.world.files.map TFile.c)), .l (.sl (x5.1.tapes.map TTape.c)), .l (.sl (x5.1.entries.map TEntry.c)), .l (.int .i64 x5.1.next), .l (.int .i64 x5.1.limit), .l (.int .i64 x5.1.work)]), (8, [.own 1002304 x6.notebook.cells.length, .l (.int .i64 x6.world.clock), .l (.int .i64 x6.world.seed), .own 1002305 x6.world.files.length, .own 1002306 x6.tapes.length, .own 1002307 x6.entries.length, .l (.int .i64 x6.next), .l (.int .i64 x6.limit), .l (.int .i64 x6.work)]), (10, [.own 1002688 x8.1.notebook.cells.length, .l (.int .i64 x8.1.world.clock), .l (.int .i64 x8.1.world.seed), .own 1002689 x8.1.world.files.length, .own 1002690 x8.1.tapes.length, .own 1002691 x8.1.entries.length, .l (.int .i64 x8.1.next), .l (.int .i64 x8.1.limit), .l (.int .i64 x8.1.work)])], [(1002304, some ⟨true, x6.notebook.cells.map TCell.c⟩), (1002305, some ⟨true, x6.world.files.map TFile.c⟩), (1002306, some ⟨true, x6.tapes.map TTape.c⟩), (1002307, some ⟨true, x6.entries.map TEntry.c⟩), (1002432, some ⟨true, x7.map TEdit.c⟩), (1002688, some ⟨true, x8.1.notebook.cells.map TCell.c⟩), (1002689, some ⟨true, x8.1.world.files.map TFile.c⟩), (1002690, some ⟨true, x8.1.tapes.map TTape.c⟩), (1002691, some ⟨true, x8.1.entries.map TEntry.c⟩), (1002692, some ⟨true, x8.2.map iC⟩)]⟩) (fun i => i = e14) ?_ ?_
      · intro K17 hK17; have hM := hU16; clear hU16; obtain ⟨x10, e18, hM⟩ := bind_some hM; rcases ifM hM with ⟨h19, hM⟩ | ⟨h19, hM⟩
        · have g := h19; (try simp at g); have F := And.intro F (And.intro h19 g); refine AW_region ?_; simp (maxSteps := 9999999) [go_sem, F]; refine by_c true (w_eqEngine_ctr k x8.1 x5.1 x10 e18) ?_; simp (maxSteps := 9999999) [go_sem, F]; obtain rfl := si hM; exact fin hK17 true rfl
        · have g := h19; (try simp at g); have F := And.intro F (And.intro h19 g); obtain ⟨x11, e20, hM⟩ := bind_some hM; refine AW_region ?_; simp (maxSteps := 9999999) [go_sem, F]; refine by_c true (w_eqEngine_ctr k x8.1 x5.1 x10 e18) ?_; simp (maxSteps := 9999999) [go_sem, F]; refine by_c true (w_eqIntS_ctr k x8.2 x5.2 x11 e20) ?_; simp (maxSteps := 9999999) [go_sem, F]; obtain rfl := si hM; exact fin hK17 (!x11) rfl
      · rintro x9 rfl; have hM := hR15; (try dsimp only at hM); refine AW_if hM (fun h21 hM => ?_) (fun h21 hM => ?_)
        · have g := h21; (try simp at g); have F := And.intro F (And.intro h21 g); refine AW_sr fun K h => ?_; simp (maxSteps := 9999999) [go_sem, F]; refine h _ ?_; obtain rfl := si hM; refine AW_ret ?_; simp (maxSteps := 9999999) [go_sem, F]
        · have g := h21; (try simp at g); have F := And.intro F (And.intro h21 g); refine AW_skip ?_; refine hK13 _ ?_; refine AW_seq fun K22 hK22 => ?_; refine AW_seq fun K23 hK23 => ?_; refine AW_fz (σ' := ⟨135, [(1, .one (.l (.sl (a1.map TEdit.c)))), (2, .one (.box 2 0)), (6, .one (.box 6 0)), (7, .one (.l (.sl (x5.2.map iC)))), (8, .one (.box 8 0)), (9, .one (.own 1002432 x7.length)), (10, .one (.box 10 0)), (11, .one (.own 1002692 x8.2.length))], [(2, [.l (.sl (a0.notebook.cells.map TCell.c)), .l (.int .i64 a0.world.clock), .l (.int .i64 a0.world.seed), .l (.sl (a0.world.files.map TFile.c)), .l (.sl (a0.tapes.map TTape.c)), .l (.sl (a0.entries.map TEntry.c)), .l (.int .i64 a0.next), .l (.int .i64 a0.limit), .l (.int .i64 a0.work)]), (6, [.l (.sl (x5.1.notebook.cells.map TCell.c)), .l (.int .i64 x5.1.world.clock), .l (.int .i64 x5.1.world.seed), .l (.sl (x5.1.world.files.map TFile.c)), .l (.sl (x5.1.tapes.map TTape.c)), .l (.sl (x5.1.entries.map TEntry.c)), .l (.int .i64 x5.1.next), .l (.int .i64 x5.1.limit), .l (.int .i64 x5.1.work)]), (8, [.own 1002304 x6.notebook.cells.length, .l (.int .i64 x6.world.clock), .l (.int .i64 x6.world.seed), .own 1002305 x6.world.files.length, .own 1002306 x6.tapes.length, .own 1002307 x6.entries.length, .l (.int .i64 x6.next), .l (.int .i64 x6.limit), .l (.int .i64 x6.work)]), (10, [.own 1002688 x8.1.notebook.cells.length, .l (.int .i64 x8.1.world.clock), .l (.int .i64 x8.1.world.seed), .own 1002689 x8.1.world.files.length, .own 1002690 x8.1.tapes.length, .own 1002691 x8.1.entries.length, .l (.int .i64 x8.1.next), .l (.int .i64 x8.1.limit), .l (.int .i64 x8.1.work)])], [(1002304, some ⟨true, x6.notebook.cells.map TCell.c⟩), (1002305, some ⟨true, x6.world.files.map TFile.c⟩), (1002306, some ⟨true, x6.tapes.map TTape.c⟩), (1002307, some ⟨true, x6.entries.map TEntry.c⟩), (1002432, some ⟨true, x7.map TEdit.c⟩), (1002688, some ⟨true, x8.1.notebook.cells.map TCell.c⟩), (1002689, some ⟨true, x8.1.world.files.map TFile.c⟩), (1002690, some ⟨true, x8.1.tapes.map TTape.c⟩), (1002691, some ⟨true, x8.1.entries.map TEntry.c⟩), (1002692, some ⟨true, x8.2.map iC⟩)]⟩) ?_
          obtain ⟨x12, e24, hM⟩ := bind_some hM; obtain ⟨x13, e25, hM⟩ := bind_some hM; refine AW_open [[], [], [1], [0, 1, 2], [0, 1, 2, 3]] mixed (by kernel_rfl) ?_; simp (maxSteps := 9999999) [go_sem, F]; refine by_c true (w_toEngine_ctr k a0 x12 e24) ?_; simp (maxSteps := 9999999) [go_sem, F]; refine by_c true (w_eqEngine_ctr k x6 x12 x13 e25) ?_; simp (maxSteps := 9999999) [go_sem, F]; refine ⟨dOkK_sound (by kernel_rfl), ?_⟩
          refine hK23 _ ?_; refine AW_if hM (fun h26 hM => ?_) (fun h26 hM => ?_)
          · have g := h26; (try simp at g); have F := And.intro F (And.intro h26 g); refine AW_sr fun K h => ?_; simp (maxSteps := 9999999) [go_sem, F]; refine h _ ?_; obtain rfl := si hM; refine AW_ret ?_; simp (maxSteps := 9999999) [go_sem, F]
          · have g := h26; (try simp at g); have F := And.intro F (And.intro h26 g); refine AW_skip ?_; refine hK22 _ ?_; refine AW_seq fun K27 hK27 => ?_; obtain ⟨x14, e28, hM⟩ := bind_some hM; obtain ⟨x15, e29, hM⟩ := bind_some hM; refine AW_sr fun K h => ?_; simp (maxSteps := 9999999) [go_sem, F]; refine by_c true (w_toEditS_ctr k a1 x14 e28) ?_; simp (maxSteps := 9999999) [go_sem, F]; refine by_c true (w_eqEditS_ctr k x7 x14 x15 e29) ?_
            simp (maxSteps := 9999999) [go_sem, F]; refine h _ ?_; refine AW_if hM (fun h30 hM => ?_) (fun h30 hM => ?_)
            · have g := h30; (try simp at g); have F := And.intro F (And.intro h30 g); refine AW_sr fun K h => ?_; simp (maxSteps := 9999999) [go_sem, F]; refine h _ ?_; obtain rfl := si hM; refine AW_ret ?_; simp (maxSteps := 9999999) [go_sem, F]
            · have g := h30; (try simp at g); have F := And.intro F (And.intro h30 g); refine AW_skip ?_; refine hK27 _ ?_; refine AW_sr fun K h => ?_; simp (maxSteps := 9999999) [go_sem, F]; refine h _ ?_; refine AW_seq fun K31 hK31 => ?_; obtain ⟨x16, e32, hM⟩ := bind_some hM; obtain ⟨q33, q34, q35, q36⟩ := wr_spec e32; have F := And.intro F (And.intro q35 q36); have F := And.intro F (TEngine.markV_len e32)
              refine AW_write hbad 2 ?_; simp (maxSteps := 9999999) [go_sem, F]; refine by_wr (mk_Engine e32) (by simp (maxSteps := 9999999) [go_sem, F]) (by simp (maxSteps := 9999999) [go_sem, F]) ?_; simp (maxSteps := 9999999) [go_sem, F]; refine hK31 _ ?_; refine AW_seq fun K37 hK37 => ?_; obtain ⟨x17, e38, hM⟩ := bind_some hM; obtain ⟨q39, q40, q41, q42⟩ := wr_spec e38; have F := And.intro F (And.intro q41 q42)
              have F := And.intro F (TEdit.markL_len e38); refine AW_write hbad 2 ?_; simp (maxSteps := 9999999) [go_sem, F]; refine by_wr (mk_EditS e38) (by simp (maxSteps := 9999999) [go_sem, F]) (by simp (maxSteps := 9999999) [go_sem, F]) ?_; simp (maxSteps := 9999999) [go_sem, F]; refine hK37 _ ?_; refine AW_seq fun K43 hK43 => ?_; obtain ⟨e44, hU46, hR45⟩ := bind_some hM; clear hM; refine AW_mid (ι := Bool) (fun i => ⟨135, [(1, .one (.l (.sl (a1.map TEdit.c)))), (2, .one (.box 2 0)), (6, .one (.box 6 0)), (7, .one (.l (.sl (x5.2.map iC)))), (10, .one (.box 10 0)), (11, .one (.own 1002692 x8.2.length)), (84, .one (.l (.bool i)))], [(2, [.l (.sl (a0.notebook.cells.map TCell.c)), .l (.int .i64 a0.world.clock), .l (.int .i64 a0.world.seed), .l (.sl (a0.world.files.map TFile.c)), .l (.sl (a0.tapes.map TTape.c)), .l (.sl (a0.entries.map TEntry.c)), .l (.int .i64 a0.next), .l (.int .i64 a0.limit), .l (.int .i64 a0.work)]), (6, [.l (.sl (x5.1.notebook.cells.map TCell.c)), .l (.int .i64 x5.1.world.clock), .l (.int .i64 x5.1.world.seed), .l (.sl (x5.1.world.files.map TFile.c)), .l (.sl (x5.1.tapes.map TTape.c)), .l (.sl (x5.1.entries.map TEntry.c)), .l (.int .i64 x5.1.next), .l (.int .i64 x5.1.limit), .l (.int .i64 x5.1.work)]), (10, [.own 1002688 x8.1.notebook.cells.length, .l (.int .i64 x8.1.world.clock), .l (.int .i64 x8.1.world.seed), .own 1002689 x8.1.world.files.length, .own 1002690 x8.1.tapes.length, .own 1002691 x8.1.entries.length, .l (.int .i64 x8.1.next), .l (.int .i64 x8.1.limit), .l (.int .i64 x8.1.work)])], [(1002688, some ⟨true, x8.1.notebook.cells.map TCell.c⟩), (1002689, some ⟨true, x8.1.world.files.map TFile.c⟩), (1002690, some ⟨true, x8.1.tapes.map TTape.c⟩), (1002691, some ⟨true, x8.1.entries.map TEntry.c⟩), (1002692, some ⟨true, x8.2.map iC⟩)]⟩) (fun i => i = e44) ?_ ?_
              · intro K47 hK47; have hM := hU46; clear hU46; rcases ifM hM with ⟨h48, hM⟩ | ⟨h48, hM⟩
                · have g := h48; (try simp at g); have F := And.intro F (And.intro h48 (And.intro g (lT h48))); refine AW_region ?_; simp (maxSteps := 9999999) [go_sem, F]; obtain rfl := si hM; exact fin hK47 true rfl
                · have g := h48; (try simp at g); have F := And.intro F (And.intro h48 (And.intro g (lF h48))); obtain ⟨x19, e49, hM⟩ := bind_some hM; rcases ifM hM with ⟨h50, hM⟩ | ⟨h50, hM⟩
                  · have g := h50; (try simp at g); have F := And.intro F (And.intro h50 g); refine AW_region ?_; simp (maxSteps := 9999999) [go_sem, F]; refine by_c true (w_eqEngine_ctr k x8.1 x5.1 x19 e49) ?_; simp (maxSteps := 9999999) [go_sem, F]; obtain rfl := si hM; exact fin hK47 true rfl
                  · have g := h50; (try simp at g); have F := And.intro F (And.intro h50 g); obtain ⟨x20, e51, hM⟩ := bind_some hM; refine AW_region ?_; simp (maxSteps := 9999999) [go_sem, F]; refine by_c true (w_eqEngine_ctr k x8.1 x5.1 x19 e49) ?_; simp (maxSteps := 9999999) [go_sem, F]; refine by_c true (w_eqIntS_ctr k x8.2 x5.2 x20 e51) ?_; simp (maxSteps := 9999999) [go_sem, F]; obtain rfl := si hM
                    exact fin hK47 (!x20) rfl
              · rintro x18 rfl; have hM := hR45; (try dsimp only at hM); refine AW_if hM (fun h52 hM => ?_) (fun h52 hM => ?_)
                · have g := h52; (try simp at g); have F := And.intro F (And.intro h52 g); refine AW_sr fun K h => ?_; simp (maxSteps := 9999999) [go_sem, F]; refine h _ ?_; obtain rfl := si hM; refine AW_ret ?_; simp (maxSteps := 9999999) [go_sem, F]
                · have g := h52; (try simp at g); have F := And.intro F (And.intro h52 g); refine AW_skip ?_; refine hK43 _ ?_; refine AW_sr fun K h => ?_; simp (maxSteps := 9999999) [go_sem, F]; refine h _ ?_; refine AW_seq fun K53 hK53 => ?_; obtain ⟨x21, e54, hM⟩ := bind_some hM; obtain ⟨q55, q56, q57, q58⟩ := wr_spec e54; have F := And.intro F (And.intro q57 q58); have F := And.intro F (TEngine.markV_len e54)
                  refine AW_write hbad 2 ?_; simp (maxSteps := 9999999) [go_sem, F]; refine by_wr (mk_Engine e54) (by simp (maxSteps := 9999999) [go_sem, F]) (by simp (maxSteps := 9999999) [go_sem, F]) ?_; simp (maxSteps := 9999999) [go_sem, F]; refine hK53 _ ?_; refine AW_seq fun K59 hK59 => ?_; obtain ⟨x22, e60, hM⟩ := bind_some hM; obtain ⟨q61, q62, q63, q64⟩ := wr_spec e60; have F := And.intro F (And.intro q63 q64)
                  have F := And.intro F (intMarkL_len e60); refine AW_write hbad 2 ?_; simp (maxSteps := 9999999) [go_sem, F]; refine by_wr (mk_IntS e60) (by simp (maxSteps := 9999999) [go_sem, F]) (by simp (maxSteps := 9999999) [go_sem, F]) ?_; simp (maxSteps := 9999999) [go_sem, F]; refine hK59 _ ?_; refine AW_sr fun K h => ?_; simp (maxSteps := 9999999) [go_sem, F]; refine h _ ?_; refine AW_seq fun K65 hK65 => ?_
                  obtain ⟨x23, e66, hM⟩ := bind_some hM; have z67 : x23 = x21.2 := (hd_spec e66).1.trans (q56.symm); refine AW_region ?_; simp (maxSteps := 9999999) [go_sem, F]; refine by_c true (hd_Engine (k := 1) (y := (TEngine.mk x21.1.notebook (TWorld.mk x8.1.world.clock x8.1.world.seed x21.1.world.files) x21.1.tapes x21.1.entries x8.1.next x8.1.limit x8.1.work)) e66 (by first | exact q55 | (rw [q55]; first | done | rfl))) ?_
                  simp (maxSteps := 9999999) [go_sem, F]; refine hK65 _ ?_; refine AW_seq fun K68 hK68 => ?_; refine AW_sr fun K h => ?_; simp (maxSteps := 9999999) [go_sem, F]; refine h _ ?_; refine AW_if hM (fun h69 hM => ?_) (fun h69 hM => ?_)
                  · have g := h69; (try simp at g); have F := And.intro F (And.intro h69 (And.intro g (lT h69))); refine AW_sr fun K h => ?_; simp (maxSteps := 9999999) [go_sem, F]; refine h _ ?_; obtain rfl := si hM; refine AW_ret ?_; simp (maxSteps := 9999999) [go_sem, F]
                  · have g := h69; (try simp at g); have F := And.intro F (And.intro h69 (And.intro g (lF h69))); refine AW_skip ?_; refine hK68 _ ?_; refine AW_seq fun K70 hK70 => ?_; obtain ⟨x24, e71, hM⟩ := bind_some hM; have z72 : x24 = x22.2 := (hd_spec e71).1.trans (by rw [q62, z67]); refine AW_region ?_; simp (maxSteps := 9999999) [go_sem, F]; refine by_c true (hd_IntS (k := x23) (ys := x22.1) e71 (by rw [q61, z67])) ?_
                    simp (maxSteps := 9999999) [go_sem, F]; refine hK70 _ ?_; refine AW_seq fun K73 hK73 => ?_; refine AW_sr fun K h => ?_; simp (maxSteps := 9999999) [go_sem, F]; refine h _ ?_; refine AW_if hM (fun h74 hM => ?_) (fun h74 hM => ?_)
                    · have g := h74; (try simp at g); have F := And.intro F (And.intro h74 (And.intro g (lT h74))); refine AW_sr fun K h => ?_; simp (maxSteps := 9999999) [go_sem, F]; refine h _ ?_; obtain rfl := si hM; refine AW_ret ?_; simp (maxSteps := 9999999) [go_sem, F]
                    · have g := h74; (try simp at g); have F := And.intro F (And.intro h74 (And.intro g (lF h74))); refine AW_skip ?_; refine hK73 _ ?_; refine AW_seq fun K75 hK75 => ?_; refine AW_sr fun K h => ?_; simp (maxSteps := 9999999) [go_sem, F]; refine h _ ?_; refine AW_if hM (fun h76 hM => ?_) (fun h76 hM => ?_)
                      · have g := h76; (try simp at g); have F := And.intro F (And.intro h76 g); refine AW_sr fun K h => ?_; simp (maxSteps := 9999999) [go_sem, F]; refine h _ ?_; obtain rfl := si hM; refine AW_ret ?_; simp (maxSteps := 9999999) [go_sem, F]
                      · have g := h76; (try simp at g); have F := And.intro F (And.intro h76 g); refine AW_skip ?_; refine hK75 _ ?_; obtain ⟨x25, e77, hM⟩ := bind_some hM; obtain ⟨x26, e78, hM⟩ := bind_some hM; obtain ⟨x27, e79, hM⟩ := bind_some hM; refine AW_sr fun K h => ?_; simp (maxSteps := 9999999) [go_sem, F]; refine by_c true (w_toEngine_ctr k a0 x25 e77) ?_; simp (maxSteps := 9999999) [go_sem, F]
                        refine by_c true (w_toEditS_ctr k a1 x26 e78) ?_; simp (maxSteps := 9999999) [go_sem, F]; refine by_c true (i_EditEngineAll_ctr k x25 x26 x27 e79) ?_; simp (maxSteps := 9999999) [go_sem, F]; refine h _ ?_; refine AW_seq fun K80 hK80 => ?_; obtain ⟨e81, hU83, hR82⟩ := bind_some hM; clear hM; refine AW_mid (ι := Bool) (fun i => ⟨135, [(10, .one (.box 10 0)), (11, .one (.l (.sl (x22.1.map iC)))), (13, .one (.l (.int .i64 x22.2))), (121, .one (.l (.bool i)))], [(10, [.l (.sl (x21.1.notebook.cells.map TCell.c)), .l (.int .i64 x8.1.world.clock), .l (.int .i64 x8.1.world.seed), .l (.sl (x21.1.world.files.map TFile.c)), .l (.sl (x21.1.tapes.map TTape.c)), .l (.sl (x21.1.entries.map TEntry.c)), .l (.int .i64 x8.1.next), .l (.int .i64 x8.1.limit), .l (.int .i64 x8.1.work)])], []⟩) (fun i => i = e81) ?_ ?_
                        · intro K84 hK84; have hM := hU83; clear hU83; obtain ⟨x29, e85, hM⟩ := bind_some hM; rcases ifM hM with ⟨h86, hM⟩ | ⟨h86, hM⟩
                          · have g := h86; (try simp at g); have F := And.intro F (And.intro h86 g); refine AW_region ?_; simp (maxSteps := 9999999) [go_sem, F]; refine by_c true (w_eqEngine_ctr k x27.1 x5.1 x29 e85) ?_; simp (maxSteps := 9999999) [go_sem, F]; obtain rfl := si hM; exact fin hK84 true rfl
                          · have g := h86; (try simp at g); have F := And.intro F (And.intro h86 g); obtain ⟨x30, e87, hM⟩ := bind_some hM; refine AW_region ?_; simp (maxSteps := 9999999) [go_sem, F]; refine by_c true (w_eqEngine_ctr k x27.1 x5.1 x29 e85) ?_; simp (maxSteps := 9999999) [go_sem, F]; refine by_c true (w_eqIntS_ctr k x27.2 x5.2 x30 e87) ?_; simp (maxSteps := 9999999) [go_sem, F]; obtain rfl := si hM
                            exact fin hK84 (!x30) rfl
                        · rintro x28 rfl; have hM := hR82; (try dsimp only at hM); refine AW_if hM (fun h88 hM => ?_) (fun h88 hM => ?_)
                          · have g := h88; (try simp at g); have F := And.intro F (And.intro h88 g); refine AW_sr fun K h => ?_; simp (maxSteps := 9999999) [go_sem, F]; refine h _ ?_; obtain rfl := si hM; refine AW_ret ?_; simp (maxSteps := 9999999) [go_sem, F]
                          · have g := h88; (try simp at g); have F := And.intro F (And.intro h88 g); refine AW_skip ?_; refine hK80 _ ?_; refine AW_sr fun K h => ?_; simp (maxSteps := 9999999) [go_sem, F]; refine h _ ?_; refine AW_seq fun K89 hK89 => ?_; obtain ⟨x31, e90, hM⟩ := bind_some hM; have z91 : x31 = x21.2 := (hd_spec e90).1.trans (q56.symm); refine AW_region ?_; simp (maxSteps := 9999999) [go_sem, F]
                            refine by_c true (hd_Engine (k := 1) (y := (TEngine.mk x21.1.notebook (TWorld.mk x8.1.world.clock x8.1.world.seed x21.1.world.files) x21.1.tapes x21.1.entries x8.1.next x8.1.limit x8.1.work)) e90 (by first | exact q55 | (rw [q55]; first | done | rfl))) ?_; simp (maxSteps := 9999999) [go_sem, F]; refine hK89 _ ?_; refine AW_seq fun K92 hK92 => ?_; refine AW_sr fun K h => ?_
                            simp (maxSteps := 9999999) [go_sem, F]; refine h _ ?_; refine AW_if hM (fun h93 hM => ?_) (fun h93 hM => ?_)
                            · have g := h93; (try simp at g); have F := And.intro F (And.intro h93 (And.intro g (lT h93))); refine AW_sr fun K h => ?_; simp (maxSteps := 9999999) [go_sem, F]; refine h _ ?_; obtain rfl := si hM; refine AW_ret ?_; simp (maxSteps := 9999999) [go_sem, F]
                            · have g := h93; (try simp at g); have F := And.intro F (And.intro h93 (And.intro g (lF h93))); refine AW_skip ?_; refine hK92 _ ?_; refine AW_seq fun K94 hK94 => ?_; obtain ⟨x32, e95, hM⟩ := bind_some hM; have z96 : x32 = x22.2 := (hd_spec e95).1.trans (by rw [q62, z91]); refine AW_region ?_; simp (maxSteps := 9999999) [go_sem, F]; refine by_c true (hd_IntS (k := x31) (ys := x22.1) e95 (by rw [q61, z91])) ?_
                              simp (maxSteps := 9999999) [go_sem, F]; refine hK94 _ ?_; refine AW_seq fun K97 hK97 => ?_; refine AW_sr fun K h => ?_; simp (maxSteps := 9999999) [go_sem, F]; refine h _ ?_; refine AW_if hM (fun h98 hM => ?_) (fun h98 hM => ?_)
                              · have g := h98; (try simp at g); have F := And.intro F (And.intro h98 (And.intro g (lT h98))); refine AW_sr fun K h => ?_; simp (maxSteps := 9999999) [go_sem, F]; refine h _ ?_; obtain rfl := si hM; refine AW_ret ?_; simp (maxSteps := 9999999) [go_sem, F]
                              · have g := h98; (try simp at g); have F := And.intro F (And.intro h98 (And.intro g (lF h98))); refine AW_skip ?_; refine hK97 _ ?_; refine AW_seq fun K99 hK99 => ?_; refine AW_sr fun K h => ?_; simp (maxSteps := 9999999) [go_sem, F]; refine h _ ?_; refine AW_if hM (fun h100 hM => ?_) (fun h100 hM => ?_)
                                · have g := h100; (try simp at g); have F := And.intro F (And.intro h100 g); refine AW_sr fun K h => ?_; simp (maxSteps := 9999999) [go_sem, F]; refine h _ ?_; obtain rfl := si hM; refine AW_ret ?_; simp (maxSteps := 9999999) [go_sem, F]
                                · have g := h100; (try simp at g); have F := And.intro F (And.intro h100 g); refine AW_skip ?_; refine hK99 _ ?_; refine AW_sr fun K h => ?_; simp (maxSteps := 9999999) [go_sem, F]; refine h _ ?_; obtain rfl := si hM; refine AW_ret ?_; simp (maxSteps := 9999999) [go_sem, F]
end Go.Proofs.YtbknilpmpjjfpaaGreat
