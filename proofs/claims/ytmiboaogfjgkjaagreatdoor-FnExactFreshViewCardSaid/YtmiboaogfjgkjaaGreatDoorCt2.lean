/- Contracts of the program's functions: where the mirrored function answers, the program's function returns this answer. Written by a program of mine. -/
import Derived.Test.YtmiboaogfjgkjaaGreatDoorWn
import Derived.Test.YtmiboaogfjgkjaaGreatDoorMd2
import Derived.Test.YtmiboaogfjgkjaaGreatDoorCt0
import Derived.Test.YtmiboaogfjgkjaaGreatDoorCt1
set_option linter.unusedSimpArgs false
set_option linter.unusedVariables false
namespace Go.Proofs.YtmiboaogfjgkjaaGreatDoor
open Go.RowKit Am
set_option maxHeartbeats 4000000
set_option maxRecDepth 100000
theorem s_FormatValue_ctr (k : Nat) (a0 : TValue) (r : ByteArray) (hM : s_FormatValue k a0 = some r) : Ctr Tryz.prog 40 [.agg (TValue.c a0)] true [.one (.str r)] := by
  unfold s_FormatValue at hM
  refine walkM Tryz.func40 Tryz.ntmps40 Tryz.results40 fun N w0 hbad F => ?_
  refine AW_sr fun K h => ?_; simp [go_sem, F]; refine h _ ?_; refine AW_seq fun K1 hK1 => ?_; obtain ⟨x1, e2, hM⟩ := bind_some hM; refine AW_sr fun K h => ?_; simp [go_sem, F]; refine by_c false (s_IsValidValue_ctr k a0 x1 e2) ?_; simp [go_sem, F]; refine h _ ?_; refine AW_if hM (fun h3 hM => ?_) (fun h3 hM => ?_)
  · have g := h3; (try simp at g); have F := And.intro F (And.intro h3 g); refine AW_sr fun K h => ?_; simp [go_sem, F]; refine h _ ?_; obtain rfl := si hM; refine AW_ret ?_; simp [go_sem, F]
  · have g := h3; (try simp at g); have F := And.intro F (And.intro h3 g); refine AW_skip ?_; refine hK1 _ ?_; obtain ⟨x2, e4, hM⟩ := bind_some hM; refine AW_sr fun K h => ?_; simp [go_sem, F]; refine by_c false (s_l4Text_ctr k a0 x2 e4) ?_; simp [go_sem, F]; refine h _ ?_; obtain rfl := si hM; refine AW_ret ?_; simp [go_sem, F]
theorem s_CellLine_ctr (k : Nat) (a0 : TCell) (a1 : TValue) (a2 : Bool) (r : TLine) (hM : s_CellLine k a0 a1 a2 = some r) : Ctr Tryz.prog 21 [.agg (TCell.c a0), .agg (TValue.c a1), .one (.bool a2)] true [.agg (TLine.c r)] := by
  unfold s_CellLine at hM
  refine walkM Tryz.func21 Tryz.ntmps21 Tryz.results21 fun N w0 hbad F => ?_
  refine AW_sr fun K h => ?_; simp [go_sem, F]; refine h _ ?_; refine AW_seq fun K1 hK1 => ?_; refine AW_sr fun K h => ?_; simp [go_sem, F]; refine h _ ?_; refine AW_if hM (fun h2 hM => ?_) (fun h2 hM => ?_)
  · have g := h2; (try simp at g); have F := And.intro F (And.intro h2 g); refine AW_sr fun K h => ?_; simp [go_sem, F]; refine h _ ?_; obtain rfl := si hM; refine AW_ret ?_; simp [go_sem, F]
  · have g := h2; (try simp at g); have F := And.intro F (And.intro h2 g); refine AW_skip ?_; refine hK1 _ ?_; refine AW_seq fun K3 hK3 => ?_; refine AW_sr fun K h => ?_; simp [go_sem, F]; refine h _ ?_; refine AW_if hM (fun h4 hM => ?_) (fun h4 hM => ?_)
    · have g := h4; (try simp at g); have F := And.intro F (And.intro h4 g); obtain ⟨x1, e5, hM⟩ := bind_some hM; obtain ⟨c6, s7⟩ := cat_spec e5; replace c6 := c6.symm; subst c6; (try simp [go_sem] at s7); have F := And.intro F s7; refine AW_sr fun K h => ?_; simp [go_sem, F]; refine h _ ?_; obtain rfl := si hM; refine AW_ret ?_; simp [go_sem, F]
    · have g := h4; (try simp at g); have F := And.intro F (And.intro h4 g); refine AW_skip ?_; refine hK3 _ ?_; refine AW_seq fun K8 hK8 => ?_; obtain ⟨x2, e9, hM⟩ := bind_some hM; obtain ⟨c10, s11⟩ := cat_spec e9; replace c10 := c10.symm; subst c10; (try simp [go_sem] at s11); have F := And.intro F s11; obtain ⟨x3, e12, hM⟩ := bind_some hM; obtain ⟨x4, e13, hM⟩ := bind_some hM; obtain ⟨c14, s15⟩ := cat_spec e13; replace c14 := c14.symm; subst c14; (try simp [go_sem] at s15)
      have F := And.intro F s15; refine AW_quickN 8 mixed (by kernel_rfl) (by kernel_rfl) ?_; simp [go_sem, F]; refine by_c false (s_FormatValue_ctr k a1 x3 e12) ?_; simp [go_sem, F]; refine hK8 _ ?_; obtain rfl := si hM; refine AW_ret ?_; simp [go_sem, F]
theorem s_FreshView_ctr (k : Nat) (a0 : TNotebook) (a1 : TRun) (r : List TLine) (hM : s_FreshView k a0 a1 = some r) : Ctr Tryz.prog 6 [.agg (TNotebook.c a0), .agg (TRun.c a1)] true [.one (.sl (r.map TLine.c))] := by
  unfold s_FreshView at hM
  refine walkM Tryz.func6 Tryz.ntmps6 Tryz.results6 fun N w0 hbad F => ?_
  refine AW_sr fun K h => ?_; simp [go_sem, F]; refine h _ ?_; refine AW_sr fun K h => ?_; simp [go_sem, F]; refine h _ ?_; refine AW_seq fun K1 hK1 => ?_; obtain ⟨e2, hU4, hR3⟩ := bind_some hM; clear hM; refine AW_mid (ι := Bool) (fun i => ⟨43, [(2, .one (.box 2 0)), (3, .one (.box 3 0)), (5, .one (.own 448 (([] : List TLine).length))), (19, .one (.l (.bool i)))], [(2, [.l (.sl (a0.cells.map TCell.c))]), (3, [.l (.sl (a1.values.map TValue.c)), .l (.sl (a1.tapes.map TTape.c)), .l (.int .i64 a1.steps)])], [(448, some ⟨true, ([] : List TLine).map TLine.c⟩)]⟩) (fun i => i = e2) ?_ ?_
  · intro K5 hK5; have hM := hU4; clear hU4; obtain ⟨x2, e6, hM⟩ := bind_some hM; rcases ifM hM with ⟨h7, hM⟩ | ⟨h7, hM⟩
    · have g := h7; (try simp at g); have F := And.intro F (And.intro h7 g); refine AW_region ?_; simp [go_sem, F]; refine by_c false (s_IsValidNotebook_ctr k a0 x2 e6) ?_; simp [go_sem, F]; obtain rfl := si hM; exact fin hK5 true rfl
    · have g := h7; (try simp at g); have F := And.intro F (And.intro h7 g); refine AW_region ?_; simp [go_sem, F]; refine by_c false (s_IsValidNotebook_ctr k a0 x2 e6) ?_; simp [go_sem, F]; obtain rfl := si hM; exact fin hK5 (!decide ((a0.cells.length : Int) = (a1.values.length : Int))) rfl
  · rintro x1 rfl; have hM := hR3; (try dsimp only at hM); refine AW_if hM (fun h8 hM => ?_) (fun h8 hM => ?_)
    · have g := h8; (try simp at g); have F := And.intro F (And.intro h8 g); refine AW_sr fun K h => ?_; simp [go_sem, F]; refine h _ ?_; obtain rfl := si hM; refine AW_ret ?_; simp [go_sem, F]
    · have g := h8; (try simp at g); have F := And.intro F (And.intro h8 g); refine AW_skip ?_; refine hK1 _ ?_; obtain ⟨e9, hU11, hR10⟩ := bind_some hM; clear hM; refine AW_mid (ι := List TLine) (fun i => ⟨43, [(5, .one (.own 448 i.length))], [], [(448, some ⟨true, i.map TLine.c⟩)]⟩) (fun i => i = e9) ?_ ?_
      · intro K12 hK12; have hM := hU11; clear hU11; refine AW_sr fun K h => ?_; simp [go_sem, F]; refine h _ ?_; refine AW_block ?_; refine AW_lp (ι := (List TLine) × Int) (fun i => ⟨43, [(2, .one (.box 2 0)), (3, .one (.box 3 0)), (5, .one (.own 448 i.1.length)), (6, .one (.l (.int .i64 i.2)))], [(2, [.l (.sl (a0.cells.map TCell.c))]), (3, [.l (.sl (a1.values.map TValue.c)), .l (.sl (a1.tapes.map TTape.c)), .l (.int .i64 a1.steps)])], [(448, some ⟨true, i.1.map TLine.c⟩)]⟩) (fun n i => s_FreshView_u1 k a0 a1 n i.1 i.2 = some e9) k (([] : List TLine), 0) hM (by simp [s_FreshView_u1]) ?_
        intro KL13 n ⟨x4, x5⟩ hL13 hM F; have hM : s_FreshView_u1 k a0 a1 (n + 1) x4 x5 = some e9 := hM; rw [s_FreshView_u1] at hM; refine AW_seq fun K14 hK14 => ?_; refine AW_sr fun K h => ?_; simp [go_sem, F]; refine h _ ?_; refine AW_if hM (fun h15 hM => ?_) (fun h15 hM => ?_)
        · have g := h15; (try simp at g); have F := And.intro F (And.intro h15 (And.intro g (lT h15))); refine AW_skip ?_; refine hK14 _ ?_; refine AW_seq fun K16 hK16 => ?_; refine AW_block ?_; refine AW_fz (σ' := ⟨43, [(2, .one (.box 2 0)), (3, .one (.box 3 0)), (5, .one (.own 448 x4.length)), (6, .one (.l (.int .i64 x5)))], [(2, [.l (.sl (a0.cells.map TCell.c))]), (3, [.l (.sl (a1.values.map TValue.c)), .l (.sl (a1.tapes.map TTape.c)), .l (.int .i64 a1.steps)])], [(448, some ⟨true, x4.map TLine.c⟩)]⟩) ?_
          obtain ⟨x6, e17, hM⟩ := bind_some hM; have F := And.intro F (at_f e17); obtain ⟨x7, e18, hM⟩ := bind_some hM; have F := And.intro F (at_f e18); obtain ⟨x8, e19, hM⟩ := bind_some hM; obtain ⟨x9, e20, hM⟩ := bind_some hM; obtain ⟨c21, s22⟩ := app_spec e20; replace c21 := c21.symm; subst c21; (try simp at s22); have F := And.intro F s22; refine AW_open [[], [], [1], [], [1, 2, 3], [1, 2, 3, 4], [], [6], [], [6, 7, 8], [6, 7, 8, 9], [1, 2, 3, 4, 5, 6, 7, 8, 9, 10], [1, 2, 3, 4, 5, 6, 7, 8, 9, 10, 11], [0, 1, 2, 3, 4, 5, 6, 7, 8, 9, 10, 11, 12], [0, 1, 2, 3, 4, 5, 6, 7, 8, 9, 10, 11, 12, 13]] mixed (by kernel_rfl) ?_
          simp (maxSteps := 9999999) [go_sem, F]; refine by_c false (s_CellLine_ctr k x6 x7 true x8 e19) ?_; simp (maxSteps := 9999999) [go_sem, F]; refine ⟨dOkK_sound (by kernel_rfl), ?_⟩; refine hK16 _ ?_; refine AW_region ?_; simp [go_sem, F]; exact fin hL13 ((x4 ++ [x8]), (IntKind.i64.wrap (x5 + 1))) hM
        · have g := h15; (try simp at g); have F := And.intro F (And.intro h15 (And.intro g (lF h15))); refine AW_exit ?_; obtain rfl := si hM; exact fin hK12 x4 rfl
      · rintro x3 rfl; have hM := hR10; (try dsimp only at hM); refine AW_sr fun K h => ?_; simp [go_sem, F]; refine h _ ?_; obtain rfl := si hM; refine AW_ret ?_; simp [go_sem, F]
theorem i_within_ctr (a0 : Int) (a1 : Int) (a2 : Int) (r : Bool) (hM : i_within a0 a1 a2 = some r) : Ctr Tryz.prog 64 [.one (.int .i64 a0), .one (.int .i64 a1), .one (.int .i64 a2)] true [.one (.bool r)] := by
  unfold i_within at hM
  refine walkM Tryz.func64 Tryz.ntmps64 Tryz.results64 fun N w0 hbad F => ?_
  refine AW_sr fun K h => ?_; simp [go_sem, F]; refine h _ ?_; obtain ⟨e1, hU3, hR2⟩ := bind_some hM; clear hM; refine AW_mid (ι := Bool) (fun i => ⟨15, [(6, .one (.l (.bool i)))], [], []⟩) (fun i => i = e1) ?_ ?_
  · intro K4 hK4; have hM := hU3; clear hU3; rcases ifM hM with ⟨h5, hM⟩ | ⟨h5, hM⟩
    · have g := h5; (try simp at g); have F := And.intro F (And.intro h5 (And.intro g (eT h5))); refine AW_region ?_; simp [go_sem, F]; obtain rfl := si hM; exact fin hK4 (decide (a0 ≤ a2)) rfl
    · have g := h5; (try simp at g); have F := And.intro F (And.intro h5 (And.intro g (eF h5))); refine AW_region ?_; simp [go_sem, F]; obtain rfl := si hM; exact fin hK4 false rfl
  · rintro x1 rfl; have hM := hR2; (try dsimp only at hM); obtain rfl := si hM; refine AW_ret ?_; simp [go_sem, F]
theorem i_IsPrintable_ctr (k : Nat) (a0 : ByteArray) (r : Bool) (hM : i_IsPrintable k a0 = some r) : Ctr Tryz.prog 65 [.one (.str a0)] true [.one (.bool r)] := by
  unfold i_IsPrintable at hM
  refine walkM Tryz.func65 Tryz.ntmps65 Tryz.results65 fun N w0 hbad F => ?_
  refine AW_sr fun K h => ?_; simp [go_sem, F]; refine h _ ?_; obtain ⟨e1, hU3, hR2⟩ := bind_some hM; clear hM; refine AW_mid (ι := Unit) (fun i => ⟨23, [(0, .one (.l (.str a0)))], [], []⟩) (fun i => (.inl i) = e1) ?_ ?_
  · intro K4 hK4; have hM := hU3; clear hU3; refine AW_sr fun K h => ?_; simp [go_sem, F]; refine h _ ?_; refine AW_block ?_; refine AW_lp (ι := Int) (fun i => ⟨23, [(0, .one (.l (.str a0))), (3, .one (.l (.int .i64 i)))], [], []⟩) (fun n i => i_IsPrintable_u1 a0 n i = some e1) k 0 hM (by simp [i_IsPrintable_u1]) ?_; intro KL5 n x1 hL5 hM F; have hM : i_IsPrintable_u1 a0 (n + 1) x1 = some e1 := hM; rw [i_IsPrintable_u1] at hM
    refine AW_seq fun K6 hK6 => ?_; refine AW_sr fun K h => ?_; simp [go_sem, F]; refine h _ ?_; refine AW_if hM (fun h7 hM => ?_) (fun h7 hM => ?_)
    · have g := h7; (try simp at g); have F := And.intro F (And.intro h7 (And.intro g (lT h7))); refine AW_skip ?_; refine hK6 _ ?_; refine AW_seq fun K8 hK8 => ?_; refine AW_block ?_; obtain ⟨e9, hU11, hR10⟩ := bind_some hM; clear hM; refine AW_mid (ι := Bool) (fun i => ⟨23, [(0, .one (.l (.str a0))), (3, .one (.l (.int .i64 x1))), (19, .one (.l (.bool i)))], [], []⟩) (fun i => i = e9) ?_ ?_
      · intro K12 hK12; have hM := hU11; clear hU11; obtain ⟨x3, e13, hM⟩ := bind_some hM; have F := And.intro F (at_f e13); rcases ifM hM with ⟨h14, hM⟩ | ⟨h14, hM⟩
        · have g := h14; (try simp at g); have F := And.intro F (And.intro h14 (And.intro g (lT h14))); refine AW_region ?_; simp [go_sem, F]; obtain rfl := si hM; exact fin hK12 true rfl
        · have g := h14; (try simp at g); have F := And.intro F (And.intro h14 (And.intro g (lF h14))); refine AW_region ?_; simp [go_sem, F]; obtain rfl := si hM; exact fin hK12 (decide (126 < (x3.toNat : Int))) rfl
      · rintro x2 rfl; have hM := hR10; (try dsimp only at hM); refine AW_if hM (fun h15 hM => ?_) (fun h15 hM => ?_)
        · have g := h15; (try simp at g); have F := And.intro F (And.intro h15 g); refine AW_sr fun K h => ?_; simp [go_sem, F]; refine h _ ?_; obtain rfl := si hM; have hM := hR2; dsimp only at hM; obtain rfl := si hM; refine AW_ret ?_; simp [go_sem, F]
        · have g := h15; (try simp at g); have F := And.intro F (And.intro h15 g); refine AW_skip ?_; refine hK8 _ ?_; refine AW_region ?_; simp [go_sem, F]; exact fin hL5 (IntKind.i64.wrap (x1 + 1)) hM
    · have g := h7; (try simp at g); have F := And.intro F (And.intro h7 (And.intro g (lF h7))); refine AW_exit ?_; obtain rfl := si hM; exact fin hK4 () rfl
  · rintro _ rfl; have hM := hR2; dsimp only at hM; refine AW_sr fun K h => ?_; simp [go_sem, F]; refine h _ ?_; obtain rfl := si hM; refine AW_ret ?_; simp [go_sem, F]
theorem i_isWord_ctr (k : Nat) (a0 : ByteArray) (r : Bool) (hM : i_isWord k a0 = some r) : Ctr Tryz.prog 91 [.one (.str a0)] true [.one (.bool r)] := by
  unfold i_isWord at hM
  refine walkM Tryz.func91 Tryz.ntmps91 Tryz.results91 fun N w0 hbad F => ?_
  refine AW_sr fun K h => ?_; simp [go_sem, F]; refine h _ ?_; obtain ⟨e1, hU3, hR2⟩ := bind_some hM; clear hM; refine AW_mid (ι := Unit) (fun i => ⟨42, [(0, .one (.l (.str a0)))], [], []⟩) (fun i => (.inl i) = e1) ?_ ?_
  · intro K4 hK4; have hM := hU3; clear hU3; refine AW_sr fun K h => ?_; simp [go_sem, F]; refine h _ ?_; refine AW_block ?_; refine AW_lp (ι := Int) (fun i => ⟨42, [(0, .one (.l (.str a0))), (3, .one (.l (.int .i64 i)))], [], []⟩) (fun n i => i_isWord_u1 a0 n i = some e1) k 0 hM (by simp [i_isWord_u1]) ?_; intro KL5 n x1 hL5 hM F; have hM : i_isWord_u1 a0 (n + 1) x1 = some e1 := hM; rw [i_isWord_u1] at hM
    refine AW_seq fun K6 hK6 => ?_; refine AW_sr fun K h => ?_; simp [go_sem, F]; refine h _ ?_; refine AW_if hM (fun h7 hM => ?_) (fun h7 hM => ?_)
    · have g := h7; (try simp at g); have F := And.intro F (And.intro h7 (And.intro g (lT h7))); refine AW_skip ?_; refine hK6 _ ?_; refine AW_seq fun K8 hK8 => ?_; refine AW_block ?_; obtain ⟨e9, hU11, hR10⟩ := bind_some hM; clear hM; refine AW_mid (ι := Bool) (fun i => ⟨42, [(0, .one (.l (.str a0))), (3, .one (.l (.int .i64 x1))), (4, .one (.l (.bool i)))], [], []⟩) (fun i => i = e9) ?_ ?_
      · intro K12 hK12; have hM := hU11; clear hU11; obtain ⟨x3, e13, hM⟩ := bind_some hM; have F := And.intro F (at_f e13); rcases ifM hM with ⟨h14, hM⟩ | ⟨h14, hM⟩
        · have g := h14; (try simp at g); have F := And.intro F (And.intro h14 (And.intro g (eT h14))); refine AW_region ?_; simp [go_sem, F]; obtain rfl := si hM; exact fin hK12 (decide ((x3.toNat : Int) ≤ 122)) rfl
        · have g := h14; (try simp at g); have F := And.intro F (And.intro h14 (And.intro g (eF h14))); refine AW_region ?_; simp [go_sem, F]; obtain rfl := si hM; exact fin hK12 false rfl
      · rintro x2 rfl; have hM := hR10; (try dsimp only at hM); obtain ⟨e15, hU17, hR16⟩ := bind_some hM; clear hM; refine AW_mid (ι := Bool) (fun i => ⟨42, [(0, .one (.l (.str a0))), (3, .one (.l (.int .i64 x1))), (38, .one (.l (.bool i)))], [], []⟩) (fun i => i = e15) ?_ ?_
        · intro K18 hK18; have hM := hU17; clear hU17; rcases ifM hM with ⟨h19, hM⟩ | ⟨h19, hM⟩
          · have g := h19; (try simp at g); have F := And.intro F (And.intro h19 g); rcases ifM hM with ⟨h20, hM⟩ | ⟨h20, hM⟩
            · have g := h20; (try simp at g); have F := And.intro F (And.intro h20 g); refine AW_region ?_; simp [go_sem, F]; obtain rfl := si hM; exact fin hK18 true rfl
            · have g := h20; (try simp at g); have F := And.intro F (And.intro h20 g); obtain ⟨x5, e21, hM⟩ := bind_some hM; have F := And.intro F (at_f e21); rcases ifM hM with ⟨h22, hM⟩ | ⟨h22, hM⟩
              · have g := h22; (try simp at g); have F := And.intro F (And.intro h22 (And.intro g (lT h22))); refine AW_region ?_; simp [go_sem, F]; obtain rfl := si hM; exact fin hK18 true rfl
              · have g := h22; (try simp at g); have F := And.intro F (And.intro h22 (And.intro g (lF h22))); refine AW_region ?_; simp [go_sem, F]; obtain rfl := si hM; exact fin hK18 (decide (57 < (x5.toNat : Int))) rfl
          · have g := h19; (try simp at g); have F := And.intro F (And.intro h19 g); refine AW_region ?_; simp [go_sem, F]; obtain rfl := si hM; exact fin hK18 false rfl
        · rintro x4 rfl; have hM := hR16; (try dsimp only at hM); refine AW_if hM (fun h23 hM => ?_) (fun h23 hM => ?_)
          · have g := h23; (try simp at g); have F := And.intro F (And.intro h23 g); refine AW_sr fun K h => ?_; simp [go_sem, F]; refine h _ ?_; obtain rfl := si hM; have hM := hR2; dsimp only at hM; obtain rfl := si hM; refine AW_ret ?_; simp [go_sem, F]
          · have g := h23; (try simp at g); have F := And.intro F (And.intro h23 g); refine AW_skip ?_; refine hK8 _ ?_; refine AW_region ?_; simp [go_sem, F]; exact fin hL5 (IntKind.i64.wrap (x1 + 1)) hM
    · have g := h7; (try simp at g); have F := And.intro F (And.intro h7 (And.intro g (lF h7))); refine AW_exit ?_; obtain rfl := si hM; exact fin hK4 () rfl
  · rintro _ rfl; have hM := hR2; dsimp only at hM; obtain ⟨x6, e24, hM⟩ := bind_some hM; refine AW_sr fun K h => ?_; simp [go_sem, F]; refine by_c false (i_within_ctr (a0.size : Int) 1 8 x6 e24) ?_; simp [go_sem, F]; refine h _ ?_; obtain rfl := si hM; refine AW_ret ?_; simp [go_sem, F]
theorem i_ArgumentCount_ctr (a0 : ByteArray) (r : Int) (hM : i_ArgumentCount a0 = some r) : Ctr Tryz.prog 112 [.one (.str a0)] true [.one (.int .i64 r)] := by
  unfold i_ArgumentCount at hM
  refine walkM Tryz.func112 Tryz.ntmps112 Tryz.results112 fun N w0 hbad F => ?_
  refine AW_sr fun K h => ?_; simp [go_sem, F]; refine h _ ?_; refine AW_seq fun K1 hK1 => ?_; refine AW_sr fun K h => ?_; simp [go_sem, F]; refine h _ ?_; refine AW_block ?_; refine AW_sr fun K h => ?_; simp [go_sem, F]; refine h _ ?_; refine AW_if hM (fun h2 hM => ?_) (fun h2 hM => ?_)
  · have g := h2; (try simp at g); have F := And.intro F (And.intro h2 g); refine AW_sr fun K h => ?_; simp [go_sem, F]; refine h _ ?_; obtain rfl := si hM; refine AW_ret ?_; simp [go_sem, F]
  · have g := h2; (try simp at g); have F := And.intro F (And.intro h2 g); obtain ⟨e3, hU5, hR4⟩ := bind_some hM; clear hM; refine AW_mid (ι := Bool) (fun i => ⟨26, [(3, .one (.l (.str a0))), (6, .one (.l (.bool i)))], [], []⟩) (fun i => i = e3) ?_ ?_
    · intro K6 hK6; have hM := hU5; clear hU5; refine AW_sr fun K h => ?_; simp [go_sem, F]; refine h _ ?_; refine AW_if hM (fun h7 hM => ?_) (fun h7 hM => ?_)
      · have g := h7; (try simp at g); have F := And.intro F (And.intro h7 g); refine AW_skip ?_; obtain rfl := si hM; exact fin hK6 true rfl
      · have g := h7; (try simp at g); have F := And.intro F (And.intro h7 g); refine AW_sr fun K h => ?_; simp [go_sem, F]; refine h _ ?_; refine AW_if hM (fun h8 hM => ?_) (fun h8 hM => ?_)
        · have g := h8; (try simp at g); have F := And.intro F (And.intro h8 g); refine AW_skip ?_; obtain rfl := si hM; exact fin hK6 true rfl
        · have g := h8; (try simp at g); have F := And.intro F (And.intro h8 g); refine AW_sr fun K h => ?_; simp [go_sem, F]; refine h _ ?_; refine AW_if hM (fun h9 hM => ?_) (fun h9 hM => ?_)
          · have g := h9; (try simp at g); have F := And.intro F (And.intro h9 g); refine AW_skip ?_; obtain rfl := si hM; exact fin hK6 true rfl
          · have g := h9; (try simp at g); have F := And.intro F (And.intro h9 g); refine AW_sr fun K h => ?_; simp [go_sem, F]; refine h _ ?_; refine AW_if hM (fun h10 hM => ?_) (fun h10 hM => ?_)
            · have g := h10; (try simp at g); have F := And.intro F (And.intro h10 g); refine AW_skip ?_; obtain rfl := si hM; exact fin hK6 true rfl
            · have g := h10; (try simp at g); have F := And.intro F (And.intro h10 g); refine AW_region ?_; simp [go_sem, F]; obtain rfl := si hM; exact fin hK6 (decide (a0 = (⟨#[102, 105, 108, 101]⟩ : ByteArray))) rfl
    · rintro x1 rfl; have hM := hR4; (try dsimp only at hM); refine AW_if hM (fun h11 hM => ?_) (fun h11 hM => ?_)
      · have g := h11; (try simp at g); have F := And.intro F (And.intro h11 g); refine AW_sr fun K h => ?_; simp [go_sem, F]; refine h _ ?_; obtain rfl := si hM; refine AW_ret ?_; simp [go_sem, F]
      · have g := h11; (try simp at g); have F := And.intro F (And.intro h11 g); obtain ⟨e12, hU14, hR13⟩ := bind_some hM; clear hM; refine AW_mid (ι := Bool) (fun i => ⟨26, [(3, .one (.l (.str a0))), (12, .one (.l (.bool i)))], [], []⟩) (fun i => i = e12) ?_ ?_
        · intro K15 hK15; have hM := hU14; clear hU14; refine AW_sr fun K h => ?_; simp [go_sem, F]; refine h _ ?_; refine AW_if hM (fun h16 hM => ?_) (fun h16 hM => ?_)
          · have g := h16; (try simp at g); have F := And.intro F (And.intro h16 g); refine AW_skip ?_; obtain rfl := si hM; exact fin hK15 true rfl
          · have g := h16; (try simp at g); have F := And.intro F (And.intro h16 g); refine AW_sr fun K h => ?_; simp [go_sem, F]; refine h _ ?_; refine AW_if hM (fun h17 hM => ?_) (fun h17 hM => ?_)
            · have g := h17; (try simp at g); have F := And.intro F (And.intro h17 g); refine AW_skip ?_; obtain rfl := si hM; exact fin hK15 true rfl
            · have g := h17; (try simp at g); have F := And.intro F (And.intro h17 g); refine AW_sr fun K h => ?_; simp [go_sem, F]; refine h _ ?_; refine AW_if hM (fun h18 hM => ?_) (fun h18 hM => ?_)
              · have g := h18; (try simp at g); have F := And.intro F (And.intro h18 g); refine AW_skip ?_; obtain rfl := si hM; exact fin hK15 true rfl
              · have g := h18; (try simp at g); have F := And.intro F (And.intro h18 g); refine AW_sr fun K h => ?_; simp [go_sem, F]; refine h _ ?_; refine AW_if hM (fun h19 hM => ?_) (fun h19 hM => ?_)
                · have g := h19; (try simp at g); have F := And.intro F (And.intro h19 g); refine AW_skip ?_; obtain rfl := si hM; exact fin hK15 true rfl
                · have g := h19; (try simp at g); have F := And.intro F (And.intro h19 g); refine AW_sr fun K h => ?_; simp [go_sem, F]; refine h _ ?_; refine AW_if hM (fun h20 hM => ?_) (fun h20 hM => ?_)
                  · have g := h20; (try simp at g); have F := And.intro F (And.intro h20 g); refine AW_skip ?_; obtain rfl := si hM; exact fin hK15 true rfl
                  · have g := h20; (try simp at g); have F := And.intro F (And.intro h20 g); refine AW_sr fun K h => ?_; simp [go_sem, F]; refine h _ ?_; refine AW_if hM (fun h21 hM => ?_) (fun h21 hM => ?_)
                    · have g := h21; (try simp at g); have F := And.intro F (And.intro h21 g); refine AW_skip ?_; obtain rfl := si hM; exact fin hK15 true rfl
                    · have g := h21; (try simp at g); have F := And.intro F (And.intro h21 g); refine AW_region ?_; simp [go_sem, F]; obtain rfl := si hM; exact fin hK15 (decide (a0 = (⟨#[116, 97, 98, 108, 101]⟩ : ByteArray))) rfl
        · rintro x2 rfl; have hM := hR13; (try dsimp only at hM); refine AW_if hM (fun h22 hM => ?_) (fun h22 hM => ?_)
          · have g := h22; (try simp at g); have F := And.intro F (And.intro h22 g); refine AW_sr fun K h => ?_; simp [go_sem, F]; refine h _ ?_; obtain rfl := si hM; refine AW_ret ?_; simp [go_sem, F]
          · have g := h22; (try simp at g); have F := And.intro F (And.intro h22 g); obtain ⟨e23, hU25, hR24⟩ := bind_some hM; clear hM; refine AW_mid (ι := Bool) (fun i => ⟨26, [(3, .one (.l (.str a0))), (20, .one (.l (.bool i)))], [], []⟩) (fun i => i = e23) ?_ ?_
            · intro K26 hK26; have hM := hU25; clear hU25; refine AW_sr fun K h => ?_; simp [go_sem, F]; refine h _ ?_; refine AW_if hM (fun h27 hM => ?_) (fun h27 hM => ?_)
              · have g := h27; (try simp at g); have F := And.intro F (And.intro h27 g); refine AW_skip ?_; obtain rfl := si hM; exact fin hK26 true rfl
              · have g := h27; (try simp at g); have F := And.intro F (And.intro h27 g); refine AW_sr fun K h => ?_; simp [go_sem, F]; refine h _ ?_; refine AW_if hM (fun h28 hM => ?_) (fun h28 hM => ?_)
                · have g := h28; (try simp at g); have F := And.intro F (And.intro h28 g); refine AW_skip ?_; obtain rfl := si hM; exact fin hK26 true rfl
                · have g := h28; (try simp at g); have F := And.intro F (And.intro h28 g); refine AW_region ?_; simp [go_sem, F]; obtain rfl := si hM; exact fin hK26 (decide (a0 = (⟨#[106, 111, 105, 110]⟩ : ByteArray))) rfl
            · rintro x3 rfl; have hM := hR24; (try dsimp only at hM); refine AW_if hM (fun h29 hM => ?_) (fun h29 hM => ?_)
              · have g := h29; (try simp at g); have F := And.intro F (And.intro h29 g); refine AW_sr fun K h => ?_; simp [go_sem, F]; refine h _ ?_; obtain rfl := si hM; refine AW_ret ?_; simp [go_sem, F]
              · have g := h29; (try simp at g); have F := And.intro F (And.intro h29 g); refine AW_sr fun K h => ?_; simp [go_sem, F]; refine h _ ?_; refine AW_if hM (fun h30 hM => ?_) (fun h30 hM => ?_)
                · have g := h30; (try simp at g); have F := And.intro F (And.intro h30 g); refine AW_sr fun K h => ?_; simp [go_sem, F]; refine h _ ?_; obtain rfl := si hM; refine AW_ret ?_; simp [go_sem, F]
                · have g := h30; (try simp at g); have F := And.intro F (And.intro h30 g); refine AW_skip ?_; refine hK1 _ ?_; refine AW_sr fun K h => ?_; simp [go_sem, F]; refine h _ ?_; obtain rfl := si hM; refine AW_ret ?_; simp [go_sem, F]
theorem i_IsReserved_ctr (a0 : ByteArray) (r : Bool) (hM : i_IsReserved a0 = some r) : Ctr Tryz.prog 92 [.one (.str a0)] true [.one (.bool r)] := by
  unfold i_IsReserved at hM
  refine walkM Tryz.func92 Tryz.ntmps92 Tryz.results92 fun N w0 hbad F => ?_
  refine AW_sr fun K h => ?_; simp [go_sem, F]; refine h _ ?_; refine AW_seq fun K1 hK1 => ?_; refine AW_sr fun K h => ?_; simp [go_sem, F]; refine h _ ?_; refine AW_block ?_; obtain ⟨e2, hU4, hR3⟩ := bind_some hM; clear hM; refine AW_mid (ι := Bool) (fun i => ⟨15, [(0, .one (.l (.str a0))), (4, .one (.l (.bool i)))], [], []⟩) (fun i => i = e2) ?_ ?_
  · intro K5 hK5; have hM := hU4; clear hU4; refine AW_sr fun K h => ?_; simp [go_sem, F]; refine h _ ?_; refine AW_if hM (fun h6 hM => ?_) (fun h6 hM => ?_)
    · have g := h6; (try simp at g); have F := And.intro F (And.intro h6 g); refine AW_skip ?_; obtain rfl := si hM; exact fin hK5 true rfl
    · have g := h6; (try simp at g); have F := And.intro F (And.intro h6 g); refine AW_sr fun K h => ?_; simp [go_sem, F]; refine h _ ?_; refine AW_if hM (fun h7 hM => ?_) (fun h7 hM => ?_)
      · have g := h7; (try simp at g); have F := And.intro F (And.intro h7 g); refine AW_skip ?_; obtain rfl := si hM; exact fin hK5 true rfl
      · have g := h7; (try simp at g); have F := And.intro F (And.intro h7 g); refine AW_sr fun K h => ?_; simp [go_sem, F]; refine h _ ?_; refine AW_if hM (fun h8 hM => ?_) (fun h8 hM => ?_)
        · have g := h8; (try simp at g); have F := And.intro F (And.intro h8 g); refine AW_skip ?_; obtain rfl := si hM; exact fin hK5 true rfl
        · have g := h8; (try simp at g); have F := And.intro F (And.intro h8 g); refine AW_sr fun K h => ?_; simp [go_sem, F]; refine h _ ?_; refine AW_if hM (fun h9 hM => ?_) (fun h9 hM => ?_)
          · have g := h9; (try simp at g); have F := And.intro F (And.intro h9 g); refine AW_skip ?_; obtain rfl := si hM; exact fin hK5 true rfl
          · have g := h9; (try simp at g); have F := And.intro F (And.intro h9 g); refine AW_sr fun K h => ?_; simp [go_sem, F]; refine h _ ?_; refine AW_if hM (fun h10 hM => ?_) (fun h10 hM => ?_)
            · have g := h10; (try simp at g); have F := And.intro F (And.intro h10 g); refine AW_skip ?_; obtain rfl := si hM; exact fin hK5 true rfl
            · have g := h10; (try simp at g); have F := And.intro F (And.intro h10 g); refine AW_sr fun K h => ?_; simp [go_sem, F]; refine h _ ?_; refine AW_if hM (fun h11 hM => ?_) (fun h11 hM => ?_)
              · have g := h11; (try simp at g); have F := And.intro F (And.intro h11 g); refine AW_skip ?_; obtain rfl := si hM; exact fin hK5 true rfl
              · have g := h11; (try simp at g); have F := And.intro F (And.intro h11 g); refine AW_region ?_; simp [go_sem, F]; obtain rfl := si hM; exact fin hK5 (decide (a0 = (⟨#[100, 111]⟩ : ByteArray))) rfl
  · rintro x1 rfl; have hM := hR3; (try dsimp only at hM); refine AW_if hM (fun h12 hM => ?_) (fun h12 hM => ?_)
    · have g := h12; (try simp at g); have F := And.intro F (And.intro h12 g); refine AW_sr fun K h => ?_; simp [go_sem, F]; refine h _ ?_; obtain rfl := si hM; refine AW_ret ?_; simp [go_sem, F]
    · have g := h12; (try simp at g); have F := And.intro F (And.intro h12 g); refine AW_skip ?_; refine hK1 _ ?_; obtain ⟨x2, e13, hM⟩ := bind_some hM; refine AW_sr fun K h => ?_; simp [go_sem, F]; refine by_c false (i_ArgumentCount_ctr a0 x2 e13) ?_; simp [go_sem, F]; refine h _ ?_; obtain rfl := si hM; refine AW_ret ?_; simp [go_sem, F]
theorem i_IsValidName_ctr (k : Nat) (a0 : ByteArray) (r : Bool) (hM : i_IsValidName k a0 = some r) : Ctr Tryz.prog 66 [.one (.str a0)] true [.one (.bool r)] := by
  unfold i_IsValidName at hM
  refine walkM Tryz.func66 Tryz.ntmps66 Tryz.results66 fun N w0 hbad F => ?_
  refine AW_sr fun K h => ?_; simp [go_sem, F]; refine h _ ?_; obtain ⟨e1, hU3, hR2⟩ := bind_some hM; clear hM; refine AW_mid (ι := Bool) (fun i => ⟨10, [(2, .one (.l (.bool i)))], [], []⟩) (fun i => i = e1) ?_ ?_
  · intro K4 hK4; have hM := hU3; clear hU3; obtain ⟨x2, e5, hM⟩ := bind_some hM; rcases ifM hM with ⟨h6, hM⟩ | ⟨h6, hM⟩
    · have g := h6; (try simp at g); have F := And.intro F (And.intro h6 g); obtain ⟨x3, e7, hM⟩ := bind_some hM; refine AW_region ?_; simp [go_sem, F]; refine by_c false (i_isWord_ctr k a0 x2 e5) ?_; simp [go_sem, F]; refine by_c false (i_IsReserved_ctr a0 x3 e7) ?_; simp [go_sem, F]; obtain rfl := si hM; exact fin hK4 (!x3) rfl
    · have g := h6; (try simp at g); have F := And.intro F (And.intro h6 g); refine AW_region ?_; simp [go_sem, F]; refine by_c false (i_isWord_ctr k a0 x2 e5) ?_; simp [go_sem, F]; obtain rfl := si hM; exact fin hK4 false rfl
  · rintro x1 rfl; have hM := hR2; (try dsimp only at hM); obtain rfl := si hM; refine AW_ret ?_; simp [go_sem, F]
theorem i_IsValidCell_ctr (k : Nat) (a0 : TCell) (r : Bool) (hM : i_IsValidCell k a0 = some r) : Ctr Tryz.prog 44 [.agg (TCell.c a0)] true [.one (.bool r)] := by
  unfold i_IsValidCell at hM
  refine walkM Tryz.func44 Tryz.ntmps44 Tryz.results44 fun N w0 hbad F => ?_
  refine AW_sr fun K h => ?_; simp [go_sem, F]; refine h _ ?_; refine AW_seq fun K1 hK1 => ?_; obtain ⟨e2, hU4, hR3⟩ := bind_some hM; clear hM; refine AW_mid (ι := Bool) (fun i => ⟨57, [(1, .one (.box 1 0)), (18, .one (.l (.bool i)))], [(1, [.l (.int .i64 a0.id), .l (.int .i64 a0.version), .l (.int .i64 a0.kind), .l (.str a0.name), .l (.str a0.code), .l (.int .i64 a0.n)])], []⟩) (fun i => i = e2) ?_ ?_
  · intro K5 hK5; have hM := hU4; clear hU4; obtain ⟨x2, e6, hM⟩ := bind_some hM; rcases ifM hM with ⟨h7, hM⟩ | ⟨h7, hM⟩
    · have g := h7; (try simp at g); have F := And.intro F (And.intro h7 g); refine AW_region ?_; simp [go_sem, F]; refine by_c false (i_within_ctr a0.id 1 999 x2 e6) ?_; simp [go_sem, F]; obtain rfl := si hM; exact fin hK5 true rfl
    · have g := h7; (try simp at g); have F := And.intro F (And.intro h7 g); obtain ⟨x3, e8, hM⟩ := bind_some hM; rcases ifM hM with ⟨h9, hM⟩ | ⟨h9, hM⟩
      · have g := h9; (try simp at g); have F := And.intro F (And.intro h9 g); refine AW_region ?_; simp [go_sem, F]; refine by_c false (i_within_ctr a0.id 1 999 x2 e6) ?_; simp [go_sem, F]; refine by_c false (i_within_ctr a0.version 1 999 x3 e8) ?_; simp [go_sem, F]; obtain rfl := si hM; exact fin hK5 true rfl
      · have g := h9; (try simp at g); have F := And.intro F (And.intro h9 g); obtain ⟨x4, e10, hM⟩ := bind_some hM; refine AW_region ?_; simp [go_sem, F]; refine by_c false (i_within_ctr a0.id 1 999 x2 e6) ?_; simp [go_sem, F]; refine by_c false (i_within_ctr a0.version 1 999 x3 e8) ?_; simp [go_sem, F]; refine by_c false (i_IsPrintable_ctr k a0.code x4 e10) ?_; simp [go_sem, F]; obtain rfl := si hM
        exact fin hK5 (!x4) rfl
  · rintro x1 rfl; have hM := hR3; (try dsimp only at hM); refine AW_if hM (fun h11 hM => ?_) (fun h11 hM => ?_)
    · have g := h11; (try simp at g); have F := And.intro F (And.intro h11 g); refine AW_sr fun K h => ?_; simp [go_sem, F]; refine h _ ?_; obtain rfl := si hM; refine AW_ret ?_; simp [go_sem, F]
    · have g := h11; (try simp at g); have F := And.intro F (And.intro h11 g); refine AW_skip ?_; refine hK1 _ ?_; refine AW_seq fun K12 hK12 => ?_; refine AW_sr fun K h => ?_; simp [go_sem, F]; refine h _ ?_; refine AW_block ?_; refine AW_sr fun K h => ?_; simp [go_sem, F]; refine h _ ?_; refine AW_if hM (fun h13 hM => ?_) (fun h13 hM => ?_)
      · have g := h13; (try simp at g); have F := And.intro F (And.intro h13 g); obtain ⟨e14, hU16, hR15⟩ := bind_some hM; clear hM; refine AW_mid (ι := Bool) (fun i => ⟨57, [(2, .one (.l (.bool i)))], [], []⟩) (fun i => i = e14) ?_ ?_
        · intro K17 hK17; have hM := hU16; clear hU16; rcases ifM hM with ⟨h18, hM⟩ | ⟨h18, hM⟩
          · have g := h18; (try simp at g); have F := And.intro F (And.intro h18 g); refine AW_region ?_; simp [go_sem, F]; obtain rfl := si hM; exact fin hK17 (decide (a0.n = 0)) rfl
          · have g := h18; (try simp at g); have F := And.intro F (And.intro h18 g); refine AW_region ?_; simp [go_sem, F]; obtain rfl := si hM; exact fin hK17 false rfl
        · rintro x5 rfl; have hM := hR15; (try dsimp only at hM); obtain rfl := si hM; refine AW_ret ?_; simp [go_sem, F]
      · have g := h13; (try simp at g); have F := And.intro F (And.intro h13 g); obtain ⟨e19, hU21, hR20⟩ := bind_some hM; clear hM; refine AW_mid (ι := Bool) (fun i => ⟨57, [(1, .one (.box 1 0)), (20, .one (.l (.int .i64 a0.kind))), (31, .one (.l (.bool i)))], [(1, [.l (.int .i64 a0.id), .l (.int .i64 a0.version), .l (.int .i64 a0.kind), .l (.str a0.name), .l (.str a0.code), .l (.int .i64 a0.n)])], []⟩) (fun i => i = e19) ?_ ?_
        · intro K22 hK22; have hM := hU21; clear hU21; refine AW_sr fun K h => ?_; simp [go_sem, F]; refine h _ ?_; refine AW_if hM (fun h23 hM => ?_) (fun h23 hM => ?_)
          · have g := h23; (try simp at g); have F := And.intro F (And.intro h23 g); refine AW_skip ?_; obtain rfl := si hM; exact fin hK22 true rfl
          · have g := h23; (try simp at g); have F := And.intro F (And.intro h23 g); refine AW_region ?_; simp [go_sem, F]; obtain rfl := si hM; exact fin hK22 (decide (a0.kind = 4)) rfl
        · rintro x6 rfl; have hM := hR20; (try dsimp only at hM); refine AW_if hM (fun h24 hM => ?_) (fun h24 hM => ?_)
          · have g := h24; (try simp at g); have F := And.intro F (And.intro h24 g); obtain ⟨e25, hU27, hR26⟩ := bind_some hM; clear hM; refine AW_mid (ι := Bool) (fun i => ⟨57, [(2, .one (.l (.bool i)))], [], []⟩) (fun i => i = e25) ?_ ?_
            · intro K28 hK28; have hM := hU27; clear hU27; obtain ⟨x8, e29, hM⟩ := bind_some hM; rcases ifM hM with ⟨h30, hM⟩ | ⟨h30, hM⟩
              · have g := h30; (try simp at g); have F := And.intro F (And.intro h30 g); refine AW_region ?_; simp [go_sem, F]; refine by_c false (i_IsValidName_ctr k a0.name x8 e29) ?_; simp [go_sem, F]; obtain rfl := si hM; exact fin hK28 (decide (a0.n = 0)) rfl
              · have g := h30; (try simp at g); have F := And.intro F (And.intro h30 g); refine AW_region ?_; simp [go_sem, F]; refine by_c false (i_IsValidName_ctr k a0.name x8 e29) ?_; simp [go_sem, F]; obtain rfl := si hM; exact fin hK28 false rfl
            · rintro x7 rfl; have hM := hR26; (try dsimp only at hM); obtain rfl := si hM; refine AW_ret ?_; simp [go_sem, F]
          · have g := h24; (try simp at g); have F := And.intro F (And.intro h24 g); refine AW_sr fun K h => ?_; simp [go_sem, F]; refine h _ ?_; refine AW_if hM (fun h31 hM => ?_) (fun h31 hM => ?_)
            · have g := h31; (try simp at g); have F := And.intro F (And.intro h31 g); obtain ⟨e32, hU34, hR33⟩ := bind_some hM; clear hM; refine AW_mid (ι := Bool) (fun i => ⟨57, [(2, .one (.l (.bool i)))], [], []⟩) (fun i => i = e32) ?_ ?_
              · intro K35 hK35; have hM := hU34; clear hU34; obtain ⟨x10, e36, hM⟩ := bind_some hM; rcases ifM hM with ⟨h37, hM⟩ | ⟨h37, hM⟩
                · have g := h37; (try simp at g); have F := And.intro F (And.intro h37 g); rcases ifM hM with ⟨h38, hM⟩ | ⟨h38, hM⟩
                  · have g := h38; (try simp at g); have F := And.intro F (And.intro h38 g); obtain ⟨x11, e39, hM⟩ := bind_some hM; refine AW_region ?_; simp [go_sem, F]; refine by_c false (i_IsValidName_ctr k a0.name x10 e36) ?_; simp [go_sem, F]; refine by_c false (i_within_ctr a0.n 0 100 x11 e39) ?_; simp [go_sem, F]; obtain rfl := si hM; exact fin hK35 x11 rfl
                  · have g := h38; (try simp at g); have F := And.intro F (And.intro h38 g); refine AW_region ?_; simp [go_sem, F]; refine by_c false (i_IsValidName_ctr k a0.name x10 e36) ?_; simp [go_sem, F]; obtain rfl := si hM; exact fin hK35 false rfl
                · have g := h37; (try simp at g); have F := And.intro F (And.intro h37 g); refine AW_region ?_; simp [go_sem, F]; refine by_c false (i_IsValidName_ctr k a0.name x10 e36) ?_; simp [go_sem, F]; obtain rfl := si hM; exact fin hK35 false rfl
              · rintro x9 rfl; have hM := hR33; (try dsimp only at hM); obtain rfl := si hM; refine AW_ret ?_; simp [go_sem, F]
            · have g := h31; (try simp at g); have F := And.intro F (And.intro h31 g); refine AW_skip ?_; refine hK12 _ ?_; refine AW_sr fun K h => ?_; simp [go_sem, F]; refine h _ ?_; obtain rfl := si hM; refine AW_ret ?_; simp [go_sem, F]
theorem i_CellIndex_ctr (k : Nat) (a0 : TNotebook) (a1 : Int) (r : Int) (hM : i_CellIndex k a0 a1 = some r) : Ctr Tryz.prog 45 [.agg (TNotebook.c a0), .one (.int .i64 a1)] true [.one (.int .i64 r)] := by
  unfold i_CellIndex at hM
  refine walkM Tryz.func45 Tryz.ntmps45 Tryz.results45 fun N w0 hbad F => ?_
  refine AW_sr fun K h => ?_; simp [go_sem, F]; refine h _ ?_; obtain ⟨e1, hU3, hR2⟩ := bind_some hM; clear hM; refine AW_mid (ι := Unit) (fun i => ⟨21, [], [], []⟩) (fun i => (.inl i) = e1) ?_ ?_
  · intro K4 hK4; have hM := hU3; clear hU3; refine AW_sr fun K h => ?_; simp [go_sem, F]; refine h _ ?_; refine AW_block ?_; refine AW_lp (ι := Int) (fun i => ⟨21, [(1, .one (.l (.int .i64 a1))), (8, .one (.l (.sl (a0.cells.map TCell.c)))), (9, .one (.l (.int .i64 (a0.cells.length : Int)))), (10, .one (.l (.int .i64 i)))], [], []⟩) (fun n i => i_CellIndex_u1 a0 a1 n i = some e1) k 0 hM (by simp [i_CellIndex_u1]) ?_
    intro KL5 n x1 hL5 hM F; have hM : i_CellIndex_u1 a0 a1 (n + 1) x1 = some e1 := hM; rw [i_CellIndex_u1] at hM; refine AW_sr fun K h => ?_; simp [go_sem, F]; refine h _ ?_; refine AW_seq fun K6 hK6 => ?_; refine AW_if hM (fun h7 hM => ?_) (fun h7 hM => ?_)
    · have g := h7; (try simp at g); have F := And.intro F (And.intro h7 (And.intro g (lT h7))); refine AW_skip ?_; refine hK6 _ ?_; refine AW_seq fun K8 hK8 => ?_; refine AW_block ?_; obtain ⟨x2, e9, hM⟩ := bind_some hM; have F := And.intro F (at_f e9); refine AW_sr fun K h => ?_; simp [go_sem, F]; refine h _ ?_; refine AW_sr fun K h => ?_; simp [go_sem, F]; refine h _ ?_; refine AW_if hM (fun h10 hM => ?_) (fun h10 hM => ?_)
      · have g := h10; (try simp at g); have F := And.intro F (And.intro h10 g); refine AW_sr fun K h => ?_; simp [go_sem, F]; refine h _ ?_; obtain rfl := si hM; have hM := hR2; dsimp only at hM; obtain rfl := si hM; refine AW_ret ?_; simp [go_sem, F]
      · have g := h10; (try simp at g); have F := And.intro F (And.intro h10 g); refine AW_skip ?_; refine hK8 _ ?_; refine AW_region ?_; simp [go_sem, F]; exact fin hL5 (IntKind.i64.wrap (x1 + 1)) hM
    · have g := h7; (try simp at g); have F := And.intro F (And.intro h7 (And.intro g (lF h7))); refine AW_exit ?_; obtain rfl := si hM; exact fin hK4 () rfl
  · rintro _ rfl; have hM := hR2; dsimp only at hM; refine AW_sr fun K h => ?_; simp [go_sem, F]; refine h _ ?_; obtain rfl := si hM; refine AW_ret ?_; simp [go_sem, F]
theorem i_IsValidNotebook_ctr (k : Nat) (a0 : TNotebook) (r : Bool) (hM : i_IsValidNotebook k a0 = some r) : Ctr Tryz.prog 25 [.agg (TNotebook.c a0)] true [.one (.bool r)] := by
  unfold i_IsValidNotebook at hM
  refine walkM Tryz.func25 Tryz.ntmps25 Tryz.results25 fun N w0 hbad F => ?_
  refine AW_sr fun K h => ?_; simp [go_sem, F]; refine h _ ?_; obtain ⟨e1, hU3, hR2⟩ := bind_some hM; clear hM; refine AW_mid (ι := Unit) (fun i => ⟨29, [(1, .one (.box 1 0))], [(1, [.l (.sl (a0.cells.map TCell.c))])], []⟩) (fun i => (.inl i) = e1) ?_ ?_
  · intro K4 hK4; have hM := hU3; clear hU3; refine AW_sr fun K h => ?_; simp [go_sem, F]; refine h _ ?_; refine AW_block ?_; refine AW_lp (ι := Int) (fun i => ⟨29, [(1, .one (.box 1 0)), (6, .one (.l (.sl (a0.cells.map TCell.c)))), (7, .one (.l (.int .i64 (a0.cells.length : Int)))), (8, .one (.l (.int .i64 i)))], [(1, [.l (.sl (a0.cells.map TCell.c))])], []⟩) (fun n i => i_IsValidNotebook_u1 k a0 n i = some e1) k 0 hM (by simp [i_IsValidNotebook_u1]) ?_
    intro KL5 n x1 hL5 hM F; have hM : i_IsValidNotebook_u1 k a0 (n + 1) x1 = some e1 := hM; rw [i_IsValidNotebook_u1] at hM; refine AW_sr fun K h => ?_; simp [go_sem, F]; refine h _ ?_; refine AW_seq fun K6 hK6 => ?_; refine AW_if hM (fun h7 hM => ?_) (fun h7 hM => ?_)
    · have g := h7; (try simp at g); have F := And.intro F (And.intro h7 (And.intro g (lT h7))); refine AW_skip ?_; refine hK6 _ ?_; refine AW_seq fun K8 hK8 => ?_; refine AW_block ?_; obtain ⟨x2, e9, hM⟩ := bind_some hM; have F := And.intro F (at_f e9); refine AW_sr fun K h => ?_; simp [go_sem, F]; refine h _ ?_; obtain ⟨e10, hU12, hR11⟩ := bind_some hM; clear hM; refine AW_mid (ι := Bool) (fun i => ⟨29, [(1, .one (.box 1 0)), (6, .one (.l (.sl (a0.cells.map TCell.c)))), (7, .one (.l (.int .i64 (a0.cells.length : Int)))), (8, .one (.l (.int .i64 x1))), (23, .one (.l (.bool i)))], [(1, [.l (.sl (a0.cells.map TCell.c))])], []⟩) (fun i => i = e10) ?_ ?_
      · intro K13 hK13; have hM := hU12; clear hU12; obtain ⟨x4, e14, hM⟩ := bind_some hM; rcases ifM hM with ⟨h15, hM⟩ | ⟨h15, hM⟩
        · have g := h15; (try simp at g); have F := And.intro F (And.intro h15 g); refine AW_region ?_; simp [go_sem, F]; refine by_c false (i_IsValidCell_ctr k x2 x4 e14) ?_; simp [go_sem, F]; obtain rfl := si hM; exact fin hK13 true rfl
        · have g := h15; (try simp at g); have F := And.intro F (And.intro h15 g); obtain ⟨x5, e16, hM⟩ := bind_some hM; refine AW_region ?_; simp [go_sem, F]; refine by_c false (i_IsValidCell_ctr k x2 x4 e14) ?_; simp [go_sem, F]; refine by_c false (i_CellIndex_ctr k a0 x2.id x5 e16) ?_; simp [go_sem, F]; obtain rfl := si hM; exact fin hK13 (!decide (x5 = x1)) rfl
      · rintro x3 rfl; have hM := hR11; (try dsimp only at hM); refine AW_if hM (fun h17 hM => ?_) (fun h17 hM => ?_)
        · have g := h17; (try simp at g); have F := And.intro F (And.intro h17 g); refine AW_sr fun K h => ?_; simp [go_sem, F]; refine h _ ?_; obtain rfl := si hM; have hM := hR2; dsimp only at hM; obtain rfl := si hM; refine AW_ret ?_; simp [go_sem, F]
        · have g := h17; (try simp at g); have F := And.intro F (And.intro h17 g); refine AW_skip ?_; refine hK8 _ ?_; refine AW_region ?_; simp [go_sem, F]; exact fin hL5 (IntKind.i64.wrap (x1 + 1)) hM
    · have g := h7; (try simp at g); have F := And.intro F (And.intro h7 (And.intro g (lF h7))); refine AW_exit ?_; obtain rfl := si hM; exact fin hK4 () rfl
  · rintro _ rfl; have hM := hR2; dsimp only at hM; refine AW_sr fun K h => ?_; simp [go_sem, F]; refine h _ ?_; obtain rfl := si hM; refine AW_ret ?_; simp [go_sem, F]
theorem i_isNumber_ctr (a0 : Int) (r : Bool) (hM : i_isNumber a0 = some r) : Ctr Tryz.prog 93 [.one (.int .i64 a0)] true [.one (.bool r)] := by
  unfold i_isNumber at hM
  refine walkM Tryz.func93 Tryz.ntmps93 Tryz.results93 fun N w0 hbad F => ?_
  refine AW_sr fun K h => ?_; simp [go_sem, F]; refine h _ ?_; obtain ⟨x1, e1, hM⟩ := bind_some hM; refine AW_sr fun K h => ?_; simp [go_sem, F]; refine by_c false (i_within_ctr a0 (-1000000000) 1000000000 x1 e1) ?_; simp [go_sem, F]; refine h _ ?_; obtain rfl := si hM; refine AW_ret ?_; simp [go_sem, F]
theorem i_IsValidText_ctr (k : Nat) (a0 : ByteArray) (r : Bool) (hM : i_IsValidText k a0 = some r) : Ctr Tryz.prog 94 [.one (.str a0)] true [.one (.bool r)] := by
  unfold i_IsValidText at hM
  refine walkM Tryz.func94 Tryz.ntmps94 Tryz.results94 fun N w0 hbad F => ?_
  refine AW_sr fun K h => ?_; simp [go_sem, F]; refine h _ ?_; obtain ⟨e1, hU3, hR2⟩ := bind_some hM; clear hM; refine AW_mid (ι := Unit) (fun i => ⟨29, [(0, .one (.l (.str a0)))], [], []⟩) (fun i => (.inl i) = e1) ?_ ?_
  · intro K4 hK4; have hM := hU3; clear hU3; refine AW_sr fun K h => ?_; simp [go_sem, F]; refine h _ ?_; refine AW_block ?_; refine AW_lp (ι := Int) (fun i => ⟨29, [(0, .one (.l (.str a0))), (3, .one (.l (.int .i64 i)))], [], []⟩) (fun n i => i_IsValidText_u1 a0 n i = some e1) k 0 hM (by simp [i_IsValidText_u1]) ?_; intro KL5 n x1 hL5 hM F; have hM : i_IsValidText_u1 a0 (n + 1) x1 = some e1 := hM; rw [i_IsValidText_u1] at hM
    refine AW_seq fun K6 hK6 => ?_; refine AW_sr fun K h => ?_; simp [go_sem, F]; refine h _ ?_; refine AW_if hM (fun h7 hM => ?_) (fun h7 hM => ?_)
    · have g := h7; (try simp at g); have F := And.intro F (And.intro h7 (And.intro g (lT h7))); refine AW_skip ?_; refine hK6 _ ?_; refine AW_seq fun K8 hK8 => ?_; refine AW_block ?_; obtain ⟨e9, hU11, hR10⟩ := bind_some hM; clear hM; refine AW_mid (ι := Bool) (fun i => ⟨29, [(0, .one (.l (.str a0))), (3, .one (.l (.int .i64 x1))), (25, .one (.l (.bool i)))], [], []⟩) (fun i => i = e9) ?_ ?_
      · intro K12 hK12; have hM := hU11; clear hU11; obtain ⟨x3, e13, hM⟩ := bind_some hM; have F := And.intro F (at_f e13); rcases ifM hM with ⟨h14, hM⟩ | ⟨h14, hM⟩
        · have g := h14; (try simp at g); have F := And.intro F (And.intro h14 (And.intro g (lT h14))); refine AW_region ?_; simp [go_sem, F]; obtain rfl := si hM; exact fin hK12 true rfl
        · have g := h14; (try simp at g); have F := And.intro F (And.intro h14 (And.intro g (lF h14))); rcases ifM hM with ⟨h15, hM⟩ | ⟨h15, hM⟩
          · have g := h15; (try simp at g); have F := And.intro F (And.intro h15 (And.intro g (lT h15))); refine AW_region ?_; simp [go_sem, F]; obtain rfl := si hM; exact fin hK12 true rfl
          · have g := h15; (try simp at g); have F := And.intro F (And.intro h15 (And.intro g (lF h15))); refine AW_region ?_; simp [go_sem, F]; obtain rfl := si hM; exact fin hK12 (decide ((x3.toNat : Int) = 34)) rfl
      · rintro x2 rfl; have hM := hR10; (try dsimp only at hM); refine AW_if hM (fun h16 hM => ?_) (fun h16 hM => ?_)
        · have g := h16; (try simp at g); have F := And.intro F (And.intro h16 g); refine AW_sr fun K h => ?_; simp [go_sem, F]; refine h _ ?_; obtain rfl := si hM; have hM := hR2; dsimp only at hM; obtain rfl := si hM; refine AW_ret ?_; simp [go_sem, F]
        · have g := h16; (try simp at g); have F := And.intro F (And.intro h16 g); refine AW_skip ?_; refine hK8 _ ?_; refine AW_region ?_; simp [go_sem, F]; exact fin hL5 (IntKind.i64.wrap (x1 + 1)) hM
    · have g := h7; (try simp at g); have F := And.intro F (And.intro h7 (And.intro g (lF h7))); refine AW_exit ?_; obtain rfl := si hM; exact fin hK4 () rfl
  · rintro _ rfl; have hM := hR2; dsimp only at hM; refine AW_sr fun K h => ?_; simp [go_sem, F]; refine h _ ?_; obtain rfl := si hM; refine AW_ret ?_; simp [go_sem, F]
end Go.Proofs.YtmiboaogfjgkjaaGreatDoor
