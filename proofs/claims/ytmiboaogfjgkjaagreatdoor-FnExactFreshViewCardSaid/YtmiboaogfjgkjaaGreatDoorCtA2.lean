/- Contracts of the program's functions: where the mirrored function answers, the program's function returns this answer. Written by a program of mine. -/
import Derived.Test.YtmiboaogfjgkjaaGreatDoorWn
import Derived.Test.YtmiboaogfjgkjaaGreatDoorMdA2
import Derived.Test.YtmiboaogfjgkjaaGreatDoorCtA1
set_option linter.unusedSimpArgs false
set_option linter.unusedVariables false
namespace Go.Proofs.YtmiboaogfjgkjaaGreatDoor
open Go.RowKit Am
set_option maxHeartbeats 4000000
set_option maxRecDepth 100000
theorem w_toTape_ctr (k : Nat) (a0 : TTape) (r : TTape) (hM : w_toTape k a0 = some r) : Ctr Tryz.prog 43 [.agg (TTape.c a0)] true [.agg (TTape.c r)] := by
  unfold w_toTape at hM
  refine walkM Tryz.func43 Tryz.ntmps43 Tryz.results43 fun N w0 hbad F => ?_
  refine AW_sr fun K h => ?_; simp [go_sem, F]; refine h _ ?_; refine AW_sr fun K h => ?_; simp [go_sem, F]; refine h _ ?_; refine AW_sr fun K h => ?_; simp [go_sem, F]; refine h _ ?_; refine AW_sr fun K h => ?_; simp [go_sem, F]; refine h _ ?_; obtain ⟨x1, e1, hM⟩ := bind_some hM; refine AW_sr fun K h => ?_; simp [go_sem, F]; refine by_c false (w_toReadS_ctr k a0.reads x1 e1) ?_; simp [go_sem, F]
  refine h _ ?_; refine AW_sr fun K h => ?_; simp [go_sem, F]; refine h _ ?_; obtain rfl := si hM; refine AW_ret ?_; simp [go_sem, F]
theorem w_toTapeS_ctr (k : Nat) (a0 : List TTape) (r : List TTape) (hM : w_toTapeS k a0 = some r) : Ctr Tryz.prog 24 [.one (.sl (a0.map TTape.c))] true [.one (.sl (r.map TTape.c))] := by
  unfold w_toTapeS at hM
  refine walkM Tryz.func24 Tryz.ntmps24 Tryz.results24 fun N w0 hbad F => ?_
  refine AW_sr fun K h => ?_; simp [go_sem, F]; refine h _ ?_; obtain ⟨x1, e1, hM⟩ := bind_some hM; obtain ⟨c2, s3⟩ := mk_spec e1; replace c2 := c2.symm; subst c2; (try simp at s3); have F := And.intro F s3; refine AW_sr fun K h => ?_; simp [go_sem, F]; refine h _ ?_; obtain ⟨e6, hU8, hR7⟩ := bind_some hM; clear hM; refine AW_mid (ι := List TTape) (fun i => ⟨23, [(3, .one (.own 448 i.length))], [], [(448, some ⟨true, i.map TTape.c⟩)]⟩) (fun i => i = e6) ?_ ?_
  · intro K9 hK9; have hM := hU8; clear hU8; refine AW_sr fun K h => ?_; simp [go_sem, F]; refine h _ ?_; refine AW_block ?_; refine AW_lp (ι := (List TTape) × Int) (fun i => ⟨23, [(0, .one (.l (.sl (a0.map TTape.c)))), (3, .one (.own 448 i.1.length)), (4, .one (.l (.int .i64 i.2)))], [], [(448, some ⟨true, i.1.map TTape.c⟩)]⟩) (fun n i => w_toTapeS_u1 k a0 n i.1 i.2 = some e6) k ((List.replicate ((a0.length : Int).toNat) (TTape.mk 0 0 [])), 0) hM (by simp [w_toTapeS_u1]) ?_
    intro KL10 n ⟨x3, x4⟩ hL10 hM F; have hM : w_toTapeS_u1 k a0 (n + 1) x3 x4 = some e6 := hM; rw [w_toTapeS_u1] at hM; refine AW_seq fun K11 hK11 => ?_; refine AW_sr fun K h => ?_; simp [go_sem, F]; refine h _ ?_; refine AW_if hM (fun h12 hM => ?_) (fun h12 hM => ?_)
    · have g := h12; (try simp at g); have F := And.intro F (And.intro h12 (And.intro g (lT h12))); refine AW_skip ?_; refine hK11 _ ?_; refine AW_seq fun K13 hK13 => ?_; refine AW_block ?_; obtain ⟨x5, e14, hM⟩ := bind_some hM; have F := And.intro F (at_f e14); obtain ⟨x6, e15, hM⟩ := bind_some hM; obtain ⟨x7, e16, hM⟩ := bind_some hM; have F := And.intro F (at_f e16); have F := And.intro F (at_l e16)
      refine AW_region ?_; simp [go_sem, F]; refine by_c false (w_toTape_ctr k x5 x6 e15) ?_; simp [go_sem, F]; refine hK13 _ ?_; refine AW_region ?_; simp [go_sem, F]; exact fin hL10 ((x3.set x4.toNat x6), (IntKind.i64.wrap (x4 + 1))) hM
    · have g := h12; (try simp at g); have F := And.intro F (And.intro h12 (And.intro g (lF h12))); refine AW_exit ?_; obtain rfl := si hM; exact fin hK9 x3 rfl
  · rintro x2 rfl; have hM := hR7; (try dsimp only at hM); refine AW_sr fun K h => ?_; simp [go_sem, F]; refine h _ ?_; obtain rfl := si hM; refine AW_ret ?_; simp [go_sem, F]
theorem w_toRun_ctr (k : Nat) (a0 : TRun) (r : TRun) (hM : w_toRun k a0 = some r) : Ctr Tryz.prog 8 [.agg (TRun.c a0)] true [.agg (TRun.c r)] := by
  unfold w_toRun at hM
  refine walkM Tryz.func8 Tryz.ntmps8 Tryz.results8 fun N w0 hbad F => ?_
  refine AW_sr fun K h => ?_; simp [go_sem, F]; refine h _ ?_; refine AW_sr fun K h => ?_; simp [go_sem, F]; refine h _ ?_; obtain ⟨x1, e1, hM⟩ := bind_some hM; refine AW_sr fun K h => ?_; simp [go_sem, F]; refine by_c false (w_toValueS_ctr k a0.values x1 e1) ?_; simp [go_sem, F]; refine h _ ?_; obtain ⟨x2, e2, hM⟩ := bind_some hM; refine AW_sr fun K h => ?_; simp [go_sem, F]; refine by_c false (w_toTapeS_ctr k a0.tapes x2 e2) ?_
  simp [go_sem, F]; refine h _ ?_; refine AW_sr fun K h => ?_; simp [go_sem, F]; refine h _ ?_; refine AW_sr fun K h => ?_; simp [go_sem, F]; refine h _ ?_; obtain rfl := si hM; refine AW_ret ?_; simp [go_sem, F]
theorem w_eqLine_ctr (a0 : TLine) (a1 : TLine) (r : Bool) (hM : w_eqLine a0 a1 = some r) : Ctr Tryz.prog 27 [.agg (TLine.c a0), .agg (TLine.c a1)] true [.one (.bool r)] := by
  unfold w_eqLine at hM
  refine walkM Tryz.func27 Tryz.ntmps27 Tryz.results27 fun N w0 hbad F => ?_
  refine AW_sr fun K h => ?_; simp [go_sem, F]; refine h _ ?_; refine AW_seq fun K1 hK1 => ?_; refine AW_sr fun K h => ?_; simp [go_sem, F]; refine h _ ?_; refine AW_if hM (fun h2 hM => ?_) (fun h2 hM => ?_)
  · have g := h2; (try simp at g); have F := And.intro F (And.intro h2 g); refine AW_sr fun K h => ?_; simp [go_sem, F]; refine h _ ?_; obtain rfl := si hM; refine AW_ret ?_; simp [go_sem, F]
  · have g := h2; (try simp at g); have F := And.intro F (And.intro h2 g); refine AW_skip ?_; refine hK1 _ ?_; refine AW_seq fun K3 hK3 => ?_; refine AW_sr fun K h => ?_; simp [go_sem, F]; refine h _ ?_; refine AW_if hM (fun h4 hM => ?_) (fun h4 hM => ?_)
    · have g := h4; (try simp at g); have F := And.intro F (And.intro h4 g); refine AW_sr fun K h => ?_; simp [go_sem, F]; refine h _ ?_; obtain rfl := si hM; refine AW_ret ?_; simp [go_sem, F]
    · have g := h4; (try simp at g); have F := And.intro F (And.intro h4 g); refine AW_skip ?_; refine hK3 _ ?_; refine AW_seq fun K5 hK5 => ?_; refine AW_sr fun K h => ?_; simp [go_sem, F]; refine h _ ?_; refine AW_if hM (fun h6 hM => ?_) (fun h6 hM => ?_)
      · have g := h6; (try simp at g); have F := And.intro F (And.intro h6 g); refine AW_sr fun K h => ?_; simp [go_sem, F]; refine h _ ?_; obtain rfl := si hM; refine AW_ret ?_; simp [go_sem, F]
      · have g := h6; (try simp at g); have F := And.intro F (And.intro h6 g); refine AW_skip ?_; refine hK5 _ ?_; refine AW_sr fun K h => ?_; simp [go_sem, F]; refine h _ ?_; obtain rfl := si hM; refine AW_ret ?_; simp [go_sem, F]
theorem w_eqLineS_ctr (k : Nat) (a0 : List TLine) (a1 : List TLine) (r : Bool) (hM : w_eqLineS k a0 a1 = some r) : Ctr Tryz.prog 10 [.one (.sl (a0.map TLine.c)), .one (.sl (a1.map TLine.c))] true [.one (.bool r)] := by
  unfold w_eqLineS at hM
  refine walkM Tryz.func10 Tryz.ntmps10 Tryz.results10 fun N w0 hbad F => ?_
  refine AW_sr fun K h => ?_; simp [go_sem, F]; refine h _ ?_; refine AW_seq fun K1 hK1 => ?_; refine AW_sr fun K h => ?_; simp [go_sem, F]; refine h _ ?_; refine AW_if hM (fun h2 hM => ?_) (fun h2 hM => ?_)
  · have g := h2; (try simp at g); have F := And.intro F (And.intro h2 g); refine AW_sr fun K h => ?_; simp [go_sem, F]; refine h _ ?_; obtain rfl := si hM; refine AW_ret ?_; simp [go_sem, F]
  · have g := h2; (try simp at g); have F := And.intro F (And.intro h2 g); refine AW_skip ?_; refine hK1 _ ?_; obtain ⟨e3, hU5, hR4⟩ := bind_some hM; clear hM; refine AW_mid (ι := Unit) (fun i => ⟨27, [], [], []⟩) (fun i => (.inl i) = e3) ?_ ?_
    · intro K6 hK6; have hM := hU5; clear hU5; refine AW_sr fun K h => ?_; simp [go_sem, F]; refine h _ ?_; refine AW_block ?_; refine AW_lp (ι := Int) (fun i => ⟨27, [(0, .one (.l (.sl (a0.map TLine.c)))), (1, .one (.l (.sl (a1.map TLine.c)))), (5, .one (.l (.int .i64 i)))], [], []⟩) (fun n i => w_eqLineS_u1 a0 a1 n i = some e3) k 0 hM (by simp [w_eqLineS_u1]) ?_; intro KL7 n x1 hL7 hM F; have hM : w_eqLineS_u1 a0 a1 (n + 1) x1 = some e3 := hM; rw [w_eqLineS_u1] at hM
      refine AW_seq fun K8 hK8 => ?_; refine AW_sr fun K h => ?_; simp [go_sem, F]; refine h _ ?_; refine AW_if hM (fun h9 hM => ?_) (fun h9 hM => ?_)
      · have g := h9; (try simp at g); have F := And.intro F (And.intro h9 (And.intro g (lT h9))); refine AW_skip ?_; refine hK8 _ ?_; refine AW_seq fun K10 hK10 => ?_; refine AW_block ?_; refine AW_seq fun K11 hK11 => ?_; obtain ⟨x2, e12, hM⟩ := bind_some hM; have F := And.intro F (at_f e12); obtain ⟨x3, e13, hM⟩ := bind_some hM; have F := And.intro F (at_f e13); obtain ⟨x4, e14, hM⟩ := bind_some hM
        refine AW_quickN 8 mixed (by kernel_rfl) (by kernel_rfl) ?_; simp [go_sem, F]; refine by_c false (w_eqLine_ctr x2 x3 x4 e14) ?_; simp [go_sem, F]; refine hK11 _ ?_; refine AW_if hM (fun h15 hM => ?_) (fun h15 hM => ?_)
        · have g := h15; (try simp at g); have F := And.intro F (And.intro h15 g); refine AW_sr fun K h => ?_; simp [go_sem, F]; refine h _ ?_; obtain rfl := si hM; have hM := hR4; dsimp only at hM; obtain rfl := si hM; refine AW_ret ?_; simp [go_sem, F]
        · have g := h15; (try simp at g); have F := And.intro F (And.intro h15 g); refine AW_skip ?_; refine hK10 _ ?_; refine AW_region ?_; simp [go_sem, F]; exact fin hL7 (IntKind.i64.wrap (x1 + 1)) hM
      · have g := h9; (try simp at g); have F := And.intro F (And.intro h9 (And.intro g (lF h9))); refine AW_exit ?_; obtain rfl := si hM; exact fin hK6 () rfl
    · rintro _ rfl; have hM := hR4; dsimp only at hM; refine AW_sr fun K h => ?_; simp [go_sem, F]; refine h _ ?_; obtain rfl := si hM; refine AW_ret ?_; simp [go_sem, F]
theorem w_eqCell_ctr (a0 : TCell) (a1 : TCell) (r : Bool) (hM : w_eqCell a0 a1 = some r) : Ctr Tryz.prog 47 [.agg (TCell.c a0), .agg (TCell.c a1)] true [.one (.bool r)] := by
  unfold w_eqCell at hM
  refine walkM Tryz.func47 Tryz.ntmps47 Tryz.results47 fun N w0 hbad F => ?_
  refine AW_sr fun K h => ?_; simp [go_sem, F]; refine h _ ?_; refine AW_seq fun K1 hK1 => ?_; refine AW_sr fun K h => ?_; simp [go_sem, F]; refine h _ ?_; refine AW_if hM (fun h2 hM => ?_) (fun h2 hM => ?_)
  · have g := h2; (try simp at g); have F := And.intro F (And.intro h2 g); refine AW_sr fun K h => ?_; simp [go_sem, F]; refine h _ ?_; obtain rfl := si hM; refine AW_ret ?_; simp [go_sem, F]
  · have g := h2; (try simp at g); have F := And.intro F (And.intro h2 g); refine AW_skip ?_; refine hK1 _ ?_; refine AW_seq fun K3 hK3 => ?_; refine AW_sr fun K h => ?_; simp [go_sem, F]; refine h _ ?_; refine AW_if hM (fun h4 hM => ?_) (fun h4 hM => ?_)
    · have g := h4; (try simp at g); have F := And.intro F (And.intro h4 g); refine AW_sr fun K h => ?_; simp [go_sem, F]; refine h _ ?_; obtain rfl := si hM; refine AW_ret ?_; simp [go_sem, F]
    · have g := h4; (try simp at g); have F := And.intro F (And.intro h4 g); refine AW_skip ?_; refine hK3 _ ?_; refine AW_seq fun K5 hK5 => ?_; refine AW_sr fun K h => ?_; simp [go_sem, F]; refine h _ ?_; refine AW_if hM (fun h6 hM => ?_) (fun h6 hM => ?_)
      · have g := h6; (try simp at g); have F := And.intro F (And.intro h6 g); refine AW_sr fun K h => ?_; simp [go_sem, F]; refine h _ ?_; obtain rfl := si hM; refine AW_ret ?_; simp [go_sem, F]
      · have g := h6; (try simp at g); have F := And.intro F (And.intro h6 g); refine AW_skip ?_; refine hK5 _ ?_; refine AW_seq fun K7 hK7 => ?_; refine AW_sr fun K h => ?_; simp [go_sem, F]; refine h _ ?_; refine AW_if hM (fun h8 hM => ?_) (fun h8 hM => ?_)
        · have g := h8; (try simp at g); have F := And.intro F (And.intro h8 g); refine AW_sr fun K h => ?_; simp [go_sem, F]; refine h _ ?_; obtain rfl := si hM; refine AW_ret ?_; simp [go_sem, F]
        · have g := h8; (try simp at g); have F := And.intro F (And.intro h8 g); refine AW_skip ?_; refine hK7 _ ?_; refine AW_seq fun K9 hK9 => ?_; refine AW_sr fun K h => ?_; simp [go_sem, F]; refine h _ ?_; refine AW_if hM (fun h10 hM => ?_) (fun h10 hM => ?_)
          · have g := h10; (try simp at g); have F := And.intro F (And.intro h10 g); refine AW_sr fun K h => ?_; simp [go_sem, F]; refine h _ ?_; obtain rfl := si hM; refine AW_ret ?_; simp [go_sem, F]
          · have g := h10; (try simp at g); have F := And.intro F (And.intro h10 g); refine AW_skip ?_; refine hK9 _ ?_; refine AW_seq fun K11 hK11 => ?_; refine AW_sr fun K h => ?_; simp [go_sem, F]; refine h _ ?_; refine AW_if hM (fun h12 hM => ?_) (fun h12 hM => ?_)
            · have g := h12; (try simp at g); have F := And.intro F (And.intro h12 g); refine AW_sr fun K h => ?_; simp [go_sem, F]; refine h _ ?_; obtain rfl := si hM; refine AW_ret ?_; simp [go_sem, F]
            · have g := h12; (try simp at g); have F := And.intro F (And.intro h12 g); refine AW_skip ?_; refine hK11 _ ?_; refine AW_sr fun K h => ?_; simp [go_sem, F]; refine h _ ?_; obtain rfl := si hM; refine AW_ret ?_; simp [go_sem, F]
theorem w_eqCellS_ctr (k : Nat) (a0 : List TCell) (a1 : List TCell) (r : Bool) (hM : w_eqCellS k a0 a1 = some r) : Ctr Tryz.prog 28 [.one (.sl (a0.map TCell.c)), .one (.sl (a1.map TCell.c))] true [.one (.bool r)] := by
  unfold w_eqCellS at hM
  refine walkM Tryz.func28 Tryz.ntmps28 Tryz.results28 fun N w0 hbad F => ?_
  refine AW_sr fun K h => ?_; simp [go_sem, F]; refine h _ ?_; refine AW_seq fun K1 hK1 => ?_; refine AW_sr fun K h => ?_; simp [go_sem, F]; refine h _ ?_; refine AW_if hM (fun h2 hM => ?_) (fun h2 hM => ?_)
  · have g := h2; (try simp at g); have F := And.intro F (And.intro h2 g); refine AW_sr fun K h => ?_; simp [go_sem, F]; refine h _ ?_; obtain rfl := si hM; refine AW_ret ?_; simp [go_sem, F]
  · have g := h2; (try simp at g); have F := And.intro F (And.intro h2 g); refine AW_skip ?_; refine hK1 _ ?_; obtain ⟨e3, hU5, hR4⟩ := bind_some hM; clear hM; refine AW_mid (ι := Unit) (fun i => ⟨27, [], [], []⟩) (fun i => (.inl i) = e3) ?_ ?_
    · intro K6 hK6; have hM := hU5; clear hU5; refine AW_sr fun K h => ?_; simp [go_sem, F]; refine h _ ?_; refine AW_block ?_; refine AW_lp (ι := Int) (fun i => ⟨27, [(0, .one (.l (.sl (a0.map TCell.c)))), (1, .one (.l (.sl (a1.map TCell.c)))), (5, .one (.l (.int .i64 i)))], [], []⟩) (fun n i => w_eqCellS_u1 a0 a1 n i = some e3) k 0 hM (by simp [w_eqCellS_u1]) ?_; intro KL7 n x1 hL7 hM F; have hM : w_eqCellS_u1 a0 a1 (n + 1) x1 = some e3 := hM; rw [w_eqCellS_u1] at hM
      refine AW_seq fun K8 hK8 => ?_; refine AW_sr fun K h => ?_; simp [go_sem, F]; refine h _ ?_; refine AW_if hM (fun h9 hM => ?_) (fun h9 hM => ?_)
      · have g := h9; (try simp at g); have F := And.intro F (And.intro h9 (And.intro g (lT h9))); refine AW_skip ?_; refine hK8 _ ?_; refine AW_seq fun K10 hK10 => ?_; refine AW_block ?_; refine AW_seq fun K11 hK11 => ?_; obtain ⟨x2, e12, hM⟩ := bind_some hM; have F := And.intro F (at_f e12); obtain ⟨x3, e13, hM⟩ := bind_some hM; have F := And.intro F (at_f e13); obtain ⟨x4, e14, hM⟩ := bind_some hM
        refine AW_quickN 8 mixed (by kernel_rfl) (by kernel_rfl) ?_; simp [go_sem, F]; refine by_c false (w_eqCell_ctr x2 x3 x4 e14) ?_; simp [go_sem, F]; refine hK11 _ ?_; refine AW_if hM (fun h15 hM => ?_) (fun h15 hM => ?_)
        · have g := h15; (try simp at g); have F := And.intro F (And.intro h15 g); refine AW_sr fun K h => ?_; simp [go_sem, F]; refine h _ ?_; obtain rfl := si hM; have hM := hR4; dsimp only at hM; obtain rfl := si hM; refine AW_ret ?_; simp [go_sem, F]
        · have g := h15; (try simp at g); have F := And.intro F (And.intro h15 g); refine AW_skip ?_; refine hK10 _ ?_; refine AW_region ?_; simp [go_sem, F]; exact fin hL7 (IntKind.i64.wrap (x1 + 1)) hM
      · have g := h9; (try simp at g); have F := And.intro F (And.intro h9 (And.intro g (lF h9))); refine AW_exit ?_; obtain rfl := si hM; exact fin hK6 () rfl
    · rintro _ rfl; have hM := hR4; dsimp only at hM; refine AW_sr fun K h => ?_; simp [go_sem, F]; refine h _ ?_; obtain rfl := si hM; refine AW_ret ?_; simp [go_sem, F]
theorem w_eqNotebook_ctr (k : Nat) (a0 : TNotebook) (a1 : TNotebook) (r : Bool) (hM : w_eqNotebook k a0 a1 = some r) : Ctr Tryz.prog 11 [.agg (TNotebook.c a0), .agg (TNotebook.c a1)] true [.one (.bool r)] := by
  unfold w_eqNotebook at hM
  refine walkM Tryz.func11 Tryz.ntmps11 Tryz.results11 fun N w0 hbad F => ?_
  refine AW_sr fun K h => ?_; simp [go_sem, F]; refine h _ ?_; refine AW_seq fun K1 hK1 => ?_; obtain ⟨x1, e2, hM⟩ := bind_some hM; refine AW_sr fun K h => ?_; simp [go_sem, F]; refine by_c false (w_eqCellS_ctr k a0.cells a1.cells x1 e2) ?_; simp [go_sem, F]; refine h _ ?_; refine AW_if hM (fun h3 hM => ?_) (fun h3 hM => ?_)
  · have g := h3; (try simp at g); have F := And.intro F (And.intro h3 g); refine AW_sr fun K h => ?_; simp [go_sem, F]; refine h _ ?_; obtain rfl := si hM; refine AW_ret ?_; simp [go_sem, F]
  · have g := h3; (try simp at g); have F := And.intro F (And.intro h3 g); refine AW_skip ?_; refine hK1 _ ?_; refine AW_sr fun K h => ?_; simp [go_sem, F]; refine h _ ?_; obtain rfl := si hM; refine AW_ret ?_; simp [go_sem, F]
theorem w_eqStringS_ctr (k : Nat) (a0 : List ByteArray) (a1 : List ByteArray) (r : Bool) (hM : w_eqStringS k a0 a1 = some r) : Ctr Tryz.prog 72 [.one (.sl (a0.map sC)), .one (.sl (a1.map sC))] true [.one (.bool r)] := by
  unfold w_eqStringS at hM
  refine walkM Tryz.func72 Tryz.ntmps72 Tryz.results72 fun N w0 hbad F => ?_
  refine AW_sr fun K h => ?_; simp [go_sem, F]; refine h _ ?_; refine AW_seq fun K1 hK1 => ?_; refine AW_sr fun K h => ?_; simp [go_sem, F]; refine h _ ?_; refine AW_if hM (fun h2 hM => ?_) (fun h2 hM => ?_)
  · have g := h2; (try simp at g); have F := And.intro F (And.intro h2 g); refine AW_sr fun K h => ?_; simp [go_sem, F]; refine h _ ?_; obtain rfl := si hM; refine AW_ret ?_; simp [go_sem, F]
  · have g := h2; (try simp at g); have F := And.intro F (And.intro h2 g); refine AW_skip ?_; refine hK1 _ ?_; obtain ⟨e3, hU5, hR4⟩ := bind_some hM; clear hM; refine AW_mid (ι := Unit) (fun i => ⟨26, [], [], []⟩) (fun i => (.inl i) = e3) ?_ ?_
    · intro K6 hK6; have hM := hU5; clear hU5; refine AW_sr fun K h => ?_; simp [go_sem, F]; refine h _ ?_; refine AW_block ?_; refine AW_lp (ι := Int) (fun i => ⟨26, [(0, .one (.l (.sl (a0.map sC)))), (1, .one (.l (.sl (a1.map sC)))), (5, .one (.l (.int .i64 i)))], [], []⟩) (fun n i => w_eqStringS_u1 a0 a1 n i = some e3) k 0 hM (by simp [w_eqStringS_u1]) ?_; intro KL7 n x1 hL7 hM F; have hM : w_eqStringS_u1 a0 a1 (n + 1) x1 = some e3 := hM; rw [w_eqStringS_u1] at hM
      refine AW_seq fun K8 hK8 => ?_; refine AW_sr fun K h => ?_; simp [go_sem, F]; refine h _ ?_; refine AW_if hM (fun h9 hM => ?_) (fun h9 hM => ?_)
      · have g := h9; (try simp at g); have F := And.intro F (And.intro h9 (And.intro g (lT h9))); refine AW_skip ?_; refine hK8 _ ?_; refine AW_seq fun K10 hK10 => ?_; refine AW_block ?_; refine AW_seq fun K11 hK11 => ?_; obtain ⟨x2, e12, hM⟩ := bind_some hM; have F := And.intro F (at_f e12); obtain ⟨x3, e13, hM⟩ := bind_some hM; have F := And.intro F (at_f e13); refine AW_quickN 8 mixed (by kernel_rfl) (by kernel_rfl) ?_
        simp [go_sem, F]; refine hK11 _ ?_; refine AW_if hM (fun h14 hM => ?_) (fun h14 hM => ?_)
        · have g := h14; (try simp at g); have F := And.intro F (And.intro h14 g); refine AW_sr fun K h => ?_; simp [go_sem, F]; refine h _ ?_; obtain rfl := si hM; have hM := hR4; dsimp only at hM; obtain rfl := si hM; refine AW_ret ?_; simp [go_sem, F]
        · have g := h14; (try simp at g); have F := And.intro F (And.intro h14 g); refine AW_skip ?_; refine hK10 _ ?_; refine AW_region ?_; simp [go_sem, F]; exact fin hL7 (IntKind.i64.wrap (x1 + 1)) hM
      · have g := h9; (try simp at g); have F := And.intro F (And.intro h9 (And.intro g (lF h9))); refine AW_exit ?_; obtain rfl := si hM; exact fin hK6 () rfl
    · rintro _ rfl; have hM := hR4; dsimp only at hM; refine AW_sr fun K h => ?_; simp [go_sem, F]; refine h _ ?_; obtain rfl := si hM; refine AW_ret ?_; simp [go_sem, F]
theorem w_eqIntS_ctr (k : Nat) (a0 : List Int) (a1 : List Int) (r : Bool) (hM : w_eqIntS k a0 a1 = some r) : Ctr Tryz.prog 119 [.one (.sl (a0.map iC)), .one (.sl (a1.map iC))] true [.one (.bool r)] := by
  unfold w_eqIntS at hM
  refine walkM Tryz.func119 Tryz.ntmps119 Tryz.results119 fun N w0 hbad F => ?_
  refine AW_sr fun K h => ?_; simp [go_sem, F]; refine h _ ?_; refine AW_seq fun K1 hK1 => ?_; refine AW_sr fun K h => ?_; simp [go_sem, F]; refine h _ ?_; refine AW_if hM (fun h2 hM => ?_) (fun h2 hM => ?_)
  · have g := h2; (try simp at g); have F := And.intro F (And.intro h2 g); refine AW_sr fun K h => ?_; simp [go_sem, F]; refine h _ ?_; obtain rfl := si hM; refine AW_ret ?_; simp [go_sem, F]
  · have g := h2; (try simp at g); have F := And.intro F (And.intro h2 g); refine AW_skip ?_; refine hK1 _ ?_; obtain ⟨e3, hU5, hR4⟩ := bind_some hM; clear hM; refine AW_mid (ι := Unit) (fun i => ⟨26, [], [], []⟩) (fun i => (.inl i) = e3) ?_ ?_
    · intro K6 hK6; have hM := hU5; clear hU5; refine AW_sr fun K h => ?_; simp [go_sem, F]; refine h _ ?_; refine AW_block ?_; refine AW_lp (ι := Int) (fun i => ⟨26, [(0, .one (.l (.sl (a0.map iC)))), (1, .one (.l (.sl (a1.map iC)))), (5, .one (.l (.int .i64 i)))], [], []⟩) (fun n i => w_eqIntS_u1 a0 a1 n i = some e3) k 0 hM (by simp [w_eqIntS_u1]) ?_; intro KL7 n x1 hL7 hM F; have hM : w_eqIntS_u1 a0 a1 (n + 1) x1 = some e3 := hM; rw [w_eqIntS_u1] at hM
      refine AW_seq fun K8 hK8 => ?_; refine AW_sr fun K h => ?_; simp [go_sem, F]; refine h _ ?_; refine AW_if hM (fun h9 hM => ?_) (fun h9 hM => ?_)
      · have g := h9; (try simp at g); have F := And.intro F (And.intro h9 (And.intro g (lT h9))); refine AW_skip ?_; refine hK8 _ ?_; refine AW_seq fun K10 hK10 => ?_; refine AW_block ?_; refine AW_seq fun K11 hK11 => ?_; obtain ⟨x2, e12, hM⟩ := bind_some hM; have F := And.intro F (at_f e12); obtain ⟨x3, e13, hM⟩ := bind_some hM; have F := And.intro F (at_f e13); refine AW_quickN 8 mixed (by kernel_rfl) (by kernel_rfl) ?_
        simp [go_sem, F]; refine hK11 _ ?_; refine AW_if hM (fun h14 hM => ?_) (fun h14 hM => ?_)
        · have g := h14; (try simp at g); have F := And.intro F (And.intro h14 g); refine AW_sr fun K h => ?_; simp [go_sem, F]; refine h _ ?_; obtain rfl := si hM; have hM := hR4; dsimp only at hM; obtain rfl := si hM; refine AW_ret ?_; simp [go_sem, F]
        · have g := h14; (try simp at g); have F := And.intro F (And.intro h14 g); refine AW_skip ?_; refine hK10 _ ?_; refine AW_region ?_; simp [go_sem, F]; exact fin hL7 (IntKind.i64.wrap (x1 + 1)) hM
      · have g := h9; (try simp at g); have F := And.intro F (And.intro h9 (And.intro g (lF h9))); refine AW_exit ?_; obtain rfl := si hM; exact fin hK6 () rfl
    · rintro _ rfl; have hM := hR4; dsimp only at hM; refine AW_sr fun K h => ?_; simp [go_sem, F]; refine h _ ?_; obtain rfl := si hM; refine AW_ret ?_; simp [go_sem, F]
theorem w_eqOrigin_ctr (a0 : TOrigin) (a1 : TOrigin) (r : Bool) (hM : w_eqOrigin a0 a1 = some r) : Ctr Tryz.prog 129 [.agg (TOrigin.c a0), .agg (TOrigin.c a1)] true [.one (.bool r)] := by
  unfold w_eqOrigin at hM
  refine walkM Tryz.func129 Tryz.ntmps129 Tryz.results129 fun N w0 hbad F => ?_
  refine AW_sr fun K h => ?_; simp [go_sem, F]; refine h _ ?_; refine AW_seq fun K1 hK1 => ?_; refine AW_sr fun K h => ?_; simp [go_sem, F]; refine h _ ?_; refine AW_if hM (fun h2 hM => ?_) (fun h2 hM => ?_)
  · have g := h2; (try simp at g); have F := And.intro F (And.intro h2 g); refine AW_sr fun K h => ?_; simp [go_sem, F]; refine h _ ?_; obtain rfl := si hM; refine AW_ret ?_; simp [go_sem, F]
  · have g := h2; (try simp at g); have F := And.intro F (And.intro h2 g); refine AW_skip ?_; refine hK1 _ ?_; refine AW_seq fun K3 hK3 => ?_; refine AW_sr fun K h => ?_; simp [go_sem, F]; refine h _ ?_; refine AW_if hM (fun h4 hM => ?_) (fun h4 hM => ?_)
    · have g := h4; (try simp at g); have F := And.intro F (And.intro h4 g); refine AW_sr fun K h => ?_; simp [go_sem, F]; refine h _ ?_; obtain rfl := si hM; refine AW_ret ?_; simp [go_sem, F]
    · have g := h4; (try simp at g); have F := And.intro F (And.intro h4 g); refine AW_skip ?_; refine hK3 _ ?_; refine AW_sr fun K h => ?_; simp [go_sem, F]; refine h _ ?_; obtain rfl := si hM; refine AW_ret ?_; simp [go_sem, F]
theorem w_eqOriginS_ctr (k : Nat) (a0 : List TOrigin) (a1 : List TOrigin) (r : Bool) (hM : w_eqOriginS k a0 a1 = some r) : Ctr Tryz.prog 120 [.one (.sl (a0.map TOrigin.c)), .one (.sl (a1.map TOrigin.c))] true [.one (.bool r)] := by
  unfold w_eqOriginS at hM
  refine walkM Tryz.func120 Tryz.ntmps120 Tryz.results120 fun N w0 hbad F => ?_
  refine AW_sr fun K h => ?_; simp [go_sem, F]; refine h _ ?_; refine AW_seq fun K1 hK1 => ?_; refine AW_sr fun K h => ?_; simp [go_sem, F]; refine h _ ?_; refine AW_if hM (fun h2 hM => ?_) (fun h2 hM => ?_)
  · have g := h2; (try simp at g); have F := And.intro F (And.intro h2 g); refine AW_sr fun K h => ?_; simp [go_sem, F]; refine h _ ?_; obtain rfl := si hM; refine AW_ret ?_; simp [go_sem, F]
  · have g := h2; (try simp at g); have F := And.intro F (And.intro h2 g); refine AW_skip ?_; refine hK1 _ ?_; obtain ⟨e3, hU5, hR4⟩ := bind_some hM; clear hM; refine AW_mid (ι := Unit) (fun i => ⟨27, [], [], []⟩) (fun i => (.inl i) = e3) ?_ ?_
    · intro K6 hK6; have hM := hU5; clear hU5; refine AW_sr fun K h => ?_; simp [go_sem, F]; refine h _ ?_; refine AW_block ?_; refine AW_lp (ι := Int) (fun i => ⟨27, [(0, .one (.l (.sl (a0.map TOrigin.c)))), (1, .one (.l (.sl (a1.map TOrigin.c)))), (5, .one (.l (.int .i64 i)))], [], []⟩) (fun n i => w_eqOriginS_u1 a0 a1 n i = some e3) k 0 hM (by simp [w_eqOriginS_u1]) ?_; intro KL7 n x1 hL7 hM F; have hM : w_eqOriginS_u1 a0 a1 (n + 1) x1 = some e3 := hM; rw [w_eqOriginS_u1] at hM
      refine AW_seq fun K8 hK8 => ?_; refine AW_sr fun K h => ?_; simp [go_sem, F]; refine h _ ?_; refine AW_if hM (fun h9 hM => ?_) (fun h9 hM => ?_)
      · have g := h9; (try simp at g); have F := And.intro F (And.intro h9 (And.intro g (lT h9))); refine AW_skip ?_; refine hK8 _ ?_; refine AW_seq fun K10 hK10 => ?_; refine AW_block ?_; refine AW_seq fun K11 hK11 => ?_; obtain ⟨x2, e12, hM⟩ := bind_some hM; have F := And.intro F (at_f e12); obtain ⟨x3, e13, hM⟩ := bind_some hM; have F := And.intro F (at_f e13); obtain ⟨x4, e14, hM⟩ := bind_some hM
        refine AW_quickN 8 mixed (by kernel_rfl) (by kernel_rfl) ?_; simp [go_sem, F]; refine by_c false (w_eqOrigin_ctr x2 x3 x4 e14) ?_; simp [go_sem, F]; refine hK11 _ ?_; refine AW_if hM (fun h15 hM => ?_) (fun h15 hM => ?_)
        · have g := h15; (try simp at g); have F := And.intro F (And.intro h15 g); refine AW_sr fun K h => ?_; simp [go_sem, F]; refine h _ ?_; obtain rfl := si hM; have hM := hR4; dsimp only at hM; obtain rfl := si hM; refine AW_ret ?_; simp [go_sem, F]
        · have g := h15; (try simp at g); have F := And.intro F (And.intro h15 g); refine AW_skip ?_; refine hK10 _ ?_; refine AW_region ?_; simp [go_sem, F]; exact fin hL7 (IntKind.i64.wrap (x1 + 1)) hM
      · have g := h9; (try simp at g); have F := And.intro F (And.intro h9 (And.intro g (lF h9))); refine AW_exit ?_; obtain rfl := si hM; exact fin hK6 () rfl
    · rintro _ rfl; have hM := hR4; dsimp only at hM; refine AW_sr fun K h => ?_; simp [go_sem, F]; refine h _ ?_; obtain rfl := si hM; refine AW_ret ?_; simp [go_sem, F]
theorem w_eqRow_ctr (k : Nat) (a0 : TRow) (a1 : TRow) (r : Bool) (hM : w_eqRow k a0 a1 = some r) : Ctr Tryz.prog 99 [.agg (TRow.c a0), .agg (TRow.c a1)] true [.one (.bool r)] := by
  unfold w_eqRow at hM
  refine walkM Tryz.func99 Tryz.ntmps99 Tryz.results99 fun N w0 hbad F => ?_
  refine AW_sr fun K h => ?_; simp [go_sem, F]; refine h _ ?_; refine AW_seq fun K1 hK1 => ?_; obtain ⟨x1, e2, hM⟩ := bind_some hM; refine AW_sr fun K h => ?_; simp [go_sem, F]; refine by_c false (w_eqIntS_ctr k a0.cells a1.cells x1 e2) ?_; simp [go_sem, F]; refine h _ ?_; refine AW_if hM (fun h3 hM => ?_) (fun h3 hM => ?_)
  · have g := h3; (try simp at g); have F := And.intro F (And.intro h3 g); refine AW_sr fun K h => ?_; simp [go_sem, F]; refine h _ ?_; obtain rfl := si hM; refine AW_ret ?_; simp [go_sem, F]
  · have g := h3; (try simp at g); have F := And.intro F (And.intro h3 g); refine AW_skip ?_; refine hK1 _ ?_; refine AW_seq fun K4 hK4 => ?_; obtain ⟨x2, e5, hM⟩ := bind_some hM; refine AW_sr fun K h => ?_; simp [go_sem, F]; refine by_c false (w_eqOriginS_ctr k a0.from_ a1.from_ x2 e5) ?_; simp [go_sem, F]; refine h _ ?_; refine AW_if hM (fun h6 hM => ?_) (fun h6 hM => ?_)
    · have g := h6; (try simp at g); have F := And.intro F (And.intro h6 g); refine AW_sr fun K h => ?_; simp [go_sem, F]; refine h _ ?_; obtain rfl := si hM; refine AW_ret ?_; simp [go_sem, F]
    · have g := h6; (try simp at g); have F := And.intro F (And.intro h6 g); refine AW_skip ?_; refine hK4 _ ?_; refine AW_sr fun K h => ?_; simp [go_sem, F]; refine h _ ?_; obtain rfl := si hM; refine AW_ret ?_; simp [go_sem, F]
theorem w_eqRowS_ctr (k : Nat) (a0 : List TRow) (a1 : List TRow) (r : Bool) (hM : w_eqRowS k a0 a1 = some r) : Ctr Tryz.prog 73 [.one (.sl (a0.map TRow.c)), .one (.sl (a1.map TRow.c))] true [.one (.bool r)] := by
  unfold w_eqRowS at hM
  refine walkM Tryz.func73 Tryz.ntmps73 Tryz.results73 fun N w0 hbad F => ?_
  refine AW_sr fun K h => ?_; simp [go_sem, F]; refine h _ ?_; refine AW_seq fun K1 hK1 => ?_; refine AW_sr fun K h => ?_; simp [go_sem, F]; refine h _ ?_; refine AW_if hM (fun h2 hM => ?_) (fun h2 hM => ?_)
  · have g := h2; (try simp at g); have F := And.intro F (And.intro h2 g); refine AW_sr fun K h => ?_; simp [go_sem, F]; refine h _ ?_; obtain rfl := si hM; refine AW_ret ?_; simp [go_sem, F]
  · have g := h2; (try simp at g); have F := And.intro F (And.intro h2 g); refine AW_skip ?_; refine hK1 _ ?_; obtain ⟨e3, hU5, hR4⟩ := bind_some hM; clear hM; refine AW_mid (ι := Unit) (fun i => ⟨27, [], [], []⟩) (fun i => (.inl i) = e3) ?_ ?_
    · intro K6 hK6; have hM := hU5; clear hU5; refine AW_sr fun K h => ?_; simp [go_sem, F]; refine h _ ?_; refine AW_block ?_; refine AW_lp (ι := Int) (fun i => ⟨27, [(0, .one (.l (.sl (a0.map TRow.c)))), (1, .one (.l (.sl (a1.map TRow.c)))), (5, .one (.l (.int .i64 i)))], [], []⟩) (fun n i => w_eqRowS_u1 k a0 a1 n i = some e3) k 0 hM (by simp [w_eqRowS_u1]) ?_; intro KL7 n x1 hL7 hM F; have hM : w_eqRowS_u1 k a0 a1 (n + 1) x1 = some e3 := hM; rw [w_eqRowS_u1] at hM
      refine AW_seq fun K8 hK8 => ?_; refine AW_sr fun K h => ?_; simp [go_sem, F]; refine h _ ?_; refine AW_if hM (fun h9 hM => ?_) (fun h9 hM => ?_)
      · have g := h9; (try simp at g); have F := And.intro F (And.intro h9 (And.intro g (lT h9))); refine AW_skip ?_; refine hK8 _ ?_; refine AW_seq fun K10 hK10 => ?_; refine AW_block ?_; refine AW_seq fun K11 hK11 => ?_; obtain ⟨x2, e12, hM⟩ := bind_some hM; have F := And.intro F (at_f e12); obtain ⟨x3, e13, hM⟩ := bind_some hM; have F := And.intro F (at_f e13); obtain ⟨x4, e14, hM⟩ := bind_some hM
        refine AW_quickN 8 mixed (by kernel_rfl) (by kernel_rfl) ?_; simp [go_sem, F]; refine by_c false (w_eqRow_ctr k x2 x3 x4 e14) ?_; simp [go_sem, F]; refine hK11 _ ?_; refine AW_if hM (fun h15 hM => ?_) (fun h15 hM => ?_)
        · have g := h15; (try simp at g); have F := And.intro F (And.intro h15 g); refine AW_sr fun K h => ?_; simp [go_sem, F]; refine h _ ?_; obtain rfl := si hM; have hM := hR4; dsimp only at hM; obtain rfl := si hM; refine AW_ret ?_; simp [go_sem, F]
        · have g := h15; (try simp at g); have F := And.intro F (And.intro h15 g); refine AW_skip ?_; refine hK10 _ ?_; refine AW_region ?_; simp [go_sem, F]; exact fin hL7 (IntKind.i64.wrap (x1 + 1)) hM
      · have g := h9; (try simp at g); have F := And.intro F (And.intro h9 (And.intro g (lF h9))); refine AW_exit ?_; obtain rfl := si hM; exact fin hK6 () rfl
    · rintro _ rfl; have hM := hR4; dsimp only at hM; refine AW_sr fun K h => ?_; simp [go_sem, F]; refine h _ ?_; obtain rfl := si hM; refine AW_ret ?_; simp [go_sem, F]
end Go.Proofs.YtmiboaogfjgkjaaGreatDoor
