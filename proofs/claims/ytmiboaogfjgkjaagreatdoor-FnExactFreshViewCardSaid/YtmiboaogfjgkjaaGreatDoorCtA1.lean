/- Contracts of the program's functions: where the mirrored function answers, the program's function returns this answer. Written by a program of mine. -/
import Derived.Test.YtmiboaogfjgkjaaGreatDoorWn
import Derived.Test.YtmiboaogfjgkjaaGreatDoorMdA1
import Derived.Test.YtmiboaogfjgkjaaGreatDoorCtA0
set_option linter.unusedSimpArgs false
set_option linter.unusedVariables false
namespace Go.Proofs.YtmiboaogfjgkjaaGreatDoor
open Go.RowKit Am
set_option maxHeartbeats 4000000
set_option maxRecDepth 100000
theorem w_szRun_ctr (k : Nat) (a0 : TRun) (a1 : Int) (r : Int) (hM : w_szRun k a0 a1 = some r) : Ctr Tryz.prog 5 [.agg (TRun.c a0), .one (.int .i64 a1)] true [.one (.int .i64 r)] := by
  unfold w_szRun at hM
  refine walkM Tryz.func5 Tryz.ntmps5 Tryz.results5 fun N w0 hbad F => ?_
  refine AW_sr fun K h => ?_; simp [go_sem, F]; refine h _ ?_; obtain ⟨x1, e1, hM⟩ := bind_some hM; refine AW_sr fun K h => ?_; simp [go_sem, F]; refine by_c false (w_szValueS_ctr k a0.values a1 x1 e1) ?_; simp [go_sem, F]; refine h _ ?_; refine AW_seq fun K2 hK2 => ?_; refine AW_sr fun K h => ?_; simp [go_sem, F]; refine h _ ?_; refine AW_if hM (fun h3 hM => ?_) (fun h3 hM => ?_)
  · have g := h3; (try simp at g); have F := And.intro F (And.intro h3 (And.intro g (lT h3))); refine AW_sr fun K h => ?_; simp [go_sem, F]; refine h _ ?_; obtain rfl := si hM; refine AW_ret ?_; simp [go_sem, F]
  · have g := h3; (try simp at g); have F := And.intro F (And.intro h3 (And.intro g (lF h3))); refine AW_skip ?_; refine hK2 _ ?_; obtain ⟨x2, e4, hM⟩ := bind_some hM; refine AW_sr fun K h => ?_; simp [go_sem, F]; refine by_c false (w_szTapeS_ctr k a0.tapes x1 x2 e4) ?_; simp [go_sem, F]; refine h _ ?_; refine AW_seq fun K5 hK5 => ?_; refine AW_sr fun K h => ?_; simp [go_sem, F]; refine h _ ?_; refine AW_if hM (fun h6 hM => ?_) (fun h6 hM => ?_)
    · have g := h6; (try simp at g); have F := And.intro F (And.intro h6 (And.intro g (lT h6))); refine AW_sr fun K h => ?_; simp [go_sem, F]; refine h _ ?_; obtain rfl := si hM; refine AW_ret ?_; simp [go_sem, F]
    · have g := h6; (try simp at g); have F := And.intro F (And.intro h6 (And.intro g (lF h6))); refine AW_skip ?_; refine hK5 _ ?_; refine AW_sr fun K h => ?_; simp [go_sem, F]; refine h _ ?_; obtain rfl := si hM; refine AW_ret ?_; simp [go_sem, F]
theorem w_toCell_ctr (a0 : TCell) (r : TCell) (hM : w_toCell a0 = some r) : Ctr Tryz.prog 41 [.agg (TCell.c a0)] true [.agg (TCell.c r)] := by
  unfold w_toCell at hM
  refine walkM Tryz.func41 Tryz.ntmps41 Tryz.results41 fun N w0 hbad F => ?_
  refine AW_sr fun K h => ?_; simp [go_sem, F]; refine h _ ?_; refine AW_sr fun K h => ?_; simp [go_sem, F]; refine h _ ?_; refine AW_sr fun K h => ?_; simp [go_sem, F]; refine h _ ?_; refine AW_sr fun K h => ?_; simp [go_sem, F]; refine h _ ?_; refine AW_sr fun K h => ?_; simp [go_sem, F]; refine h _ ?_; refine AW_sr fun K h => ?_; simp [go_sem, F]; refine h _ ?_; refine AW_sr fun K h => ?_; simp [go_sem, F]
  refine h _ ?_; refine AW_sr fun K h => ?_; simp [go_sem, F]; refine h _ ?_; refine AW_sr fun K h => ?_; simp [go_sem, F]; refine h _ ?_; obtain rfl := si hM; refine AW_ret ?_; simp [go_sem, F]
theorem w_toCellS_ctr (k : Nat) (a0 : List TCell) (r : List TCell) (hM : w_toCellS k a0 = some r) : Ctr Tryz.prog 22 [.one (.sl (a0.map TCell.c))] true [.one (.sl (r.map TCell.c))] := by
  unfold w_toCellS at hM
  refine walkM Tryz.func22 Tryz.ntmps22 Tryz.results22 fun N w0 hbad F => ?_
  refine AW_sr fun K h => ?_; simp [go_sem, F]; refine h _ ?_; obtain ⟨x1, e1, hM⟩ := bind_some hM; obtain ⟨c2, s3⟩ := mk_spec e1; replace c2 := c2.symm; subst c2; (try simp at s3); have F := And.intro F s3; refine AW_sr fun K h => ?_; simp [go_sem, F]; refine h _ ?_; obtain ⟨e6, hU8, hR7⟩ := bind_some hM; clear hM; refine AW_mid (ι := List TCell) (fun i => ⟨23, [(3, .one (.own 448 i.length))], [], [(448, some ⟨true, i.map TCell.c⟩)]⟩) (fun i => i = e6) ?_ ?_
  · intro K9 hK9; have hM := hU8; clear hU8; refine AW_sr fun K h => ?_; simp [go_sem, F]; refine h _ ?_; refine AW_block ?_; refine AW_lp (ι := (List TCell) × Int) (fun i => ⟨23, [(0, .one (.l (.sl (a0.map TCell.c)))), (3, .one (.own 448 i.1.length)), (4, .one (.l (.int .i64 i.2)))], [], [(448, some ⟨true, i.1.map TCell.c⟩)]⟩) (fun n i => w_toCellS_u1 a0 n i.1 i.2 = some e6) k ((List.replicate ((a0.length : Int).toNat) (TCell.mk 0 0 0 (⟨#[]⟩ : ByteArray) (⟨#[]⟩ : ByteArray) 0)), 0) hM (by simp [w_toCellS_u1]) ?_
    intro KL10 n ⟨x3, x4⟩ hL10 hM F; have hM : w_toCellS_u1 a0 (n + 1) x3 x4 = some e6 := hM; rw [w_toCellS_u1] at hM; refine AW_seq fun K11 hK11 => ?_; refine AW_sr fun K h => ?_; simp [go_sem, F]; refine h _ ?_; refine AW_if hM (fun h12 hM => ?_) (fun h12 hM => ?_)
    · have g := h12; (try simp at g); have F := And.intro F (And.intro h12 (And.intro g (lT h12))); refine AW_skip ?_; refine hK11 _ ?_; refine AW_seq fun K13 hK13 => ?_; refine AW_block ?_; obtain ⟨x5, e14, hM⟩ := bind_some hM; have F := And.intro F (at_f e14); obtain ⟨x6, e15, hM⟩ := bind_some hM; obtain ⟨x7, e16, hM⟩ := bind_some hM; have F := And.intro F (at_f e16); have F := And.intro F (at_l e16)
      refine AW_region ?_; simp [go_sem, F]; refine by_c false (w_toCell_ctr x5 x6 e15) ?_; simp [go_sem, F]; refine hK13 _ ?_; refine AW_region ?_; simp [go_sem, F]; exact fin hL10 ((x3.set x4.toNat x6), (IntKind.i64.wrap (x4 + 1))) hM
    · have g := h12; (try simp at g); have F := And.intro F (And.intro h12 (And.intro g (lF h12))); refine AW_exit ?_; obtain rfl := si hM; exact fin hK9 x3 rfl
  · rintro x2 rfl; have hM := hR7; (try dsimp only at hM); refine AW_sr fun K h => ?_; simp [go_sem, F]; refine h _ ?_; obtain rfl := si hM; refine AW_ret ?_; simp [go_sem, F]
theorem w_toNotebook_ctr (k : Nat) (a0 : TNotebook) (r : TNotebook) (hM : w_toNotebook k a0 = some r) : Ctr Tryz.prog 7 [.agg (TNotebook.c a0)] true [.agg (TNotebook.c r)] := by
  unfold w_toNotebook at hM
  refine walkM Tryz.func7 Tryz.ntmps7 Tryz.results7 fun N w0 hbad F => ?_
  refine AW_sr fun K h => ?_; simp [go_sem, F]; refine h _ ?_; refine AW_sr fun K h => ?_; simp [go_sem, F]; refine h _ ?_; obtain ⟨x1, e1, hM⟩ := bind_some hM; refine AW_sr fun K h => ?_; simp [go_sem, F]; refine by_c false (w_toCellS_ctr k a0.cells x1 e1) ?_; simp [go_sem, F]; refine h _ ?_; refine AW_sr fun K h => ?_; simp [go_sem, F]; refine h _ ?_; obtain rfl := si hM; refine AW_ret ?_; simp [go_sem, F]
theorem w_toStringS_ctr (k : Nat) (a0 : List ByteArray) (r : List ByteArray) (hM : w_toStringS k a0 = some r) : Ctr Tryz.prog 61 [.one (.sl (a0.map sC))] true [.one (.sl (r.map sC))] := by
  unfold w_toStringS at hM
  refine walkM Tryz.func61 Tryz.ntmps61 Tryz.results61 fun N w0 hbad F => ?_
  refine AW_sr fun K h => ?_; simp [go_sem, F]; refine h _ ?_; obtain ⟨x1, e1, hM⟩ := bind_some hM; obtain ⟨c2, s3⟩ := mk_spec e1; replace c2 := c2.symm; subst c2; (try simp at s3); have F := And.intro F s3; refine AW_sr fun K h => ?_; simp [go_sem, F]; refine h _ ?_; obtain ⟨e6, hU8, hR7⟩ := bind_some hM; clear hM; refine AW_mid (ι := List ByteArray) (fun i => ⟨22, [(3, .one (.own 448 i.length))], [], [(448, some ⟨true, i.map sC⟩)]⟩) (fun i => i = e6) ?_ ?_
  · intro K9 hK9; have hM := hU8; clear hU8; refine AW_sr fun K h => ?_; simp [go_sem, F]; refine h _ ?_; refine AW_block ?_; refine AW_lp (ι := (List ByteArray) × Int) (fun i => ⟨22, [(0, .one (.l (.sl (a0.map sC)))), (3, .one (.own 448 i.1.length)), (4, .one (.l (.int .i64 i.2)))], [], [(448, some ⟨true, i.1.map sC⟩)]⟩) (fun n i => w_toStringS_u1 a0 n i.1 i.2 = some e6) k ((List.replicate ((a0.length : Int).toNat) (⟨#[]⟩ : ByteArray)), 0) hM (by simp [w_toStringS_u1]) ?_
    intro KL10 n ⟨x3, x4⟩ hL10 hM F; have hM : w_toStringS_u1 a0 (n + 1) x3 x4 = some e6 := hM; rw [w_toStringS_u1] at hM; refine AW_seq fun K11 hK11 => ?_; refine AW_sr fun K h => ?_; simp [go_sem, F]; refine h _ ?_; refine AW_if hM (fun h12 hM => ?_) (fun h12 hM => ?_)
    · have g := h12; (try simp at g); have F := And.intro F (And.intro h12 (And.intro g (lT h12))); refine AW_skip ?_; refine hK11 _ ?_; refine AW_seq fun K13 hK13 => ?_; refine AW_block ?_; obtain ⟨x5, e14, hM⟩ := bind_some hM; have F := And.intro F (at_f e14); obtain ⟨x6, e15, hM⟩ := bind_some hM; have F := And.intro F (at_f e15); have F := And.intro F (at_l e15); refine AW_region ?_; simp [go_sem, F]
      refine hK13 _ ?_; refine AW_region ?_; simp [go_sem, F]; exact fin hL10 ((x3.set x4.toNat x5), (IntKind.i64.wrap (x4 + 1))) hM
    · have g := h12; (try simp at g); have F := And.intro F (And.intro h12 (And.intro g (lF h12))); refine AW_exit ?_; obtain rfl := si hM; exact fin hK9 x3 rfl
  · rintro x2 rfl; have hM := hR7; (try dsimp only at hM); refine AW_sr fun K h => ?_; simp [go_sem, F]; refine h _ ?_; obtain rfl := si hM; refine AW_ret ?_; simp [go_sem, F]
theorem w_toIntS_ctr (k : Nat) (a0 : List Int) (r : List Int) (hM : w_toIntS k a0 = some r) : Ctr Tryz.prog 110 [.one (.sl (a0.map iC))] true [.one (.sl (r.map iC))] := by
  unfold w_toIntS at hM
  refine walkM Tryz.func110 Tryz.ntmps110 Tryz.results110 fun N w0 hbad F => ?_
  refine AW_sr fun K h => ?_; simp [go_sem, F]; refine h _ ?_; obtain ⟨x1, e1, hM⟩ := bind_some hM; obtain ⟨c2, s3⟩ := mk_spec e1; replace c2 := c2.symm; subst c2; (try simp at s3); have F := And.intro F s3; refine AW_sr fun K h => ?_; simp [go_sem, F]; refine h _ ?_; obtain ⟨e6, hU8, hR7⟩ := bind_some hM; clear hM; refine AW_mid (ι := List Int) (fun i => ⟨22, [(3, .one (.own 448 i.length))], [], [(448, some ⟨true, i.map iC⟩)]⟩) (fun i => i = e6) ?_ ?_
  · intro K9 hK9; have hM := hU8; clear hU8; refine AW_sr fun K h => ?_; simp [go_sem, F]; refine h _ ?_; refine AW_block ?_; refine AW_lp (ι := (List Int) × Int) (fun i => ⟨22, [(0, .one (.l (.sl (a0.map iC)))), (3, .one (.own 448 i.1.length)), (4, .one (.l (.int .i64 i.2)))], [], [(448, some ⟨true, i.1.map iC⟩)]⟩) (fun n i => w_toIntS_u1 a0 n i.1 i.2 = some e6) k ((List.replicate ((a0.length : Int).toNat) 0), 0) hM (by simp [w_toIntS_u1]) ?_
    intro KL10 n ⟨x3, x4⟩ hL10 hM F; have hM : w_toIntS_u1 a0 (n + 1) x3 x4 = some e6 := hM; rw [w_toIntS_u1] at hM; refine AW_seq fun K11 hK11 => ?_; refine AW_sr fun K h => ?_; simp [go_sem, F]; refine h _ ?_; refine AW_if hM (fun h12 hM => ?_) (fun h12 hM => ?_)
    · have g := h12; (try simp at g); have F := And.intro F (And.intro h12 (And.intro g (lT h12))); refine AW_skip ?_; refine hK11 _ ?_; refine AW_seq fun K13 hK13 => ?_; refine AW_block ?_; obtain ⟨x5, e14, hM⟩ := bind_some hM; have F := And.intro F (at_f e14); obtain ⟨x6, e15, hM⟩ := bind_some hM; have F := And.intro F (at_f e15); have F := And.intro F (at_l e15); refine AW_region ?_; simp [go_sem, F]
      refine hK13 _ ?_; refine AW_region ?_; simp [go_sem, F]; exact fin hL10 ((x3.set x4.toNat x5), (IntKind.i64.wrap (x4 + 1))) hM
    · have g := h12; (try simp at g); have F := And.intro F (And.intro h12 (And.intro g (lF h12))); refine AW_exit ?_; obtain rfl := si hM; exact fin hK9 x3 rfl
  · rintro x2 rfl; have hM := hR7; (try dsimp only at hM); refine AW_sr fun K h => ?_; simp [go_sem, F]; refine h _ ?_; obtain rfl := si hM; refine AW_ret ?_; simp [go_sem, F]
theorem w_toOrigin_ctr (a0 : TOrigin) (r : TOrigin) (hM : w_toOrigin a0 = some r) : Ctr Tryz.prog 124 [.agg (TOrigin.c a0)] true [.agg (TOrigin.c r)] := by
  unfold w_toOrigin at hM
  refine walkM Tryz.func124 Tryz.ntmps124 Tryz.results124 fun N w0 hbad F => ?_
  refine AW_sr fun K h => ?_; simp [go_sem, F]; refine h _ ?_; refine AW_sr fun K h => ?_; simp [go_sem, F]; refine h _ ?_; refine AW_sr fun K h => ?_; simp [go_sem, F]; refine h _ ?_; refine AW_sr fun K h => ?_; simp [go_sem, F]; refine h _ ?_; refine AW_sr fun K h => ?_; simp [go_sem, F]; refine h _ ?_; obtain rfl := si hM; refine AW_ret ?_; simp [go_sem, F]
theorem w_toOriginS_ctr (k : Nat) (a0 : List TOrigin) (r : List TOrigin) (hM : w_toOriginS k a0 = some r) : Ctr Tryz.prog 111 [.one (.sl (a0.map TOrigin.c))] true [.one (.sl (r.map TOrigin.c))] := by
  unfold w_toOriginS at hM
  refine walkM Tryz.func111 Tryz.ntmps111 Tryz.results111 fun N w0 hbad F => ?_
  refine AW_sr fun K h => ?_; simp [go_sem, F]; refine h _ ?_; obtain ⟨x1, e1, hM⟩ := bind_some hM; obtain ⟨c2, s3⟩ := mk_spec e1; replace c2 := c2.symm; subst c2; (try simp at s3); have F := And.intro F s3; refine AW_sr fun K h => ?_; simp [go_sem, F]; refine h _ ?_; obtain ⟨e6, hU8, hR7⟩ := bind_some hM; clear hM; refine AW_mid (ι := List TOrigin) (fun i => ⟨23, [(3, .one (.own 448 i.length))], [], [(448, some ⟨true, i.map TOrigin.c⟩)]⟩) (fun i => i = e6) ?_ ?_
  · intro K9 hK9; have hM := hU8; clear hU8; refine AW_sr fun K h => ?_; simp [go_sem, F]; refine h _ ?_; refine AW_block ?_; refine AW_lp (ι := (List TOrigin) × Int) (fun i => ⟨23, [(0, .one (.l (.sl (a0.map TOrigin.c)))), (3, .one (.own 448 i.1.length)), (4, .one (.l (.int .i64 i.2)))], [], [(448, some ⟨true, i.1.map TOrigin.c⟩)]⟩) (fun n i => w_toOriginS_u1 a0 n i.1 i.2 = some e6) k ((List.replicate ((a0.length : Int).toNat) (TOrigin.mk 0 0)), 0) hM (by simp [w_toOriginS_u1]) ?_
    intro KL10 n ⟨x3, x4⟩ hL10 hM F; have hM : w_toOriginS_u1 a0 (n + 1) x3 x4 = some e6 := hM; rw [w_toOriginS_u1] at hM; refine AW_seq fun K11 hK11 => ?_; refine AW_sr fun K h => ?_; simp [go_sem, F]; refine h _ ?_; refine AW_if hM (fun h12 hM => ?_) (fun h12 hM => ?_)
    · have g := h12; (try simp at g); have F := And.intro F (And.intro h12 (And.intro g (lT h12))); refine AW_skip ?_; refine hK11 _ ?_; refine AW_seq fun K13 hK13 => ?_; refine AW_block ?_; obtain ⟨x5, e14, hM⟩ := bind_some hM; have F := And.intro F (at_f e14); obtain ⟨x6, e15, hM⟩ := bind_some hM; obtain ⟨x7, e16, hM⟩ := bind_some hM; have F := And.intro F (at_f e16); have F := And.intro F (at_l e16)
      refine AW_region ?_; simp [go_sem, F]; refine by_c false (w_toOrigin_ctr x5 x6 e15) ?_; simp [go_sem, F]; refine hK13 _ ?_; refine AW_region ?_; simp [go_sem, F]; exact fin hL10 ((x3.set x4.toNat x6), (IntKind.i64.wrap (x4 + 1))) hM
    · have g := h12; (try simp at g); have F := And.intro F (And.intro h12 (And.intro g (lF h12))); refine AW_exit ?_; obtain rfl := si hM; exact fin hK9 x3 rfl
  · rintro x2 rfl; have hM := hR7; (try dsimp only at hM); refine AW_sr fun K h => ?_; simp [go_sem, F]; refine h _ ?_; obtain rfl := si hM; refine AW_ret ?_; simp [go_sem, F]
theorem w_toRow_ctr (k : Nat) (a0 : TRow) (r : TRow) (hM : w_toRow k a0 = some r) : Ctr Tryz.prog 89 [.agg (TRow.c a0)] true [.agg (TRow.c r)] := by
  unfold w_toRow at hM
  refine walkM Tryz.func89 Tryz.ntmps89 Tryz.results89 fun N w0 hbad F => ?_
  refine AW_sr fun K h => ?_; simp [go_sem, F]; refine h _ ?_; refine AW_sr fun K h => ?_; simp [go_sem, F]; refine h _ ?_; obtain ⟨x1, e1, hM⟩ := bind_some hM; refine AW_sr fun K h => ?_; simp [go_sem, F]; refine by_c false (w_toIntS_ctr k a0.cells x1 e1) ?_; simp [go_sem, F]; refine h _ ?_; obtain ⟨x2, e2, hM⟩ := bind_some hM; refine AW_sr fun K h => ?_; simp [go_sem, F]; refine by_c false (w_toOriginS_ctr k a0.from_ x2 e2) ?_
  simp [go_sem, F]; refine h _ ?_; refine AW_sr fun K h => ?_; simp [go_sem, F]; refine h _ ?_; obtain rfl := si hM; refine AW_ret ?_; simp [go_sem, F]
theorem w_toRowS_ctr (k : Nat) (a0 : List TRow) (r : List TRow) (hM : w_toRowS k a0 = some r) : Ctr Tryz.prog 62 [.one (.sl (a0.map TRow.c))] true [.one (.sl (r.map TRow.c))] := by
  unfold w_toRowS at hM
  refine walkM Tryz.func62 Tryz.ntmps62 Tryz.results62 fun N w0 hbad F => ?_
  refine AW_sr fun K h => ?_; simp [go_sem, F]; refine h _ ?_; obtain ⟨x1, e1, hM⟩ := bind_some hM; obtain ⟨c2, s3⟩ := mk_spec e1; replace c2 := c2.symm; subst c2; (try simp at s3); have F := And.intro F s3; refine AW_sr fun K h => ?_; simp [go_sem, F]; refine h _ ?_; obtain ⟨e6, hU8, hR7⟩ := bind_some hM; clear hM; refine AW_mid (ι := List TRow) (fun i => ⟨23, [(3, .one (.own 448 i.length))], [], [(448, some ⟨true, i.map TRow.c⟩)]⟩) (fun i => i = e6) ?_ ?_
  · intro K9 hK9; have hM := hU8; clear hU8; refine AW_sr fun K h => ?_; simp [go_sem, F]; refine h _ ?_; refine AW_block ?_; refine AW_lp (ι := (List TRow) × Int) (fun i => ⟨23, [(0, .one (.l (.sl (a0.map TRow.c)))), (3, .one (.own 448 i.1.length)), (4, .one (.l (.int .i64 i.2)))], [], [(448, some ⟨true, i.1.map TRow.c⟩)]⟩) (fun n i => w_toRowS_u1 k a0 n i.1 i.2 = some e6) k ((List.replicate ((a0.length : Int).toNat) (TRow.mk [] [])), 0) hM (by simp [w_toRowS_u1]) ?_
    intro KL10 n ⟨x3, x4⟩ hL10 hM F; have hM : w_toRowS_u1 k a0 (n + 1) x3 x4 = some e6 := hM; rw [w_toRowS_u1] at hM; refine AW_seq fun K11 hK11 => ?_; refine AW_sr fun K h => ?_; simp [go_sem, F]; refine h _ ?_; refine AW_if hM (fun h12 hM => ?_) (fun h12 hM => ?_)
    · have g := h12; (try simp at g); have F := And.intro F (And.intro h12 (And.intro g (lT h12))); refine AW_skip ?_; refine hK11 _ ?_; refine AW_seq fun K13 hK13 => ?_; refine AW_block ?_; obtain ⟨x5, e14, hM⟩ := bind_some hM; have F := And.intro F (at_f e14); obtain ⟨x6, e15, hM⟩ := bind_some hM; obtain ⟨x7, e16, hM⟩ := bind_some hM; have F := And.intro F (at_f e16); have F := And.intro F (at_l e16)
      refine AW_region ?_; simp [go_sem, F]; refine by_c false (w_toRow_ctr k x5 x6 e15) ?_; simp [go_sem, F]; refine hK13 _ ?_; refine AW_region ?_; simp [go_sem, F]; exact fin hL10 ((x3.set x4.toNat x6), (IntKind.i64.wrap (x4 + 1))) hM
    · have g := h12; (try simp at g); have F := And.intro F (And.intro h12 (And.intro g (lF h12))); refine AW_exit ?_; obtain rfl := si hM; exact fin hK9 x3 rfl
  · rintro x2 rfl; have hM := hR7; (try dsimp only at hM); refine AW_sr fun K h => ?_; simp [go_sem, F]; refine h _ ?_; obtain rfl := si hM; refine AW_ret ?_; simp [go_sem, F]
theorem w_toValue_all : ∀ (k : Nat), (∀ (a0 : TValue) (r : TValue) (hM : w_toValue k a0 = some r), Ctr Tryz.prog 42 [.agg (TValue.c a0)] true [.agg (TValue.c r)]) ∧
    (∀ (a0 : List TValue) (r : List TValue) (hM : w_toValueS k a0 = some r), Ctr Tryz.prog 23 [.one (.sl (a0.map TValue.c))] true [.one (.sl (r.map TValue.c))]) := by
  intro k
  induction k with
  | zero => exact ⟨by intro a0 r hM; simp [w_toValue] at hM, by intro a0 r hM; simp [w_toValueS] at hM⟩
  | succ k ih =>
    obtain ⟨ih_w_toValue, ih_w_toValueS⟩ := ih
    refine ⟨?_, ?_⟩
    · intro a0 r hM
      rw [w_toValue] at hM
      refine walkM Tryz.func42 Tryz.ntmps42 Tryz.results42 fun N w0 hbad F => ?_
      refine AW_sr fun K h => ?_; simp [go_sem, F]; refine h _ ?_; refine AW_sr fun K h => ?_; simp [go_sem, F]; refine h _ ?_; refine AW_sr fun K h => ?_; simp [go_sem, F]; refine h _ ?_; refine AW_sr fun K h => ?_; simp [go_sem, F]; refine h _ ?_; refine AW_sr fun K h => ?_; simp [go_sem, F]; refine h _ ?_; refine AW_sr fun K h => ?_; simp [go_sem, F]; refine h _ ?_; obtain ⟨x1, e1, hM⟩ := bind_some hM
      refine AW_sr fun K h => ?_; simp [go_sem, F]; refine by_c false (ih_w_toValueS a0.list x1 e1) ?_; simp [go_sem, F]; refine h _ ?_; obtain ⟨x2, e2, hM⟩ := bind_some hM; refine AW_sr fun K h => ?_; simp [go_sem, F]; refine by_c false (w_toStringS_ctr k a0.columns x2 e2) ?_; simp [go_sem, F]; refine h _ ?_; obtain ⟨x3, e3, hM⟩ := bind_some hM; refine AW_sr fun K h => ?_; simp [go_sem, F]; refine by_c false (w_toRowS_ctr k a0.rows x3 e3) ?_
      simp [go_sem, F]; refine h _ ?_; refine AW_sr fun K h => ?_; simp [go_sem, F]; refine h _ ?_; obtain rfl := si hM; refine AW_ret ?_; simp [go_sem, F]
    · intro a0 r hM
      rw [w_toValueS] at hM
      refine walkM Tryz.func23 Tryz.ntmps23 Tryz.results23 fun N w0 hbad F => ?_
      refine AW_sr fun K h => ?_; simp [go_sem, F]; refine h _ ?_; obtain ⟨x1, e1, hM⟩ := bind_some hM; obtain ⟨c2, s3⟩ := mk_spec e1; replace c2 := c2.symm; subst c2; (try simp at s3); have F := And.intro F s3; refine AW_sr fun K h => ?_; simp [go_sem, F]; refine h _ ?_; obtain ⟨e6, hU8, hR7⟩ := bind_some hM; clear hM; refine AW_mid (ι := List TValue) (fun i => ⟨23, [(3, .one (.own 448 i.length))], [], [(448, some ⟨true, i.map TValue.c⟩)]⟩) (fun i => i = e6) ?_ ?_
      · intro K9 hK9; have hM := hU8; clear hU8; refine AW_sr fun K h => ?_; simp [go_sem, F]; refine h _ ?_; refine AW_block ?_; refine AW_lp (ι := (List TValue) × Int) (fun i => ⟨23, [(0, .one (.l (.sl (a0.map TValue.c)))), (3, .one (.own 448 i.1.length)), (4, .one (.l (.int .i64 i.2)))], [], [(448, some ⟨true, i.1.map TValue.c⟩)]⟩) (fun n i => w_toValueS_u1 (w_toValue k) a0 n i.1 i.2 = some e6) k ((List.replicate ((a0.length : Int).toNat) (TValue.mk 0 0 0 (⟨#[]⟩ : ByteArray) [] [] [])), 0) hM (by simp [w_toValueS_u1]) ?_
        intro KL10 n ⟨x3, x4⟩ hL10 hM F; have hM : w_toValueS_u1 (w_toValue k) a0 (n + 1) x3 x4 = some e6 := hM; rw [w_toValueS_u1] at hM; refine AW_seq fun K11 hK11 => ?_; refine AW_sr fun K h => ?_; simp [go_sem, F]; refine h _ ?_; refine AW_if hM (fun h12 hM => ?_) (fun h12 hM => ?_)
        · have g := h12; (try simp at g); have F := And.intro F (And.intro h12 (And.intro g (lT h12))); refine AW_skip ?_; refine hK11 _ ?_; refine AW_seq fun K13 hK13 => ?_; refine AW_block ?_; obtain ⟨x5, e14, hM⟩ := bind_some hM; have F := And.intro F (at_f e14); obtain ⟨x6, e15, hM⟩ := bind_some hM; obtain ⟨x7, e16, hM⟩ := bind_some hM; have F := And.intro F (at_f e16); have F := And.intro F (at_l e16)
          refine AW_region ?_; simp [go_sem, F]; refine by_c false (ih_w_toValue x5 x6 e15) ?_; simp [go_sem, F]; refine hK13 _ ?_; refine AW_region ?_; simp [go_sem, F]; exact fin hL10 ((x3.set x4.toNat x6), (IntKind.i64.wrap (x4 + 1))) hM
        · have g := h12; (try simp at g); have F := And.intro F (And.intro h12 (And.intro g (lF h12))); refine AW_exit ?_; obtain rfl := si hM; exact fin hK9 x3 rfl
      · rintro x2 rfl; have hM := hR7; (try dsimp only at hM); refine AW_sr fun K h => ?_; simp [go_sem, F]; refine h _ ?_; obtain rfl := si hM; refine AW_ret ?_; simp [go_sem, F]
theorem w_toValue_ctr (k : Nat) : ∀ (a0 : TValue) (r : TValue) (hM : w_toValue k a0 = some r), Ctr Tryz.prog 42 [.agg (TValue.c a0)] true [.agg (TValue.c r)] := (w_toValue_all k).1
theorem w_toValueS_ctr (k : Nat) : ∀ (a0 : List TValue) (r : List TValue) (hM : w_toValueS k a0 = some r), Ctr Tryz.prog 23 [.one (.sl (a0.map TValue.c))] true [.one (.sl (r.map TValue.c))] := (w_toValue_all k).2
theorem w_toRead_ctr (k : Nat) (a0 : TRead) (r : TRead) (hM : w_toRead k a0 = some r) : Ctr Tryz.prog 90 [.agg (TRead.c a0)] true [.agg (TRead.c r)] := by
  unfold w_toRead at hM
  refine walkM Tryz.func90 Tryz.ntmps90 Tryz.results90 fun N w0 hbad F => ?_
  refine AW_sr fun K h => ?_; simp [go_sem, F]; refine h _ ?_; refine AW_sr fun K h => ?_; simp [go_sem, F]; refine h _ ?_; refine AW_sr fun K h => ?_; simp [go_sem, F]; refine h _ ?_; refine AW_sr fun K h => ?_; simp [go_sem, F]; refine h _ ?_; refine AW_sr fun K h => ?_; simp [go_sem, F]; refine h _ ?_; refine AW_sr fun K h => ?_; simp [go_sem, F]; refine h _ ?_; obtain ⟨x1, e1, hM⟩ := bind_some hM
  refine AW_sr fun K h => ?_; simp [go_sem, F]; refine by_c false (w_toValue_ctr k a0.result x1 e1) ?_; simp [go_sem, F]; refine h _ ?_; refine AW_sr fun K h => ?_; simp [go_sem, F]; refine h _ ?_; obtain rfl := si hM; refine AW_ret ?_; simp [go_sem, F]
theorem w_toReadS_ctr (k : Nat) (a0 : List TRead) (r : List TRead) (hM : w_toReadS k a0 = some r) : Ctr Tryz.prog 63 [.one (.sl (a0.map TRead.c))] true [.one (.sl (r.map TRead.c))] := by
  unfold w_toReadS at hM
  refine walkM Tryz.func63 Tryz.ntmps63 Tryz.results63 fun N w0 hbad F => ?_
  refine AW_sr fun K h => ?_; simp [go_sem, F]; refine h _ ?_; obtain ⟨x1, e1, hM⟩ := bind_some hM; obtain ⟨c2, s3⟩ := mk_spec e1; replace c2 := c2.symm; subst c2; (try simp at s3); have F := And.intro F s3; refine AW_sr fun K h => ?_; simp [go_sem, F]; refine h _ ?_; obtain ⟨e6, hU8, hR7⟩ := bind_some hM; clear hM; refine AW_mid (ι := List TRead) (fun i => ⟨23, [(3, .one (.own 448 i.length))], [], [(448, some ⟨true, i.map TRead.c⟩)]⟩) (fun i => i = e6) ?_ ?_
  · intro K9 hK9; have hM := hU8; clear hU8; refine AW_sr fun K h => ?_; simp [go_sem, F]; refine h _ ?_; refine AW_block ?_; refine AW_lp (ι := (List TRead) × Int) (fun i => ⟨23, [(0, .one (.l (.sl (a0.map TRead.c)))), (3, .one (.own 448 i.1.length)), (4, .one (.l (.int .i64 i.2)))], [], [(448, some ⟨true, i.1.map TRead.c⟩)]⟩) (fun n i => w_toReadS_u1 k a0 n i.1 i.2 = some e6) k ((List.replicate ((a0.length : Int).toNat) (TRead.mk 0 0 0 (⟨#[]⟩ : ByteArray) (TValue.mk 0 0 0 (⟨#[]⟩ : ByteArray) [] [] []))), 0) hM (by simp [w_toReadS_u1]) ?_
    intro KL10 n ⟨x3, x4⟩ hL10 hM F; have hM : w_toReadS_u1 k a0 (n + 1) x3 x4 = some e6 := hM; rw [w_toReadS_u1] at hM; refine AW_seq fun K11 hK11 => ?_; refine AW_sr fun K h => ?_; simp [go_sem, F]; refine h _ ?_; refine AW_if hM (fun h12 hM => ?_) (fun h12 hM => ?_)
    · have g := h12; (try simp at g); have F := And.intro F (And.intro h12 (And.intro g (lT h12))); refine AW_skip ?_; refine hK11 _ ?_; refine AW_seq fun K13 hK13 => ?_; refine AW_block ?_; obtain ⟨x5, e14, hM⟩ := bind_some hM; have F := And.intro F (at_f e14); obtain ⟨x6, e15, hM⟩ := bind_some hM; obtain ⟨x7, e16, hM⟩ := bind_some hM; have F := And.intro F (at_f e16); have F := And.intro F (at_l e16)
      refine AW_region ?_; simp [go_sem, F]; refine by_c false (w_toRead_ctr k x5 x6 e15) ?_; simp [go_sem, F]; refine hK13 _ ?_; refine AW_region ?_; simp [go_sem, F]; exact fin hL10 ((x3.set x4.toNat x6), (IntKind.i64.wrap (x4 + 1))) hM
    · have g := h12; (try simp at g); have F := And.intro F (And.intro h12 (And.intro g (lF h12))); refine AW_exit ?_; obtain rfl := si hM; exact fin hK9 x3 rfl
  · rintro x2 rfl; have hM := hR7; (try dsimp only at hM); refine AW_sr fun K h => ?_; simp [go_sem, F]; refine h _ ?_; obtain rfl := si hM; refine AW_ret ?_; simp [go_sem, F]
end Go.Proofs.YtmiboaogfjgkjaaGreatDoor
