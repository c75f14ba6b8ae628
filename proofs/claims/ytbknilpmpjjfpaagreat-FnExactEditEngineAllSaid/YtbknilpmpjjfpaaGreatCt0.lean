/- Contracts of the program's functions: where the mirrored function answers, the program's function returns this answer. Written by a program of mine. -/
import Derived.Test.YtbknilpmpjjfpaaGreatWn
import Derived.Test.YtbknilpmpjjfpaaGreatMd0
set_option linter.unusedSimpArgs false
set_option linter.unusedVariables false
namespace Go.Proofs.YtbknilpmpjjfpaaGreat
open Go.RowKit Am
set_option maxHeartbeats 4000000
set_option maxRecDepth 100000
theorem s_l17Copy_ctr (a0 : TNotebook) (r : TNotebook) (hM : s_l17Copy a0 = some r) : Ctr Tryz.prog 58 [.agg (TNotebook.c a0)] true [.agg (TNotebook.c r)] := by
  unfold s_l17Copy at hM
  refine walkM Tryz.func58 Tryz.ntmps58 Tryz.results58 fun N w0 hbad F => ?_
  refine AW_sr fun K h => ?_; simp [go_sem, F]; refine h _ ?_; obtain ⟨x1, e1, hM⟩ := bind_some hM; obtain ⟨c2, s3⟩ := app_spec e1; replace c2 := c2.symm; subst c2; (try simp at s3); have F := And.intro F s3; refine AW_sr fun K h => ?_; simp [go_sem, F]; refine h _ ?_; obtain rfl := si hM; refine AW_ret ?_; simp [go_sem, F]
theorem s_l1In_ctr (a0 : Int) (a1 : Int) (a2 : Int) (r : Bool) (hM : s_l1In a0 a1 a2 = some r) : Ctr Tryz.prog 60 [.one (.int .i64 a0), .one (.int .i64 a1), .one (.int .i64 a2)] true [.one (.bool r)] := by
  unfold s_l1In at hM
  refine walkM Tryz.func60 Tryz.ntmps60 Tryz.results60 fun N w0 hbad F => ?_
  refine AW_sr fun K h => ?_; simp [go_sem, F]; refine h _ ?_; obtain ⟨e1, hU3, hR2⟩ := bind_some hM; clear hM; refine AW_mid (ι := Bool) (fun i => ⟨15, [(6, .one (.l (.bool i)))], [], []⟩) (fun i => i = e1) ?_ ?_
  · intro K4 hK4; have hM := hU3; clear hU3; rcases ifM hM with ⟨h5, hM⟩ | ⟨h5, hM⟩
    · have g := h5; (try simp at g); have F := And.intro F (And.intro h5 (And.intro g (eT h5))); refine AW_region ?_; simp [go_sem, F]; obtain rfl := si hM; exact fin hK4 (decide (a0 ≤ a2)) rfl
    · have g := h5; (try simp at g); have F := And.intro F (And.intro h5 (And.intro g (eF h5))); refine AW_region ?_; simp [go_sem, F]; obtain rfl := si hM; exact fin hK4 false rfl
  · rintro x1 rfl; have hM := hR2; (try dsimp only at hM); obtain rfl := si hM; refine AW_ret ?_; simp [go_sem, F]
theorem s_IsPrintable_ctr (k : Nat) (a0 : ByteArray) (r : Bool) (hM : s_IsPrintable k a0 = some r) : Ctr Tryz.prog 100 [.one (.str a0)] true [.one (.bool r)] := by
  unfold s_IsPrintable at hM
  refine walkM Tryz.func100 Tryz.ntmps100 Tryz.results100 fun N w0 hbad F => ?_
  refine AW_sr fun K h => ?_; simp [go_sem, F]; refine h _ ?_; obtain ⟨e1, hU3, hR2⟩ := bind_some hM; clear hM; refine AW_mid (ι := Unit) (fun i => ⟨23, [(0, .one (.l (.str a0)))], [], []⟩) (fun i => (.inl i) = e1) ?_ ?_
  · intro K4 hK4; have hM := hU3; clear hU3; refine AW_sr fun K h => ?_; simp [go_sem, F]; refine h _ ?_; refine AW_block ?_; refine AW_lp (ι := Int) (fun i => ⟨23, [(0, .one (.l (.str a0))), (3, .one (.l (.int .i64 i)))], [], []⟩) (fun n i => s_IsPrintable_u1 a0 n i = some e1) k 0 hM (by simp [s_IsPrintable_u1]) ?_; intro KL5 n x1 hL5 hM F; have hM : s_IsPrintable_u1 a0 (n + 1) x1 = some e1 := hM; rw [s_IsPrintable_u1] at hM
    refine AW_seq fun K6 hK6 => ?_; refine AW_sr fun K h => ?_; simp [go_sem, F]; refine h _ ?_; refine AW_if hM (fun h7 hM => ?_) (fun h7 hM => ?_)
    · have g := h7; (try simp at g); have F := And.intro F (And.intro h7 (And.intro g (lT h7))); refine AW_skip ?_; refine hK6 _ ?_; refine AW_seq fun K8 hK8 => ?_; refine AW_block ?_; obtain ⟨e9, hU11, hR10⟩ := bind_some hM; clear hM; refine AW_mid (ι := Bool) (fun i => ⟨23, [(0, .one (.l (.str a0))), (3, .one (.l (.int .i64 x1))), (19, .one (.l (.bool i)))], [], []⟩) (fun i => i = e9) ?_ ?_
      · intro K12 hK12; have hM := hU11; clear hU11; obtain ⟨x3, e13, hM⟩ := bind_some hM; have F := And.intro F (at_f e13); rcases ifM hM with ⟨h14, hM⟩ | ⟨h14, hM⟩
        · have g := h14; (try simp at g); have F := And.intro F (And.intro h14 (And.intro g (lT h14))); refine AW_region ?_; simp [go_sem, F]; obtain rfl := si hM; exact fin hK12 true rfl
        · have g := h14; (try simp at g); have F := And.intro F (And.intro h14 (And.intro g (lF h14))); refine AW_region ?_; simp [go_sem, F]; obtain rfl := si hM; exact fin hK12 (decide (126 < (x3.toNat : Int))) rfl
      · rintro x2 rfl; have hM := hR10; (try dsimp only at hM); refine AW_if hM (fun h15 hM => ?_) (fun h15 hM => ?_)
        · have g := h15; (try simp at g); have F := And.intro F (And.intro h15 g); refine AW_sr fun K h => ?_; simp [go_sem, F]; refine h _ ?_; obtain rfl := si hM; have hM := hR2; dsimp only at hM; obtain rfl := si hM; refine AW_ret ?_; simp [go_sem, F]
        · have g := h15; (try simp at g); have F := And.intro F (And.intro h15 g); refine AW_skip ?_; refine hK8 _ ?_; refine AW_region ?_; simp [go_sem, F]; exact fin hL5 (IntKind.i64.wrap (x1 + 1)) hM
    · have g := h7; (try simp at g); have F := And.intro F (And.intro h7 (And.intro g (lF h7))); refine AW_exit ?_; obtain rfl := si hM; exact fin hK4 () rfl
  · rintro _ rfl; have hM := hR2; dsimp only at hM; refine AW_sr fun K h => ?_; simp [go_sem, F]; refine h _ ?_; obtain rfl := si hM; refine AW_ret ?_; simp [go_sem, F]
theorem s_l2Shape_ctr (k : Nat) (a0 : ByteArray) (r : Bool) (hM : s_l2Shape k a0 = some r) : Ctr Tryz.prog 125 [.one (.str a0)] true [.one (.bool r)] := by
  unfold s_l2Shape at hM
  refine walkM Tryz.func125 Tryz.ntmps125 Tryz.results125 fun N w0 hbad F => ?_
  refine AW_sr fun K h => ?_; simp [go_sem, F]; refine h _ ?_; obtain ⟨e1, hU3, hR2⟩ := bind_some hM; clear hM; refine AW_mid (ι := Unit) (fun i => ⟨45, [(0, .one (.l (.str a0)))], [], []⟩) (fun i => (.inl i) = e1) ?_ ?_
  · intro K4 hK4; have hM := hU3; clear hU3; refine AW_sr fun K h => ?_; simp [go_sem, F]; refine h _ ?_; refine AW_block ?_; refine AW_lp (ι := Int) (fun i => ⟨45, [(0, .one (.l (.str a0))), (3, .one (.l (.int .i64 i)))], [], []⟩) (fun n i => s_l2Shape_u1 a0 n i = some e1) k 0 hM (by simp [s_l2Shape_u1]) ?_; intro KL5 n x1 hL5 hM F; have hM : s_l2Shape_u1 a0 (n + 1) x1 = some e1 := hM; rw [s_l2Shape_u1] at hM
    refine AW_seq fun K6 hK6 => ?_; refine AW_sr fun K h => ?_; simp [go_sem, F]; refine h _ ?_; refine AW_if hM (fun h7 hM => ?_) (fun h7 hM => ?_)
    · have g := h7; (try simp at g); have F := And.intro F (And.intro h7 (And.intro g (lT h7))); refine AW_skip ?_; refine hK6 _ ?_; refine AW_seq fun K8 hK8 => ?_; refine AW_block ?_; obtain ⟨e9, hU11, hR10⟩ := bind_some hM; clear hM; refine AW_mid (ι := Bool) (fun i => ⟨45, [(0, .one (.l (.str a0))), (3, .one (.l (.int .i64 x1))), (4, .one (.l (.bool i)))], [], []⟩) (fun i => i = e9) ?_ ?_
      · intro K12 hK12; have hM := hU11; clear hU11; obtain ⟨x3, e13, hM⟩ := bind_some hM; have F := And.intro F (at_f e13); rcases ifM hM with ⟨h14, hM⟩ | ⟨h14, hM⟩
        · have g := h14; (try simp at g); have F := And.intro F (And.intro h14 (And.intro g (eT h14))); refine AW_region ?_; simp [go_sem, F]; obtain rfl := si hM; exact fin hK12 (decide ((x3.toNat : Int) ≤ 122)) rfl
        · have g := h14; (try simp at g); have F := And.intro F (And.intro h14 (And.intro g (eF h14))); refine AW_region ?_; simp [go_sem, F]; obtain rfl := si hM; exact fin hK12 false rfl
      · rintro x2 rfl; have hM := hR10; (try dsimp only at hM); obtain ⟨e15, hU17, hR16⟩ := bind_some hM; clear hM; refine AW_mid (ι := Bool) (fun i => ⟨45, [(0, .one (.l (.str a0))), (3, .one (.l (.int .i64 x1))), (4, .one (.l (.bool x2))), (5, .one (.l (.bool i)))], [], []⟩) (fun i => i = e15) ?_ ?_
        · intro K18 hK18; have hM := hU17; clear hU17; obtain ⟨x5, e19, hM⟩ := bind_some hM; have F := And.intro F (at_f e19); rcases ifM hM with ⟨h20, hM⟩ | ⟨h20, hM⟩
          · have g := h20; (try simp at g); have F := And.intro F (And.intro h20 (And.intro g (eT h20))); refine AW_region ?_; simp [go_sem, F]; obtain rfl := si hM; exact fin hK18 (decide ((x5.toNat : Int) ≤ 57)) rfl
          · have g := h20; (try simp at g); have F := And.intro F (And.intro h20 (And.intro g (eF h20))); refine AW_region ?_; simp [go_sem, F]; obtain rfl := si hM; exact fin hK18 false rfl
        · rintro x4 rfl; have hM := hR16; (try dsimp only at hM); obtain ⟨e21, hU23, hR22⟩ := bind_some hM; clear hM; refine AW_mid (ι := Bool) (fun i => ⟨45, [(0, .one (.l (.str a0))), (3, .one (.l (.int .i64 x1))), (41, .one (.l (.bool i)))], [], []⟩) (fun i => i = e21) ?_ ?_
          · intro K24 hK24; have hM := hU23; clear hU23; rcases ifM hM with ⟨h25, hM⟩ | ⟨h25, hM⟩
            · have g := h25; (try simp at g); have F := And.intro F (And.intro h25 g); rcases ifM hM with ⟨h26, hM⟩ | ⟨h26, hM⟩
              · have g := h26; (try simp at g); have F := And.intro F (And.intro h26 g); refine AW_region ?_; simp [go_sem, F]; obtain rfl := si hM; exact fin hK24 true rfl
              · have g := h26; (try simp at g); have F := And.intro F (And.intro h26 g); refine AW_region ?_; simp [go_sem, F]; obtain rfl := si hM; exact fin hK24 (!x4) rfl
            · have g := h25; (try simp at g); have F := And.intro F (And.intro h25 g); refine AW_region ?_; simp [go_sem, F]; obtain rfl := si hM; exact fin hK24 false rfl
          · rintro x6 rfl; have hM := hR22; (try dsimp only at hM); refine AW_if hM (fun h27 hM => ?_) (fun h27 hM => ?_)
            · have g := h27; (try simp at g); have F := And.intro F (And.intro h27 g); refine AW_sr fun K h => ?_; simp [go_sem, F]; refine h _ ?_; obtain rfl := si hM; have hM := hR2; dsimp only at hM; obtain rfl := si hM; refine AW_ret ?_; simp [go_sem, F]
            · have g := h27; (try simp at g); have F := And.intro F (And.intro h27 g); refine AW_skip ?_; refine hK8 _ ?_; refine AW_region ?_; simp [go_sem, F]; exact fin hL5 (IntKind.i64.wrap (x1 + 1)) hM
    · have g := h7; (try simp at g); have F := And.intro F (And.intro h7 (And.intro g (lF h7))); refine AW_exit ?_; obtain rfl := si hM; exact fin hK4 () rfl
  · rintro _ rfl; have hM := hR2; dsimp only at hM; refine AW_sr fun K h => ?_; simp [go_sem, F]; refine h _ ?_; obtain rfl := si hM; refine AW_ret ?_; simp [go_sem, F]
theorem s_l2Reserved_ctr (r : List ByteArray) (hM : s_l2Reserved = some r) : Ctr Tryz.prog 140 [] true [.one (.sl (r.map sC))] := by
  unfold s_l2Reserved at hM
  refine walkM Tryz.func140 Tryz.ntmps140 Tryz.results140 fun N w0 hbad F => ?_
  refine AW_sr fun K h => ?_; simp [go_sem, F]; refine h _ ?_; refine AW_sr fun K h => ?_; simp [go_sem, F]; refine h _ ?_; obtain rfl := si hM; refine AW_ret ?_; simp [go_sem, F]
theorem s_l1Has_ctr (k : Nat) (a0 : List ByteArray) (a1 : ByteArray) (r : Bool) (hM : s_l1Has k a0 a1 = some r) : Ctr Tryz.prog 139 [.one (.sl (a0.map sC)), .one (.str a1)] true [.one (.bool r)] := by
  unfold s_l1Has at hM
  refine walkM Tryz.func139 Tryz.ntmps139 Tryz.results139 fun N w0 hbad F => ?_
  refine AW_sr fun K h => ?_; simp [go_sem, F]; refine h _ ?_; obtain ⟨e1, hU3, hR2⟩ := bind_some hM; clear hM; refine AW_mid (ι := Unit) (fun i => ⟨18, [], [], []⟩) (fun i => (.inl i) = e1) ?_ ?_
  · intro K4 hK4; have hM := hU3; clear hU3; refine AW_sr fun K h => ?_; simp [go_sem, F]; refine h _ ?_; refine AW_block ?_; refine AW_lp (ι := Int) (fun i => ⟨18, [(0, .one (.l (.sl (a0.map sC)))), (1, .one (.l (.str a1))), (5, .one (.l (.int .i64 i)))], [], []⟩) (fun n i => s_l1Has_u1 a0 a1 n i = some e1) k 0 hM (by simp [s_l1Has_u1]) ?_; intro KL5 n x1 hL5 hM F; have hM : s_l1Has_u1 a0 a1 (n + 1) x1 = some e1 := hM; rw [s_l1Has_u1] at hM
    refine AW_seq fun K6 hK6 => ?_; refine AW_sr fun K h => ?_; simp [go_sem, F]; refine h _ ?_; refine AW_if hM (fun h7 hM => ?_) (fun h7 hM => ?_)
    · have g := h7; (try simp at g); have F := And.intro F (And.intro h7 (And.intro g (lT h7))); refine AW_skip ?_; refine hK6 _ ?_; refine AW_seq fun K8 hK8 => ?_; refine AW_block ?_; obtain ⟨x2, e9, hM⟩ := bind_some hM; have F := And.intro F (at_f e9); refine AW_sr fun K h => ?_; simp [go_sem, F]; refine h _ ?_; refine AW_if hM (fun h10 hM => ?_) (fun h10 hM => ?_)
      · have g := h10; (try simp at g); have F := And.intro F (And.intro h10 g); refine AW_sr fun K h => ?_; simp [go_sem, F]; refine h _ ?_; obtain rfl := si hM; have hM := hR2; dsimp only at hM; obtain rfl := si hM; refine AW_ret ?_; simp [go_sem, F]
      · have g := h10; (try simp at g); have F := And.intro F (And.intro h10 g); refine AW_skip ?_; refine hK8 _ ?_; refine AW_region ?_; simp [go_sem, F]; exact fin hL5 (IntKind.i64.wrap (x1 + 1)) hM
    · have g := h7; (try simp at g); have F := And.intro F (And.intro h7 (And.intro g (lF h7))); refine AW_exit ?_; obtain rfl := si hM; exact fin hK4 () rfl
  · rintro _ rfl; have hM := hR2; dsimp only at hM; refine AW_sr fun K h => ?_; simp [go_sem, F]; refine h _ ?_; obtain rfl := si hM; refine AW_ret ?_; simp [go_sem, F]
theorem s_IsReserved_ctr (k : Nat) (a0 : ByteArray) (r : Bool) (hM : s_IsReserved k a0 = some r) : Ctr Tryz.prog 126 [.one (.str a0)] true [.one (.bool r)] := by
  unfold s_IsReserved at hM
  refine walkM Tryz.func126 Tryz.ntmps126 Tryz.results126 fun N w0 hbad F => ?_
  refine AW_sr fun K h => ?_; simp [go_sem, F]; refine h _ ?_; obtain ⟨x1, e1, hM⟩ := bind_some hM; obtain ⟨x2, e2, hM⟩ := bind_some hM; refine AW_sr fun K h => ?_; simp [go_sem, F]; refine by_c false (s_l2Reserved_ctr x1 e1) ?_; simp [go_sem, F]; refine by_c false (s_l1Has_ctr k x1 a0 x2 e2) ?_; simp [go_sem, F]; refine h _ ?_; obtain rfl := si hM; refine AW_ret ?_; simp [go_sem, F]
theorem s_IsValidName_ctr (k : Nat) (a0 : ByteArray) (r : Bool) (hM : s_IsValidName k a0 = some r) : Ctr Tryz.prog 101 [.one (.str a0)] true [.one (.bool r)] := by
  unfold s_IsValidName at hM
  refine walkM Tryz.func101 Tryz.ntmps101 Tryz.results101 fun N w0 hbad F => ?_
  refine AW_sr fun K h => ?_; simp [go_sem, F]; refine h _ ?_; obtain ⟨e1, hU3, hR2⟩ := bind_some hM; clear hM; refine AW_mid (ι := Bool) (fun i => ⟨15, [(2, .one (.l (.bool i)))], [], []⟩) (fun i => i = e1) ?_ ?_
  · intro K4 hK4; have hM := hU3; clear hU3; obtain ⟨x2, e5, hM⟩ := bind_some hM; rcases ifM hM with ⟨h6, hM⟩ | ⟨h6, hM⟩
    · have g := h6; (try simp at g); have F := And.intro F (And.intro h6 g); rcases ifM hM with ⟨h7, hM⟩ | ⟨h7, hM⟩
      · have g := h7; (try simp at g); have F := And.intro F (And.intro h7 (And.intro g (eT h7))); obtain ⟨x3, e8, hM⟩ := bind_some hM; refine AW_region ?_; simp [go_sem, F]; refine by_c false (s_l2Shape_ctr k a0 x2 e5) ?_; simp [go_sem, F]; refine by_c false (s_IsReserved_ctr k a0 x3 e8) ?_; simp [go_sem, F]; obtain rfl := si hM; exact fin hK4 (!x3) rfl
      · have g := h7; (try simp at g); have F := And.intro F (And.intro h7 (And.intro g (eF h7))); refine AW_region ?_; simp [go_sem, F]; refine by_c false (s_l2Shape_ctr k a0 x2 e5) ?_; simp [go_sem, F]; obtain rfl := si hM; exact fin hK4 false rfl
    · have g := h6; (try simp at g); have F := And.intro F (And.intro h6 g); refine AW_region ?_; simp [go_sem, F]; refine by_c false (s_l2Shape_ctr k a0 x2 e5) ?_; simp [go_sem, F]; obtain rfl := si hM; exact fin hK4 false rfl
  · rintro x1 rfl; have hM := hR2; (try dsimp only at hM); obtain rfl := si hM; refine AW_ret ?_; simp [go_sem, F]
theorem s_IsValidCell_ctr (k : Nat) (a0 : TCell) (r : Bool) (hM : s_IsValidCell k a0 = some r) : Ctr Tryz.prog 61 [.agg (TCell.c a0)] true [.one (.bool r)] := by
  unfold s_IsValidCell at hM
  refine walkM Tryz.func61 Tryz.ntmps61 Tryz.results61 fun N w0 hbad F => ?_
  refine AW_sr fun K h => ?_; simp [go_sem, F]; refine h _ ?_; refine AW_seq fun K1 hK1 => ?_; obtain ⟨e2, hU4, hR3⟩ := bind_some hM; clear hM; refine AW_mid (ι := Bool) (fun i => ⟨57, [(1, .one (.box 1 0)), (18, .one (.l (.bool i)))], [(1, [.l (.int .i64 a0.id), .l (.int .i64 a0.version), .l (.int .i64 a0.kind), .l (.str a0.name), .l (.str a0.code), .l (.int .i64 a0.n)])], []⟩) (fun i => i = e2) ?_ ?_
  · intro K5 hK5; have hM := hU4; clear hU4; obtain ⟨x2, e6, hM⟩ := bind_some hM; rcases ifM hM with ⟨h7, hM⟩ | ⟨h7, hM⟩
    · have g := h7; (try simp at g); have F := And.intro F (And.intro h7 g); refine AW_region ?_; simp [go_sem, F]; refine by_c false (s_l1In_ctr a0.id 1 999 x2 e6) ?_; simp [go_sem, F]; obtain rfl := si hM; exact fin hK5 true rfl
    · have g := h7; (try simp at g); have F := And.intro F (And.intro h7 g); obtain ⟨x3, e8, hM⟩ := bind_some hM; rcases ifM hM with ⟨h9, hM⟩ | ⟨h9, hM⟩
      · have g := h9; (try simp at g); have F := And.intro F (And.intro h9 g); refine AW_region ?_; simp [go_sem, F]; refine by_c false (s_l1In_ctr a0.id 1 999 x2 e6) ?_; simp [go_sem, F]; refine by_c false (s_l1In_ctr a0.version 1 999 x3 e8) ?_; simp [go_sem, F]; obtain rfl := si hM; exact fin hK5 true rfl
      · have g := h9; (try simp at g); have F := And.intro F (And.intro h9 g); obtain ⟨x4, e10, hM⟩ := bind_some hM; refine AW_region ?_; simp [go_sem, F]; refine by_c false (s_l1In_ctr a0.id 1 999 x2 e6) ?_; simp [go_sem, F]; refine by_c false (s_l1In_ctr a0.version 1 999 x3 e8) ?_; simp [go_sem, F]; refine by_c false (s_IsPrintable_ctr k a0.code x4 e10) ?_; simp [go_sem, F]; obtain rfl := si hM; exact fin hK5 (!x4) rfl
  · rintro x1 rfl; have hM := hR3; (try dsimp only at hM); refine AW_if hM (fun h11 hM => ?_) (fun h11 hM => ?_)
    · have g := h11; (try simp at g); have F := And.intro F (And.intro h11 g); refine AW_sr fun K h => ?_; simp [go_sem, F]; refine h _ ?_; obtain rfl := si hM; refine AW_ret ?_; simp [go_sem, F]
    · have g := h11; (try simp at g); have F := And.intro F (And.intro h11 g); refine AW_skip ?_; refine hK1 _ ?_; refine AW_seq fun K12 hK12 => ?_; refine AW_sr fun K h => ?_; simp [go_sem, F]; refine h _ ?_; refine AW_block ?_; refine AW_sr fun K h => ?_; simp [go_sem, F]; refine h _ ?_; refine AW_if hM (fun h13 hM => ?_) (fun h13 hM => ?_)
      · have g := h13; (try simp at g); have F := And.intro F (And.intro h13 g); obtain ⟨e14, hU16, hR15⟩ := bind_some hM; clear hM; refine AW_mid (ι := Bool) (fun i => ⟨57, [(2, .one (.l (.bool i)))], [], []⟩) (fun i => i = e14) ?_ ?_
        · intro K17 hK17; have hM := hU16; clear hU16; rcases ifM hM with ⟨h18, hM⟩ | ⟨h18, hM⟩
          · have g := h18; (try simp at g); have F := And.intro F (And.intro h18 g); refine AW_region ?_; simp [go_sem, F]; obtain rfl := si hM; exact fin hK17 (decide (a0.n = 0)) rfl
          · have g := h18; (try simp at g); have F := And.intro F (And.intro h18 g); refine AW_region ?_; simp [go_sem, F]; obtain rfl := si hM; exact fin hK17 false rfl
        · rintro x5 rfl; have hM := hR15; (try dsimp only at hM); obtain rfl := si hM; refine AW_ret ?_; simp [go_sem, F]
      · have g := h13; (try simp at g); have F := And.intro F (And.intro h13 g); obtain ⟨e19, hU21, hR20⟩ := bind_some hM; clear hM; refine AW_mid (ι := Bool) (fun i => ⟨57, [(1, .one (.box 1 0)), (20, .one (.l (.int .i64 a0.kind))), (31, .one (.l (.bool i)))], [(1, [.l (.int .i64 a0.id), .l (.int .i64 a0.version), .l (.int .i64 a0.kind), .l (.str a0.name), .l (.str a0.code), .l (.int .i64 a0.n)])], []⟩) (fun i => i = e19) ?_ ?_
        · intro K22 hK22; have hM := hU21; clear hU21; refine AW_sr fun K h => ?_; simp [go_sem, F]; refine h _ ?_; refine AW_if hM (fun h23 hM => ?_) (fun h23 hM => ?_)
          · have g := h23; (try simp at g); have F := And.intro F (And.intro h23 g); refine AW_skip ?_; obtain rfl := si hM; exact fin hK22 true rfl
          · have g := h23; (try simp at g); have F := And.intro F (And.intro h23 g); refine AW_region ?_; simp [go_sem, F]; obtain rfl := si hM; exact fin hK22 (decide (a0.kind = 4)) rfl
        · rintro x6 rfl; have hM := hR20; (try dsimp only at hM); refine AW_if hM (fun h24 hM => ?_) (fun h24 hM => ?_)
          · have g := h24; (try simp at g); have F := And.intro F (And.intro h24 g); obtain ⟨e25, hU27, hR26⟩ := bind_some hM; clear hM; refine AW_mid (ι := Bool) (fun i => ⟨57, [(2, .one (.l (.bool i)))], [], []⟩) (fun i => i = e25) ?_ ?_
            · intro K28 hK28; have hM := hU27; clear hU27; obtain ⟨x8, e29, hM⟩ := bind_some hM; rcases ifM hM with ⟨h30, hM⟩ | ⟨h30, hM⟩
              · have g := h30; (try simp at g); have F := And.intro F (And.intro h30 g); refine AW_region ?_; simp [go_sem, F]; refine by_c false (s_IsValidName_ctr k a0.name x8 e29) ?_; simp [go_sem, F]; obtain rfl := si hM; exact fin hK28 (decide (a0.n = 0)) rfl
              · have g := h30; (try simp at g); have F := And.intro F (And.intro h30 g); refine AW_region ?_; simp [go_sem, F]; refine by_c false (s_IsValidName_ctr k a0.name x8 e29) ?_; simp [go_sem, F]; obtain rfl := si hM; exact fin hK28 false rfl
            · rintro x7 rfl; have hM := hR26; (try dsimp only at hM); obtain rfl := si hM; refine AW_ret ?_; simp [go_sem, F]
          · have g := h24; (try simp at g); have F := And.intro F (And.intro h24 g); refine AW_sr fun K h => ?_; simp [go_sem, F]; refine h _ ?_; refine AW_if hM (fun h31 hM => ?_) (fun h31 hM => ?_)
            · have g := h31; (try simp at g); have F := And.intro F (And.intro h31 g); obtain ⟨e32, hU34, hR33⟩ := bind_some hM; clear hM; refine AW_mid (ι := Bool) (fun i => ⟨57, [(2, .one (.l (.bool i)))], [], []⟩) (fun i => i = e32) ?_ ?_
              · intro K35 hK35; have hM := hU34; clear hU34; obtain ⟨x10, e36, hM⟩ := bind_some hM; rcases ifM hM with ⟨h37, hM⟩ | ⟨h37, hM⟩
                · have g := h37; (try simp at g); have F := And.intro F (And.intro h37 g); rcases ifM hM with ⟨h38, hM⟩ | ⟨h38, hM⟩
                  · have g := h38; (try simp at g); have F := And.intro F (And.intro h38 g); obtain ⟨x11, e39, hM⟩ := bind_some hM; refine AW_region ?_; simp [go_sem, F]; refine by_c false (s_IsValidName_ctr k a0.name x10 e36) ?_; simp [go_sem, F]; refine by_c false (s_l1In_ctr a0.n 0 100 x11 e39) ?_; simp [go_sem, F]; obtain rfl := si hM; exact fin hK35 x11 rfl
                  · have g := h38; (try simp at g); have F := And.intro F (And.intro h38 g); refine AW_region ?_; simp [go_sem, F]; refine by_c false (s_IsValidName_ctr k a0.name x10 e36) ?_; simp [go_sem, F]; obtain rfl := si hM; exact fin hK35 false rfl
                · have g := h37; (try simp at g); have F := And.intro F (And.intro h37 g); refine AW_region ?_; simp [go_sem, F]; refine by_c false (s_IsValidName_ctr k a0.name x10 e36) ?_; simp [go_sem, F]; obtain rfl := si hM; exact fin hK35 false rfl
              · rintro x9 rfl; have hM := hR33; (try dsimp only at hM); obtain rfl := si hM; refine AW_ret ?_; simp [go_sem, F]
            · have g := h31; (try simp at g); have F := And.intro F (And.intro h31 g); refine AW_skip ?_; refine hK12 _ ?_; refine AW_sr fun K h => ?_; simp [go_sem, F]; refine h _ ?_; obtain rfl := si hM; refine AW_ret ?_; simp [go_sem, F]
theorem s_CellIndex_ctr (k : Nat) (a0 : TNotebook) (a1 : Int) (r : Int) (hM : s_CellIndex k a0 a1 = some r) : Ctr Tryz.prog 30 [.agg (TNotebook.c a0), .one (.int .i64 a1)] true [.one (.int .i64 r)] := by
  unfold s_CellIndex at hM
  refine walkM Tryz.func30 Tryz.ntmps30 Tryz.results30 fun N w0 hbad F => ?_
  refine AW_sr fun K h => ?_; simp [go_sem, F]; refine h _ ?_; obtain ⟨e1, hU3, hR2⟩ := bind_some hM; clear hM; refine AW_mid (ι := Unit) (fun i => ⟨22, [], [], []⟩) (fun i => (.inl i) = e1) ?_ ?_
  · intro K4 hK4; have hM := hU3; clear hU3; refine AW_sr fun K h => ?_; simp [go_sem, F]; refine h _ ?_; refine AW_block ?_; refine AW_lp (ι := Int) (fun i => ⟨22, [(1, .one (.l (.int .i64 a1))), (2, .one (.box 2 0)), (5, .one (.l (.int .i64 i)))], [(2, [.l (.sl (a0.cells.map TCell.c))])], []⟩) (fun n i => s_CellIndex_u1 a0 a1 n i = some e1) k 0 hM (by simp [s_CellIndex_u1]) ?_; intro KL5 n x1 hL5 hM F
    have hM : s_CellIndex_u1 a0 a1 (n + 1) x1 = some e1 := hM; rw [s_CellIndex_u1] at hM; refine AW_seq fun K6 hK6 => ?_; refine AW_sr fun K h => ?_; simp [go_sem, F]; refine h _ ?_; refine AW_if hM (fun h7 hM => ?_) (fun h7 hM => ?_)
    · have g := h7; (try simp at g); have F := And.intro F (And.intro h7 (And.intro g (lT h7))); refine AW_skip ?_; refine hK6 _ ?_; refine AW_seq fun K8 hK8 => ?_; refine AW_block ?_; obtain ⟨x2, e9, hM⟩ := bind_some hM; have F := And.intro F (at_f e9); refine AW_sr fun K h => ?_; simp [go_sem, F]; refine h _ ?_; refine AW_if hM (fun h10 hM => ?_) (fun h10 hM => ?_)
      · have g := h10; (try simp at g); have F := And.intro F (And.intro h10 g); refine AW_sr fun K h => ?_; simp [go_sem, F]; refine h _ ?_; obtain rfl := si hM; have hM := hR2; dsimp only at hM; obtain rfl := si hM; refine AW_ret ?_; simp [go_sem, F]
      · have g := h10; (try simp at g); have F := And.intro F (And.intro h10 g); refine AW_skip ?_; refine hK8 _ ?_; refine AW_region ?_; simp [go_sem, F]; exact fin hL5 (IntKind.i64.wrap (x1 + 1)) hM
    · have g := h7; (try simp at g); have F := And.intro F (And.intro h7 (And.intro g (lF h7))); refine AW_exit ?_; obtain rfl := si hM; exact fin hK4 () rfl
  · rintro _ rfl; have hM := hR2; dsimp only at hM; refine AW_sr fun K h => ?_; simp [go_sem, F]; refine h _ ?_; obtain rfl := si hM; refine AW_ret ?_; simp [go_sem, F]
theorem s_IsValidNotebook_ctr (k : Nat) (a0 : TNotebook) (r : Bool) (hM : s_IsValidNotebook k a0 = some r) : Ctr Tryz.prog 59 [.agg (TNotebook.c a0)] true [.one (.bool r)] := by
  unfold s_IsValidNotebook at hM
  refine walkM Tryz.func59 Tryz.ntmps59 Tryz.results59 fun N w0 hbad F => ?_
  refine AW_sr fun K h => ?_; simp [go_sem, F]; refine h _ ?_; obtain ⟨e1, hU3, hR2⟩ := bind_some hM; clear hM; refine AW_mid (ι := Unit) (fun i => ⟨34, [(1, .one (.box 1 0))], [(1, [.l (.sl (a0.cells.map TCell.c))])], []⟩) (fun i => (.inl i) = e1) ?_ ?_
  · intro K4 hK4; have hM := hU3; clear hU3; refine AW_sr fun K h => ?_; simp [go_sem, F]; refine h _ ?_; refine AW_block ?_; refine AW_lp (ι := Int) (fun i => ⟨34, [(1, .one (.box 1 0)), (3, .one (.l (.int .i64 i)))], [(1, [.l (.sl (a0.cells.map TCell.c))])], []⟩) (fun n i => s_IsValidNotebook_u1 k a0 n i = some e1) k 0 hM (by simp [s_IsValidNotebook_u1]) ?_; intro KL5 n x1 hL5 hM F; have hM : s_IsValidNotebook_u1 k a0 (n + 1) x1 = some e1 := hM; rw [s_IsValidNotebook_u1] at hM
    refine AW_seq fun K6 hK6 => ?_; refine AW_sr fun K h => ?_; simp [go_sem, F]; refine h _ ?_; refine AW_if hM (fun h7 hM => ?_) (fun h7 hM => ?_)
    · have g := h7; (try simp at g); have F := And.intro F (And.intro h7 (And.intro g (lT h7))); refine AW_skip ?_; refine hK6 _ ?_; refine AW_seq fun K8 hK8 => ?_; refine AW_block ?_; obtain ⟨e9, hU11, hR10⟩ := bind_some hM; clear hM; refine AW_mid (ι := Bool) (fun i => ⟨34, [(1, .one (.box 1 0)), (3, .one (.l (.int .i64 x1))), (29, .one (.l (.bool i)))], [(1, [.l (.sl (a0.cells.map TCell.c))])], []⟩) (fun i => i = e9) ?_ ?_
      · intro K12 hK12; have hM := hU11; clear hU11; obtain ⟨x3, e13, hM⟩ := bind_some hM; have F := And.intro F (at_f e13); obtain ⟨x4, e14, hM⟩ := bind_some hM; rcases ifM hM with ⟨h15, hM⟩ | ⟨h15, hM⟩
        · have g := h15; (try simp at g); have F := And.intro F (And.intro h15 g); refine AW_quickN 17 mixed (by kernel_rfl) (by kernel_rfl) ?_; simp [go_sem, F]; refine by_c false (s_IsValidCell_ctr k x3 x4 e14) ?_; simp [go_sem, F]; obtain rfl := si hM; exact fin hK12 true rfl
        · have g := h15; (try simp at g); have F := And.intro F (And.intro h15 g); obtain ⟨x5, e16, hM⟩ := bind_some hM; refine AW_quickN 17 mixed (by kernel_rfl) (by kernel_rfl) ?_; simp [go_sem, F]; refine by_c false (s_IsValidCell_ctr k x3 x4 e14) ?_; simp [go_sem, F]; refine by_c false (s_CellIndex_ctr k a0 x3.id x5 e16) ?_; simp [go_sem, F]; obtain rfl := si hM; exact fin hK12 (!decide (x5 = x1)) rfl
      · rintro x2 rfl; have hM := hR10; (try dsimp only at hM); refine AW_if hM (fun h17 hM => ?_) (fun h17 hM => ?_)
        · have g := h17; (try simp at g); have F := And.intro F (And.intro h17 g); refine AW_sr fun K h => ?_; simp [go_sem, F]; refine h _ ?_; obtain rfl := si hM; have hM := hR2; dsimp only at hM; obtain rfl := si hM; refine AW_ret ?_; simp [go_sem, F]
        · have g := h17; (try simp at g); have F := And.intro F (And.intro h17 g); refine AW_skip ?_; refine hK8 _ ?_; refine AW_region ?_; simp [go_sem, F]; exact fin hL5 (IntKind.i64.wrap (x1 + 1)) hM
    · have g := h7; (try simp at g); have F := And.intro F (And.intro h7 (And.intro g (lF h7))); refine AW_exit ?_; obtain rfl := si hM; exact fin hK4 () rfl
  · rintro _ rfl; have hM := hR2; dsimp only at hM; refine AW_sr fun K h => ?_; simp [go_sem, F]; refine h _ ?_; obtain rfl := si hM; refine AW_ret ?_; simp [go_sem, F]
theorem s_l1Min_ctr (a0 : Int) (a1 : Int) (r : Int) (hM : s_l1Min a0 a1 = some r) : Ctr Tryz.prog 103 [.one (.int .i64 a0), .one (.int .i64 a1)] true [.one (.int .i64 r)] := by
  unfold s_l1Min at hM
  refine walkM Tryz.func103 Tryz.ntmps103 Tryz.results103 fun N w0 hbad F => ?_
  refine AW_sr fun K h => ?_; simp [go_sem, F]; refine h _ ?_; refine AW_seq fun K1 hK1 => ?_; refine AW_sr fun K h => ?_; simp [go_sem, F]; refine h _ ?_; refine AW_if hM (fun h2 hM => ?_) (fun h2 hM => ?_)
  · have g := h2; (try simp at g); have F := And.intro F (And.intro h2 (And.intro g (lT h2))); refine AW_sr fun K h => ?_; simp [go_sem, F]; refine h _ ?_; obtain rfl := si hM; refine AW_ret ?_; simp [go_sem, F]
  · have g := h2; (try simp at g); have F := And.intro F (And.intro h2 (And.intro g (lF h2))); refine AW_skip ?_; refine hK1 _ ?_; refine AW_sr fun K h => ?_; simp [go_sem, F]; refine h _ ?_; obtain rfl := si hM; refine AW_ret ?_; simp [go_sem, F]
theorem s_l1Max_ctr (a0 : Int) (a1 : Int) (r : Int) (hM : s_l1Max a0 a1 = some r) : Ctr Tryz.prog 102 [.one (.int .i64 a0), .one (.int .i64 a1)] true [.one (.int .i64 r)] := by
  unfold s_l1Max at hM
  refine walkM Tryz.func102 Tryz.ntmps102 Tryz.results102 fun N w0 hbad F => ?_
  refine AW_sr fun K h => ?_; simp [go_sem, F]; refine h _ ?_; refine AW_seq fun K1 hK1 => ?_; refine AW_sr fun K h => ?_; simp [go_sem, F]; refine h _ ?_; refine AW_if hM (fun h2 hM => ?_) (fun h2 hM => ?_)
  · have g := h2; (try simp at g); have F := And.intro F (And.intro h2 (And.intro g (lT h2))); refine AW_sr fun K h => ?_; simp [go_sem, F]; refine h _ ?_; obtain rfl := si hM; refine AW_ret ?_; simp [go_sem, F]
  · have g := h2; (try simp at g); have F := And.intro F (And.intro h2 (And.intro g (lF h2))); refine AW_skip ?_; refine hK1 _ ?_; refine AW_sr fun K h => ?_; simp [go_sem, F]; refine h _ ?_; obtain rfl := si hM; refine AW_ret ?_; simp [go_sem, F]
theorem s_l20Put_ctr (a0 : List TCell) (a1 : Int) (a2 : TCell) (r : List TCell) (hM : s_l20Put a0 a1 a2 = some r) : Ctr Tryz.prog 62 [.one (.sl (a0.map TCell.c)), .one (.int .i64 a1), .agg (TCell.c a2)] true [.one (.sl (r.map TCell.c))] := by
  unfold s_l20Put at hM
  refine walkM Tryz.func62 Tryz.ntmps62 Tryz.results62 fun N w0 hbad F => ?_
  refine AW_sr fun K h => ?_; simp [go_sem, F]; refine h _ ?_; obtain ⟨x1, e1, hM⟩ := bind_some hM; obtain ⟨x2, e2, hM⟩ := bind_some hM; refine AW_sr fun K h => ?_; simp [go_sem, F]; refine by_c false (s_l1Min_ctr a1 (a0.length : Int) x1 e1) ?_; simp [go_sem, F]; refine by_c false (s_l1Max_ctr 0 x1 x2 e2) ?_; simp [go_sem, F]; refine h _ ?_; obtain ⟨x3, e3, hM⟩ := bind_some hM; obtain ⟨c4, s5⟩ := sub_spec e3; replace c4 := c4.symm; subst c4; (try simp at s5)
  have F := And.intro F s5; obtain ⟨x4, e8, hM⟩ := bind_some hM; obtain ⟨c9, s10⟩ := app_spec e8; replace c9 := c9.symm; subst c9; (try simp [F] at s10); have F := And.intro F s10; refine AW_sr fun K h => ?_; simp [go_sem, F]; refine h _ ?_; obtain ⟨x5, e12, hM⟩ := bind_some hM; obtain ⟨c13, s14⟩ := app_spec e12; replace c13 := c13.symm; subst c13; (try simp [F] at s14); have F := And.intro F s14; refine AW_sr fun K h => ?_
  simp [go_sem, F]; refine h _ ?_; obtain ⟨x6, e16, hM⟩ := bind_some hM; obtain ⟨c17, s18⟩ := sub_spec e16; replace c17 := c17.symm; subst c17; (try simp at s18); have F := And.intro F s18; obtain ⟨x7, e21, hM⟩ := bind_some hM; obtain ⟨c22, s23⟩ := app_spec e21; replace c22 := c22.symm; subst c22; (try simp [F] at s23); have F := And.intro F s23; refine AW_sr fun K h => ?_; simp [go_sem, F]; refine h _ ?_
  obtain rfl := si hM; refine AW_ret ?_; simp [go_sem, F]; (try omega)
end Go.Proofs.YtbknilpmpjjfpaaGreat
