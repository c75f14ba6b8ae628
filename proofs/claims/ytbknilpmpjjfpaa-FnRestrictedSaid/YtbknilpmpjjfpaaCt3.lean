/- Contracts of the program's functions: where the mirrored function answers, the program's function returns this answer. Written by a program of mine. -/
import Derived.Test.YtbknilpmpjjfpaaWn
import Derived.Test.YtbknilpmpjjfpaaMd3
import Derived.Test.YtbknilpmpjjfpaaCt2
set_option linter.unusedSimpArgs false
set_option linter.unusedVariables false
namespace Go.Proofs.Ytbknilpmpjjfpaa
open Go.RowKit Am
set_option maxHeartbeats 4000000
set_option maxRecDepth 100000
theorem s_l3Number_ctr (a0 : Int) (r : Bool) (hM : s_l3Number a0 = some r) : Ctr Try.prog 65 [.one (.int .i64 a0)] true [.one (.bool r)] := by
  unfold s_l3Number at hM
  refine walkM Try.func65 Try.ntmps65 Try.results65 fun N w0 hbad F => ?_
  refine AW_sr fun K h => ?_; simp [go_sem, F]; refine h _ ?_; obtain ⟨x1, e1, hM⟩ := bind_some hM; refine AW_sr fun K h => ?_; simp [go_sem, F]; refine by_c false (s_l1In_ctr a0 (-1000000000) 1000000000 x1 e1) ?_; simp [go_sem, F]; refine h _ ?_; obtain rfl := si hM; refine AW_ret ?_; simp [go_sem, F]
theorem s_IsValidText_ctr (k : Nat) (a0 : ByteArray) (r : Bool) (hM : s_IsValidText k a0 = some r) : Ctr Try.prog 66 [.one (.str a0)] true [.one (.bool r)] := by
  unfold s_IsValidText at hM
  refine walkM Try.func66 Try.ntmps66 Try.results66 fun N w0 hbad F => ?_
  refine AW_sr fun K h => ?_; simp [go_sem, F]; refine h _ ?_; obtain ⟨e1, hU3, hR2⟩ := bind_some hM; clear hM; refine AW_mid (ι := Unit) (fun i => ⟨29, [(0, .one (.l (.str a0)))], [], []⟩) (fun i => (.inl i) = e1) ?_ ?_
  · intro K4 hK4; have hM := hU3; clear hU3; refine AW_sr fun K h => ?_; simp [go_sem, F]; refine h _ ?_; refine AW_block ?_; refine AW_lp (ι := Int) (fun i => ⟨29, [(0, .one (.l (.str a0))), (3, .one (.l (.int .i64 i)))], [], []⟩) (fun n i => s_IsValidText_u1 a0 n i = some e1) k 0 hM (by simp [s_IsValidText_u1]) ?_; intro KL5 n x1 hL5 hM F; have hM : s_IsValidText_u1 a0 (n + 1) x1 = some e1 := hM; rw [s_IsValidText_u1] at hM
    refine AW_seq fun K6 hK6 => ?_; refine AW_sr fun K h => ?_; simp [go_sem, F]; refine h _ ?_; refine AW_if hM (fun h7 hM => ?_) (fun h7 hM => ?_)
    · have g := h7; (try simp at g); have F := And.intro F (And.intro h7 (And.intro g (lT h7))); refine AW_skip ?_; refine hK6 _ ?_; refine AW_seq fun K8 hK8 => ?_; refine AW_block ?_; obtain ⟨e9, hU11, hR10⟩ := bind_some hM; clear hM; refine AW_mid (ι := Bool) (fun i => ⟨29, [(0, .one (.l (.str a0))), (3, .one (.l (.int .i64 x1))), (25, .one (.l (.bool i)))], [], []⟩) (fun i => i = e9) ?_ ?_
      · intro K12 hK12; have hM := hU11; clear hU11; obtain ⟨x3, e13, hM⟩ := bind_some hM; have F := And.intro F (at_f e13); rcases ifM hM with ⟨h14, hM⟩ | ⟨h14, hM⟩
        · have g := h14; (try simp at g); have F := And.intro F (And.intro h14 (And.intro g (lT h14))); refine AW_region ?_; simp [go_sem, F]; obtain rfl := si hM; exact fin hK12 true rfl
        · have g := h14; (try simp at g); have F := And.intro F (And.intro h14 (And.intro g (lF h14))); rcases ifM hM with ⟨h15, hM⟩ | ⟨h15, hM⟩
          · have g := h15; (try simp at g); have F := And.intro F (And.intro h15 (And.intro g (lT h15))); refine AW_region ?_; simp [go_sem, F]; obtain rfl := si hM; exact fin hK12 true rfl
          · have g := h15; (try simp at g); have F := And.intro F (And.intro h15 (And.intro g (lF h15))); refine AW_region ?_; simp [go_sem, F]; obtain rfl := si hM; exact fin hK12 (decide ((x3.toNat : Int) = 34)) rfl
      · rintro x2 rfl; have hM := hR10; (try dsimp only at hM); refine AW_if hM (fun h16 hM => ?_) (fun h16 hM => ?_)
        · have g := h16; (try simp at g); have F := And.intro F (And.intro h16 g); refine AW_sr fun K h => ?_; simp [go_sem, F]; refine h _ ?_; obtain rfl := si hM; have hM := hR2; dsimp only at hM; obtain rfl := si hM; refine AW_ret ?_; simp [go_sem, F]
        · have g := h16; (try simp at g); have F := And.intro F (And.intro h16 g); refine AW_skip ?_; refine hK8 _ ?_; refine AW_region ?_; simp [go_sem, F]; exact fin hL5 (IntKind.i64.wrap (x1 + 1)) hM
    · have g := h7; (try simp at g); have F := And.intro F (And.intro h7 (And.intro g (lF h7))); refine AW_exit ?_; obtain rfl := si hM; exact fin hK4 () rfl
  · rintro _ rfl; have hM := hR2; dsimp only at hM; refine AW_sr fun K h => ?_; simp [go_sem, F]; refine h _ ?_; obtain rfl := si hM; refine AW_ret ?_; simp [go_sem, F]
theorem s_l3Element_ctr (a0 : TValue) (r : Bool) (hM : s_l3Element a0 = some r) : Ctr Try.prog 105 [.agg (TValue.c a0)] true [.one (.bool r)] := by
  unfold s_l3Element at hM
  refine walkM Try.func105 Try.ntmps105 Try.results105 fun N w0 hbad F => ?_
  refine AW_sr fun K h => ?_; simp [go_sem, F]; refine h _ ?_; obtain ⟨e1, hU3, hR2⟩ := bind_some hM; clear hM; refine AW_mid (ι := Bool) (fun i => ⟨16, [(2, .one (.l (.bool i)))], [], []⟩) (fun i => i = e1) ?_ ?_
  · intro K4 hK4; have hM := hU3; clear hU3; rcases ifM hM with ⟨h5, hM⟩ | ⟨h5, hM⟩
    · have g := h5; (try simp at g); have F := And.intro F (And.intro h5 g); refine AW_region ?_; simp [go_sem, F]; obtain rfl := si hM; exact fin hK4 true rfl
    · have g := h5; (try simp at g); have F := And.intro F (And.intro h5 g); rcases ifM hM with ⟨h6, hM⟩ | ⟨h6, hM⟩
      · have g := h6; (try simp at g); have F := And.intro F (And.intro h6 g); refine AW_region ?_; simp [go_sem, F]; obtain rfl := si hM; exact fin hK4 true rfl
      · have g := h6; (try simp at g); have F := And.intro F (And.intro h6 g); refine AW_region ?_; simp [go_sem, F]; obtain rfl := si hM; exact fin hK4 (decide (a0.kind = 3)) rfl
  · rintro x1 rfl; have hM := hR2; (try dsimp only at hM); obtain rfl := si hM; refine AW_ret ?_; simp [go_sem, F]
theorem s_l1Max_ctr (a0 : Int) (a1 : Int) (r : Int) (hM : s_l1Max a0 a1 = some r) : Ctr Try.prog 47 [.one (.int .i64 a0), .one (.int .i64 a1)] true [.one (.int .i64 r)] := by
  unfold s_l1Max at hM
  refine walkM Try.func47 Try.ntmps47 Try.results47 fun N w0 hbad F => ?_
  refine AW_sr fun K h => ?_; simp [go_sem, F]; refine h _ ?_; refine AW_seq fun K1 hK1 => ?_; refine AW_sr fun K h => ?_; simp [go_sem, F]; refine h _ ?_; refine AW_if hM (fun h2 hM => ?_) (fun h2 hM => ?_)
  · have g := h2; (try simp at g); have F := And.intro F (And.intro h2 (And.intro g (lT h2))); refine AW_sr fun K h => ?_; simp [go_sem, F]; refine h _ ?_; obtain rfl := si hM; refine AW_ret ?_; simp [go_sem, F]
  · have g := h2; (try simp at g); have F := And.intro F (And.intro h2 (And.intro g (lF h2))); refine AW_skip ?_; refine hK1 _ ?_; refine AW_sr fun K h => ?_; simp [go_sem, F]; refine h _ ?_; obtain rfl := si hM; refine AW_ret ?_; simp [go_sem, F]
theorem s_DepthOf_all : ∀ (k : Nat), (∀ (a0 : TValue) (r : Int) (hM : s_DepthOf k a0 = some r), Ctr Try.prog 106 [.agg (TValue.c a0)] true [.one (.int .i64 r)]) := by
  intro k
  induction k with
  | zero => intro a0 r hM; simp [s_DepthOf] at hM
  | succ k ih_s_DepthOf =>
    · intro a0 r hM
      rw [s_DepthOf] at hM
      refine walkM Try.func106 Try.ntmps106 Try.results106 fun N w0 hbad F => ?_
      refine AW_sr fun K h => ?_; simp [go_sem, F]; refine h _ ?_; refine AW_sr fun K h => ?_; simp [go_sem, F]; refine h _ ?_; obtain ⟨e1, hU3, hR2⟩ := bind_some hM; clear hM; refine AW_mid (ι := Int) (fun i => ⟨22, [(3, .one (.l (.int .i64 i)))], [], []⟩) (fun i => i = e1) ?_ ?_
      · intro K4 hK4; have hM := hU3; clear hU3; refine AW_sr fun K h => ?_; simp [go_sem, F]; refine h _ ?_; refine AW_block ?_; refine AW_lp (ι := Int × Int) (fun i => ⟨22, [(1, .one (.box 1 0)), (3, .one (.l (.int .i64 i.1))), (4, .one (.l (.int .i64 i.2)))], [(1, [.l (.int .i64 a0.kind), .l (.int .i64 a0.n), .l (.int .i64 a0.step), .l (.str a0.text), .l (.sl (a0.list.map TValue.c)), .l (.sl (a0.columns.map sC)), .l (.sl (a0.rows.map TRow.c))])], []⟩) (fun n i => s_DepthOf_u1 (s_DepthOf k) a0 n i.1 i.2 = some e1) k (0, 0) hM (by simp [s_DepthOf_u1]) ?_
        intro KL5 n ⟨x2, x3⟩ hL5 hM F; have hM : s_DepthOf_u1 (s_DepthOf k) a0 (n + 1) x2 x3 = some e1 := hM; rw [s_DepthOf_u1] at hM; refine AW_seq fun K6 hK6 => ?_; refine AW_sr fun K h => ?_; simp [go_sem, F]; refine h _ ?_; refine AW_if hM (fun h7 hM => ?_) (fun h7 hM => ?_)
        · have g := h7; (try simp at g); have F := And.intro F (And.intro h7 (And.intro g (lT h7))); refine AW_skip ?_; refine hK6 _ ?_; refine AW_seq fun K8 hK8 => ?_; refine AW_block ?_; obtain ⟨x4, e9, hM⟩ := bind_some hM; have F := And.intro F (at_f e9); obtain ⟨x5, e10, hM⟩ := bind_some hM; obtain ⟨x6, e11, hM⟩ := bind_some hM; refine AW_region ?_; simp [go_sem, F]; refine by_c false (ih_s_DepthOf x4 x5 e10) ?_
          simp [go_sem, F]; refine by_c false (s_l1Max_ctr x2 x5 x6 e11) ?_; simp [go_sem, F]; refine hK8 _ ?_; refine AW_region ?_; simp [go_sem, F]; exact fin hL5 (x6, (IntKind.i64.wrap (x3 + 1))) hM
        · have g := h7; (try simp at g); have F := And.intro F (And.intro h7 (And.intro g (lF h7))); refine AW_exit ?_; obtain rfl := si hM; exact fin hK4 x2 rfl
      · rintro x1 rfl; have hM := hR2; (try dsimp only at hM); refine AW_sr fun K h => ?_; simp [go_sem, F]; refine h _ ?_; obtain rfl := si hM; refine AW_ret ?_; simp [go_sem, F]
theorem s_DepthOf_ctr (k : Nat) : ∀ (a0 : TValue) (r : Int) (hM : s_DepthOf k a0 = some r), Ctr Try.prog 106 [.agg (TValue.c a0)] true [.one (.int .i64 r)] := (s_DepthOf_all k)
theorem s_l2Shape_ctr (k : Nat) (a0 : ByteArray) (r : Bool) (hM : s_l2Shape k a0 = some r) : Ctr Try.prog 148 [.one (.str a0)] true [.one (.bool r)] := by
  unfold s_l2Shape at hM
  refine walkM Try.func148 Try.ntmps148 Try.results148 fun N w0 hbad F => ?_
  refine AW_sr fun K h => ?_; simp [go_sem, F]; refine h _ ?_; obtain ⟨e1, hU3, hR2⟩ := bind_some hM; clear hM; refine AW_mid (ι := Unit) (fun i => ⟨45, [(0, .one (.l (.str a0)))], [], []⟩) (fun i => (.inl i) = e1) ?_ ?_
  · intro K4 hK4; have hM := hU3; clear hU3; refine AW_sr fun K h => ?_; simp [go_sem, F]; refine h _ ?_; refine AW_block ?_; refine AW_lp (ι := Int) (fun i => ⟨45, [(0, .one (.l (.str a0))), (3, .one (.l (.int .i64 i)))], [], []⟩) (fun n i => s_l2Shape_u1 a0 n i = some e1) k 0 hM (by simp [s_l2Shape_u1]) ?_; intro KL5 n x1 hL5 hM F; have hM : s_l2Shape_u1 a0 (n + 1) x1 = some e1 := hM; rw [s_l2Shape_u1] at hM
    refine AW_seq fun K6 hK6 => ?_; refine AW_sr fun K h => ?_; simp [go_sem, F]; refine h _ ?_; refine AW_if hM (fun h7 hM => ?_) (fun h7 hM => ?_)
    · have g := h7; (try simp at g); have F := And.intro F (And.intro h7 (And.intro g (lT h7))); refine AW_skip ?_; refine hK6 _ ?_; refine AW_seq fun K8 hK8 => ?_; refine AW_block ?_; obtain ⟨e9, hU11, hR10⟩ := bind_some hM; clear hM; refine AW_mid (ι := Bool) (fun i => ⟨45, [(0, .one (.l (.str a0))), (3, .one (.l (.int .i64 x1))), (4, .one (.l (.bool i)))], [], []⟩) (fun i => i = e9) ?_ ?_
      · intro K12 hK12; have hM := hU11; clear hU11; obtain ⟨x3, e13, hM⟩ := bind_some hM; have F := And.intro F (at_f e13); rcases ifM hM with ⟨h14, hM⟩ | ⟨h14, hM⟩
        · have g := h14; (try simp at g); have F := And.intro F (And.intro h14 (And.intro g (eT h14))); refine AW_region ?_; simp [go_sem, F]; obtain rfl := si hM; exact fin hK12 (decide ((x3.toNat : Int) ≤ 122)) rfl
        · have g := h14; (try simp at g); have F := And.intro F (And.intro h14 (And.intro g (eF h14))); refine AW_region ?_; simp [go_sem, F]; obtain rfl := si hM; exact fin hK12 false rfl
      · rintro x2 rfl; have hM := hR10; (try dsimp only at hM); obtain ⟨e15, hU17, hR16⟩ := bind_some hM; clear hM; refine AW_mid (ι := Bool) (fun i => ⟨45, [(0, .one (.l (.str a0))), (3, .one (.l (.int .i64 x1))), (4, .one (.l (.bool x2))), (5, .one (.l (.bool i)))], [], []⟩) (fun i => i = e15) ?_ ?_
        · intro K18 hK18; have hM := hU17; clear hU17; obtain ⟨x5, e19, hM⟩ := bind_some hM; have F := And.intro F (at_f e19); rcases ifM hM with ⟨h20, hM⟩ | ⟨h20, hM⟩
          · have g := h20; (try simp at g); have F := And.intro F (And.intro h20 (And.intro g (eT h20))); refine AW_region ?_; simp [go_sem, F]; obtain rfl := si hM; exact fin hK18 (decide ((x5.toNat : Int) ≤ 57)) rfl
          · have g := h20; (try simp at g); have F := And.intro F (And.intro h20 (And.intro g (eF h20))); refine AW_region ?_; simp [go_sem, F]; obtain rfl := si hM; exact fin hK18 false rfl
        · rintro x4 rfl; have hM := hR16; (try dsimp only at hM); obtain ⟨e21, hU23, hR22⟩ := bind_some hM; clear hM; refine AW_mid (ι := Bool) (fun i => ⟨45, [(0, .one (.l (.str a0))), (3, .one (.l (.int .i64 x1))), (41, .one (.l (.bool i)))], [], []⟩) (fun i => i = e21) ?_ ?_
          · intro K24 hK24; have hM := hU23; clear hU23; rcases ifM hM with ⟨h25, hM⟩ | ⟨h25, hM⟩
            · have g := h25; (try simp at g); have F := And.intro F (And.intro h25 g); rcases ifM hM with ⟨h26, hM⟩ | ⟨h26, hM⟩
              · have g := h26; (try simp at g); have F := And.intro F (And.intro h26 g); refine AW_region ?_; simp [go_sem, F]; obtain rfl := si hM; exact fin hK24 true rfl
              · have g := h26; (try simp at g); have F := And.intro F (And.intro h26 g); refine AW_region ?_; simp [go_sem, F]; obtain rfl := si hM; exact fin hK24 (!x4) rfl
            · have g := h25; (try simp at g); have F := And.intro F (And.intro h25 g); refine AW_region ?_; simp [go_sem, F]; obtain rfl := si hM; exact fin hK24 false rfl
          · rintro x6 rfl; have hM := hR22; (try dsimp only at hM); refine AW_if hM (fun h27 hM => ?_) (fun h27 hM => ?_)
            · have g := h27; (try simp at g); have F := And.intro F (And.intro h27 g); refine AW_sr fun K h => ?_; simp [go_sem, F]; refine h _ ?_; obtain rfl := si hM; have hM := hR2; dsimp only at hM; obtain rfl := si hM; refine AW_ret ?_; simp [go_sem, F]
            · have g := h27; (try simp at g); have F := And.intro F (And.intro h27 g); refine AW_skip ?_; refine hK8 _ ?_; refine AW_region ?_; simp [go_sem, F]; exact fin hL5 (IntKind.i64.wrap (x1 + 1)) hM
    · have g := h7; (try simp at g); have F := And.intro F (And.intro h7 (And.intro g (lF h7))); refine AW_exit ?_; obtain rfl := si hM; exact fin hK4 () rfl
  · rintro _ rfl; have hM := hR2; dsimp only at hM; refine AW_sr fun K h => ?_; simp [go_sem, F]; refine h _ ?_; obtain rfl := si hM; refine AW_ret ?_; simp [go_sem, F]
theorem s_l2Reserved_ctr (r : List ByteArray) (hM : s_l2Reserved = some r) : Ctr Try.prog 165 [] true [.one (.sl (r.map sC))] := by
  unfold s_l2Reserved at hM
  refine walkM Try.func165 Try.ntmps165 Try.results165 fun N w0 hbad F => ?_
  refine AW_sr fun K h => ?_; simp [go_sem, F]; refine h _ ?_; refine AW_sr fun K h => ?_; simp [go_sem, F]; refine h _ ?_; obtain rfl := si hM; refine AW_ret ?_; simp [go_sem, F]
theorem s_l1Has_ctr (k : Nat) (a0 : List ByteArray) (a1 : ByteArray) (r : Bool) (hM : s_l1Has k a0 a1 = some r) : Ctr Try.prog 125 [.one (.sl (a0.map sC)), .one (.str a1)] true [.one (.bool r)] := by
  unfold s_l1Has at hM
  refine walkM Try.func125 Try.ntmps125 Try.results125 fun N w0 hbad F => ?_
  refine AW_sr fun K h => ?_; simp [go_sem, F]; refine h _ ?_; obtain ⟨e1, hU3, hR2⟩ := bind_some hM; clear hM; refine AW_mid (ι := Unit) (fun i => ⟨18, [], [], []⟩) (fun i => (.inl i) = e1) ?_ ?_
  · intro K4 hK4; have hM := hU3; clear hU3; refine AW_sr fun K h => ?_; simp [go_sem, F]; refine h _ ?_; refine AW_block ?_; refine AW_lp (ι := Int) (fun i => ⟨18, [(0, .one (.l (.sl (a0.map sC)))), (1, .one (.l (.str a1))), (5, .one (.l (.int .i64 i)))], [], []⟩) (fun n i => s_l1Has_u1 a0 a1 n i = some e1) k 0 hM (by simp [s_l1Has_u1]) ?_; intro KL5 n x1 hL5 hM F; have hM : s_l1Has_u1 a0 a1 (n + 1) x1 = some e1 := hM; rw [s_l1Has_u1] at hM
    refine AW_seq fun K6 hK6 => ?_; refine AW_sr fun K h => ?_; simp [go_sem, F]; refine h _ ?_; refine AW_if hM (fun h7 hM => ?_) (fun h7 hM => ?_)
    · have g := h7; (try simp at g); have F := And.intro F (And.intro h7 (And.intro g (lT h7))); refine AW_skip ?_; refine hK6 _ ?_; refine AW_seq fun K8 hK8 => ?_; refine AW_block ?_; obtain ⟨x2, e9, hM⟩ := bind_some hM; have F := And.intro F (at_f e9); refine AW_sr fun K h => ?_; simp [go_sem, F]; refine h _ ?_; refine AW_if hM (fun h10 hM => ?_) (fun h10 hM => ?_)
      · have g := h10; (try simp at g); have F := And.intro F (And.intro h10 g); refine AW_sr fun K h => ?_; simp [go_sem, F]; refine h _ ?_; obtain rfl := si hM; have hM := hR2; dsimp only at hM; obtain rfl := si hM; refine AW_ret ?_; simp [go_sem, F]
      · have g := h10; (try simp at g); have F := And.intro F (And.intro h10 g); refine AW_skip ?_; refine hK8 _ ?_; refine AW_region ?_; simp [go_sem, F]; exact fin hL5 (IntKind.i64.wrap (x1 + 1)) hM
    · have g := h7; (try simp at g); have F := And.intro F (And.intro h7 (And.intro g (lF h7))); refine AW_exit ?_; obtain rfl := si hM; exact fin hK4 () rfl
  · rintro _ rfl; have hM := hR2; dsimp only at hM; refine AW_sr fun K h => ?_; simp [go_sem, F]; refine h _ ?_; obtain rfl := si hM; refine AW_ret ?_; simp [go_sem, F]
theorem s_IsReserved_ctr (k : Nat) (a0 : ByteArray) (r : Bool) (hM : s_IsReserved k a0 = some r) : Ctr Try.prog 149 [.one (.str a0)] true [.one (.bool r)] := by
  unfold s_IsReserved at hM
  refine walkM Try.func149 Try.ntmps149 Try.results149 fun N w0 hbad F => ?_
  refine AW_sr fun K h => ?_; simp [go_sem, F]; refine h _ ?_; obtain ⟨x1, e1, hM⟩ := bind_some hM; obtain ⟨x2, e2, hM⟩ := bind_some hM; refine AW_sr fun K h => ?_; simp [go_sem, F]; refine by_c false (s_l2Reserved_ctr x1 e1) ?_; simp [go_sem, F]; refine by_c false (s_l1Has_ctr k x1 a0 x2 e2) ?_; simp [go_sem, F]; refine h _ ?_; obtain rfl := si hM; refine AW_ret ?_; simp [go_sem, F]
theorem s_IsValidName_ctr (k : Nat) (a0 : ByteArray) (r : Bool) (hM : s_IsValidName k a0 = some r) : Ctr Try.prog 134 [.one (.str a0)] true [.one (.bool r)] := by
  unfold s_IsValidName at hM
  refine walkM Try.func134 Try.ntmps134 Try.results134 fun N w0 hbad F => ?_
  refine AW_sr fun K h => ?_; simp [go_sem, F]; refine h _ ?_; obtain ⟨e1, hU3, hR2⟩ := bind_some hM; clear hM; refine AW_mid (ι := Bool) (fun i => ⟨15, [(2, .one (.l (.bool i)))], [], []⟩) (fun i => i = e1) ?_ ?_
  · intro K4 hK4; have hM := hU3; clear hU3; obtain ⟨x2, e5, hM⟩ := bind_some hM; rcases ifM hM with ⟨h6, hM⟩ | ⟨h6, hM⟩
    · have g := h6; (try simp at g); have F := And.intro F (And.intro h6 g); rcases ifM hM with ⟨h7, hM⟩ | ⟨h7, hM⟩
      · have g := h7; (try simp at g); have F := And.intro F (And.intro h7 (And.intro g (eT h7))); obtain ⟨x3, e8, hM⟩ := bind_some hM; refine AW_region ?_; simp [go_sem, F]; refine by_c false (s_l2Shape_ctr k a0 x2 e5) ?_; simp [go_sem, F]; refine by_c false (s_IsReserved_ctr k a0 x3 e8) ?_; simp [go_sem, F]; obtain rfl := si hM; exact fin hK4 (!x3) rfl
      · have g := h7; (try simp at g); have F := And.intro F (And.intro h7 (And.intro g (eF h7))); refine AW_region ?_; simp [go_sem, F]; refine by_c false (s_l2Shape_ctr k a0 x2 e5) ?_; simp [go_sem, F]; obtain rfl := si hM; exact fin hK4 false rfl
    · have g := h6; (try simp at g); have F := And.intro F (And.intro h6 g); refine AW_region ?_; simp [go_sem, F]; refine by_c false (s_l2Shape_ctr k a0 x2 e5) ?_; simp [go_sem, F]; obtain rfl := si hM; exact fin hK4 false rfl
  · rintro x1 rfl; have hM := hR2; (try dsimp only at hM); obtain rfl := si hM; refine AW_ret ?_; simp [go_sem, F]
theorem s_AllDistinct_ctr (k : Nat) (a0 : List ByteArray) (r : Bool) (hM : s_AllDistinct k a0 = some r) : Ctr Try.prog 135 [.one (.sl (a0.map sC))] true [.one (.bool r)] := by
  unfold s_AllDistinct at hM
  refine walkM Try.func135 Try.ntmps135 Try.results135 fun N w0 hbad F => ?_
  refine AW_sr fun K h => ?_; simp [go_sem, F]; refine h _ ?_; obtain ⟨e1, hU3, hR2⟩ := bind_some hM; clear hM; refine AW_mid (ι := Unit) (fun i => ⟨18, [], [], []⟩) (fun i => (.inl i) = e1) ?_ ?_
  · intro K4 hK4; have hM := hU3; clear hU3; refine AW_sr fun K h => ?_; simp [go_sem, F]; refine h _ ?_; refine AW_block ?_; refine AW_lp (ι := Int) (fun i => ⟨18, [(0, .one (.l (.sl (a0.map sC)))), (3, .one (.l (.int .i64 i)))], [], []⟩) (fun n i => s_AllDistinct_u1 k a0 n i = some e1) k 0 hM (by simp [s_AllDistinct_u1]) ?_; intro KL5 n x1 hL5 hM F; have hM : s_AllDistinct_u1 k a0 (n + 1) x1 = some e1 := hM; rw [s_AllDistinct_u1] at hM
    refine AW_seq fun K6 hK6 => ?_; refine AW_sr fun K h => ?_; simp [go_sem, F]; refine h _ ?_; refine AW_if hM (fun h7 hM => ?_) (fun h7 hM => ?_)
    · have g := h7; (try simp at g); have F := And.intro F (And.intro h7 (And.intro g (lT h7))); refine AW_skip ?_; refine hK6 _ ?_; refine AW_seq fun K8 hK8 => ?_; refine AW_block ?_; refine AW_seq fun K9 hK9 => ?_; refine AW_fz (σ' := ⟨18, [(0, .one (.l (.sl (a0.map sC)))), (3, .one (.l (.int .i64 x1)))], [], []⟩) ?_; obtain ⟨x2, e10, hM⟩ := bind_some hM; obtain ⟨c11, s12⟩ := sub_spec e10; replace c11 := c11.symm; subst c11; (try simp at s12)
      have F := And.intro F s12; obtain ⟨x3, e15, hM⟩ := bind_some hM; have F := And.intro F (at_f e15); obtain ⟨x4, e16, hM⟩ := bind_some hM; refine AW_open [[], [], [0, 1], [], [], [3, 4], [3, 4, 5], [0, 1, 2, 3, 4, 5, 6]] mixed (by kernel_rfl) ?_; simp [go_sem, F]; refine by_c false (s_l1Has_ctr k ((a0.take x1.toNat).drop (0 : Int).toNat) x3 x4 e16) ?_; simp [go_sem, F]; refine ⟨dOkK_sound (by kernel_rfl), ?_⟩
      refine hK9 _ ?_; refine AW_if hM (fun h17 hM => ?_) (fun h17 hM => ?_)
      · have g := h17; (try simp at g); have F := And.intro F (And.intro h17 g); refine AW_sr fun K h => ?_; simp [go_sem, F]; refine h _ ?_; obtain rfl := si hM; have hM := hR2; dsimp only at hM; obtain rfl := si hM; refine AW_ret ?_; simp [go_sem, F]
      · have g := h17; (try simp at g); have F := And.intro F (And.intro h17 g); refine AW_skip ?_; refine hK8 _ ?_; refine AW_region ?_; simp [go_sem, F]; exact fin hL5 (IntKind.i64.wrap (x1 + 1)) hM
    · have g := h7; (try simp at g); have F := And.intro F (And.intro h7 (And.intro g (lF h7))); refine AW_exit ?_; obtain rfl := si hM; exact fin hK4 () rfl
  · rintro _ rfl; have hM := hR2; dsimp only at hM; refine AW_sr fun K h => ?_; simp [go_sem, F]; refine h _ ?_; obtain rfl := si hM; refine AW_ret ?_; simp [go_sem, F]
theorem s_l3Columns_ctr (k : Nat) (a0 : List ByteArray) (r : Bool) (hM : s_l3Columns k a0 = some r) : Ctr Try.prog 107 [.one (.sl (a0.map sC))] true [.one (.bool r)] := by
  unfold s_l3Columns at hM
  refine walkM Try.func107 Try.ntmps107 Try.results107 fun N w0 hbad F => ?_
  refine AW_sr fun K h => ?_; simp [go_sem, F]; refine h _ ?_; obtain ⟨e1, hU3, hR2⟩ := bind_some hM; clear hM; refine AW_mid (ι := Unit) (fun i => ⟨23, [(0, .one (.l (.sl (a0.map sC))))], [], []⟩) (fun i => (.inl i) = e1) ?_ ?_
  · intro K4 hK4; have hM := hU3; clear hU3; refine AW_sr fun K h => ?_; simp [go_sem, F]; refine h _ ?_; refine AW_block ?_; refine AW_lp (ι := Int) (fun i => ⟨23, [(0, .one (.l (.sl (a0.map sC)))), (3, .one (.l (.int .i64 i)))], [], []⟩) (fun n i => s_l3Columns_u1 k a0 n i = some e1) k 0 hM (by simp [s_l3Columns_u1]) ?_; intro KL5 n x1 hL5 hM F; have hM : s_l3Columns_u1 k a0 (n + 1) x1 = some e1 := hM; rw [s_l3Columns_u1] at hM
    refine AW_seq fun K6 hK6 => ?_; refine AW_sr fun K h => ?_; simp [go_sem, F]; refine h _ ?_; refine AW_if hM (fun h7 hM => ?_) (fun h7 hM => ?_)
    · have g := h7; (try simp at g); have F := And.intro F (And.intro h7 (And.intro g (lT h7))); refine AW_skip ?_; refine hK6 _ ?_; refine AW_seq fun K8 hK8 => ?_; refine AW_block ?_; obtain ⟨x2, e9, hM⟩ := bind_some hM; have F := And.intro F (at_f e9); obtain ⟨x3, e10, hM⟩ := bind_some hM; refine AW_sr fun K h => ?_; simp [go_sem, F]; refine by_c false (s_IsValidName_ctr k x2 x3 e10) ?_; simp [go_sem, F]
      refine h _ ?_; refine AW_if hM (fun h11 hM => ?_) (fun h11 hM => ?_)
      · have g := h11; (try simp at g); have F := And.intro F (And.intro h11 g); refine AW_sr fun K h => ?_; simp [go_sem, F]; refine h _ ?_; obtain rfl := si hM; have hM := hR2; dsimp only at hM; obtain rfl := si hM; refine AW_ret ?_; simp [go_sem, F]
      · have g := h11; (try simp at g); have F := And.intro F (And.intro h11 g); refine AW_skip ?_; refine hK8 _ ?_; refine AW_region ?_; simp [go_sem, F]; exact fin hL5 (IntKind.i64.wrap (x1 + 1)) hM
    · have g := h7; (try simp at g); have F := And.intro F (And.intro h7 (And.intro g (lF h7))); refine AW_exit ?_; obtain rfl := si hM; exact fin hK4 () rfl
  · rintro _ rfl; have hM := hR2; dsimp only at hM; obtain ⟨e12, hU14, hR13⟩ := bind_some hM; clear hM; refine AW_mid (ι := Bool) (fun i => ⟨23, [(2, .one (.l (.bool i)))], [], []⟩) (fun i => i = e12) ?_ ?_
    · intro K15 hK15; have hM := hU14; clear hU14; obtain ⟨x5, e16, hM⟩ := bind_some hM; rcases ifM hM with ⟨h17, hM⟩ | ⟨h17, hM⟩
      · have g := h17; (try simp at g); have F := And.intro F (And.intro h17 g); obtain ⟨x6, e18, hM⟩ := bind_some hM; refine AW_region ?_; simp [go_sem, F]; refine by_c false (s_l1In_ctr (a0.length : Int) 1 4 x5 e16) ?_; simp [go_sem, F]; refine by_c false (s_AllDistinct_ctr k a0 x6 e18) ?_; simp [go_sem, F]; obtain rfl := si hM; exact fin hK15 x6 rfl
      · have g := h17; (try simp at g); have F := And.intro F (And.intro h17 g); refine AW_region ?_; simp [go_sem, F]; refine by_c false (s_l1In_ctr (a0.length : Int) 1 4 x5 e16) ?_; simp [go_sem, F]; obtain rfl := si hM; exact fin hK15 false rfl
    · rintro x4 rfl; have hM := hR13; (try dsimp only at hM); obtain rfl := si hM; refine AW_ret ?_; simp [go_sem, F]
theorem s_l3Before_ctr (a0 : TOrigin) (a1 : TOrigin) (r : Bool) (hM : s_l3Before a0 a1 = some r) : Ctr Try.prog 136 [.agg (TOrigin.c a0), .agg (TOrigin.c a1)] true [.one (.bool r)] := by
  unfold s_l3Before at hM
  refine walkM Try.func136 Try.ntmps136 Try.results136 fun N w0 hbad F => ?_
  refine AW_sr fun K h => ?_; simp [go_sem, F]; refine h _ ?_; obtain ⟨e1, hU3, hR2⟩ := bind_some hM; clear hM; refine AW_mid (ι := Bool) (fun i => ⟨24, [(4, .one (.l (.bool i)))], [], []⟩) (fun i => i = e1) ?_ ?_
  · intro K4 hK4; have hM := hU3; clear hU3; rcases ifM hM with ⟨h5, hM⟩ | ⟨h5, hM⟩
    · have g := h5; (try simp at g); have F := And.intro F (And.intro h5 (And.intro g (lT h5))); refine AW_region ?_; simp [go_sem, F]; obtain rfl := si hM; exact fin hK4 true rfl
    · have g := h5; (try simp at g); have F := And.intro F (And.intro h5 (And.intro g (lF h5))); rcases ifM hM with ⟨h6, hM⟩ | ⟨h6, hM⟩
      · have g := h6; (try simp at g); have F := And.intro F (And.intro h6 g); refine AW_region ?_; simp [go_sem, F]; obtain rfl := si hM; exact fin hK4 (decide (a0.row < a1.row)) rfl
      · have g := h6; (try simp at g); have F := And.intro F (And.intro h6 g); refine AW_region ?_; simp [go_sem, F]; obtain rfl := si hM; exact fin hK4 false rfl
  · rintro x1 rfl; have hM := hR2; (try dsimp only at hM); obtain rfl := si hM; refine AW_ret ?_; simp [go_sem, F]
theorem s_l3Ascending_ctr (k : Nat) (a0 : List TOrigin) (r : Bool) (hM : s_l3Ascending k a0 = some r) : Ctr Try.prog 108 [.one (.sl (a0.map TOrigin.c))] true [.one (.bool r)] := by
  unfold s_l3Ascending at hM
  refine walkM Try.func108 Try.ntmps108 Try.results108 fun N w0 hbad F => ?_
  refine AW_sr fun K h => ?_; simp [go_sem, F]; refine h _ ?_; obtain ⟨e1, hU3, hR2⟩ := bind_some hM; clear hM; refine AW_mid (ι := Unit) (fun i => ⟨41, [], [], []⟩) (fun i => (.inl i) = e1) ?_ ?_
  · intro K4 hK4; have hM := hU3; clear hU3; refine AW_sr fun K h => ?_; simp [go_sem, F]; refine h _ ?_; refine AW_block ?_; refine AW_lp (ι := Int) (fun i => ⟨41, [(0, .one (.l (.sl (a0.map TOrigin.c)))), (3, .one (.l (.int .i64 i)))], [], []⟩) (fun n i => s_l3Ascending_u1 a0 n i = some e1) k 0 hM (by simp [s_l3Ascending_u1]) ?_; intro KL5 n x1 hL5 hM F; have hM : s_l3Ascending_u1 a0 (n + 1) x1 = some e1 := hM; rw [s_l3Ascending_u1] at hM
    refine AW_seq fun K6 hK6 => ?_; refine AW_sr fun K h => ?_; simp [go_sem, F]; refine h _ ?_; refine AW_if hM (fun h7 hM => ?_) (fun h7 hM => ?_)
    · have g := h7; (try simp at g); have F := And.intro F (And.intro h7 (And.intro g (lT h7))); refine AW_skip ?_; refine hK6 _ ?_; refine AW_seq fun K8 hK8 => ?_; refine AW_block ?_; obtain ⟨e9, hU11, hR10⟩ := bind_some hM; clear hM; refine AW_mid (ι := Bool) (fun i => ⟨41, [(0, .one (.l (.sl (a0.map TOrigin.c)))), (3, .one (.l (.int .i64 x1))), (40, .one (.l (.bool i)))], [], []⟩) (fun i => i = e9) ?_ ?_
      · intro K12 hK12; have hM := hU11; clear hU11; obtain ⟨x3, e13, hM⟩ := bind_some hM; have F := And.intro F (at_f e13); rcases ifM hM with ⟨h14, hM⟩ | ⟨h14, hM⟩
        · have g := h14; (try simp at g); have F := And.intro F (And.intro h14 (And.intro g (lT h14))); refine AW_quickN 27 mixed (by kernel_rfl) (by kernel_rfl) ?_; simp [go_sem, F]; obtain rfl := si hM; exact fin hK12 true rfl
        · have g := h14; (try simp at g); have F := And.intro F (And.intro h14 (And.intro g (lF h14))); rcases ifM hM with ⟨h15, hM⟩ | ⟨h15, hM⟩
          · have g := h15; (try simp at g); have F := And.intro F (And.intro h15 (And.intro g (lT h15))); refine AW_quickN 27 mixed (by kernel_rfl) (by kernel_rfl) ?_; simp [go_sem, F]; obtain rfl := si hM; exact fin hK12 true rfl
          · have g := h15; (try simp at g); have F := And.intro F (And.intro h15 (And.intro g (lF h15))); rcases ifM hM with ⟨h16, hM⟩ | ⟨h16, hM⟩
            · have g := h16; (try simp at g); have F := And.intro F (And.intro h16 (And.intro g (lT h16))); obtain ⟨x4, e17, hM⟩ := bind_some hM; have F := And.intro F (at_f e17); obtain ⟨x5, e18, hM⟩ := bind_some hM; refine AW_quickN 27 mixed (by kernel_rfl) (by kernel_rfl) ?_; simp [go_sem, F]; refine by_c false (s_l3Before_ctr x4 x3 x5 e18) ?_; simp [go_sem, F]; obtain rfl := si hM; exact fin hK12 (!x5) rfl
            · have g := h16; (try simp at g); have F := And.intro F (And.intro h16 (And.intro g (lF h16))); refine AW_quickN 27 mixed (by kernel_rfl) (by kernel_rfl) ?_; simp [go_sem, F]; obtain rfl := si hM; exact fin hK12 false rfl
      · rintro x2 rfl; have hM := hR10; (try dsimp only at hM); refine AW_if hM (fun h19 hM => ?_) (fun h19 hM => ?_)
        · have g := h19; (try simp at g); have F := And.intro F (And.intro h19 g); refine AW_sr fun K h => ?_; simp [go_sem, F]; refine h _ ?_; obtain rfl := si hM; have hM := hR2; dsimp only at hM; obtain rfl := si hM; refine AW_ret ?_; simp [go_sem, F]
        · have g := h19; (try simp at g); have F := And.intro F (And.intro h19 g); refine AW_skip ?_; refine hK8 _ ?_; refine AW_region ?_; simp [go_sem, F]; exact fin hL5 (IntKind.i64.wrap (x1 + 1)) hM
    · have g := h7; (try simp at g); have F := And.intro F (And.intro h7 (And.intro g (lF h7))); refine AW_exit ?_; obtain rfl := si hM; exact fin hK4 () rfl
  · rintro _ rfl; have hM := hR2; dsimp only at hM; refine AW_sr fun K h => ?_; simp [go_sem, F]; refine h _ ?_; obtain rfl := si hM; refine AW_ret ?_; simp [go_sem, F]
end Go.Proofs.Ytbknilpmpjjfpaa
