/- Contracts of the program's functions: where the mirrored function answers, the program's function returns this answer. Written by a program of mine. -/
import Derived.Test.YtbknilpmpjjfpaaWn
import Derived.Test.YtbknilpmpjjfpaaMd4
import Derived.Test.YtbknilpmpjjfpaaCt2
import Derived.Test.YtbknilpmpjjfpaaCt3
set_option linter.unusedSimpArgs false
set_option linter.unusedVariables false
namespace Go.Proofs.Ytbknilpmpjjfpaa
open Go.RowKit Am
set_option maxHeartbeats 4000000
set_option maxRecDepth 100000
theorem s_l3Table_ctr (k : Nat) (a0 : TValue) (r : Bool) (hM : s_l3Table k a0 = some r) : Ctr Try.prog 68 [.agg (TValue.c a0)] true [.one (.bool r)] := by
  unfold s_l3Table at hM
  refine walkM Try.func68 Try.ntmps68 Try.results68 fun N w0 hbad F => ?_
  refine AW_sr fun K h => ?_; simp [go_sem, F]; refine h _ ?_; refine AW_seq fun K1 hK1 => ?_; obtain ⟨e2, hU4, hR3⟩ := bind_some hM; clear hM; refine AW_mid (ι := Bool) (fun i => ⟨55, [(1, .one (.box 1 0)), (15, .one (.l (.bool i)))], [(1, [.l (.int .i64 a0.kind), .l (.int .i64 a0.n), .l (.int .i64 a0.step), .l (.str a0.text), .l (.sl (a0.list.map TValue.c)), .l (.sl (a0.columns.map sC)), .l (.sl (a0.rows.map TRow.c))])], []⟩) (fun i => i = e2) ?_ ?_
  · intro K5 hK5; have hM := hU4; clear hU4; obtain ⟨x2, e6, hM⟩ := bind_some hM; rcases ifM hM with ⟨h7, hM⟩ | ⟨h7, hM⟩
    · have g := h7; (try simp at g); have F := And.intro F (And.intro h7 g); refine AW_region ?_; simp [go_sem, F]; refine by_c false (s_l3Columns_ctr k a0.columns x2 e6) ?_; simp [go_sem, F]; obtain rfl := si hM; exact fin hK5 true rfl
    · have g := h7; (try simp at g); have F := And.intro F (And.intro h7 g); refine AW_region ?_; simp [go_sem, F]; refine by_c false (s_l3Columns_ctr k a0.columns x2 e6) ?_; simp [go_sem, F]; obtain rfl := si hM; exact fin hK5 (decide (12 < (a0.rows.length : Int))) rfl
  · rintro x1 rfl; have hM := hR3; (try dsimp only at hM); refine AW_if hM (fun h8 hM => ?_) (fun h8 hM => ?_)
    · have g := h8; (try simp at g); have F := And.intro F (And.intro h8 g); refine AW_sr fun K h => ?_; simp [go_sem, F]; refine h _ ?_; obtain rfl := si hM; refine AW_ret ?_; simp [go_sem, F]
    · have g := h8; (try simp at g); have F := And.intro F (And.intro h8 g); refine AW_skip ?_; refine hK1 _ ?_; obtain ⟨e9, hU11, hR10⟩ := bind_some hM; clear hM; refine AW_mid (ι := Unit) (fun i => ⟨55, [], [], []⟩) (fun i => (.inl i) = e9) ?_ ?_
      · intro K12 hK12; have hM := hU11; clear hU11; refine AW_sr fun K h => ?_; simp [go_sem, F]; refine h _ ?_; refine AW_block ?_; refine AW_lp (ι := Int) (fun i => ⟨55, [(1, .one (.box 1 0)), (3, .one (.l (.int .i64 i)))], [(1, [.l (.int .i64 a0.kind), .l (.int .i64 a0.n), .l (.int .i64 a0.step), .l (.str a0.text), .l (.sl (a0.list.map TValue.c)), .l (.sl (a0.columns.map sC)), .l (.sl (a0.rows.map TRow.c))])], []⟩) (fun n i => s_l3Table_u1 k a0 n i = some e9) k 0 hM (by simp [s_l3Table_u1]) ?_
        intro KL13 n x3 hL13 hM F; have hM : s_l3Table_u1 k a0 (n + 1) x3 = some e9 := hM; rw [s_l3Table_u1] at hM; refine AW_seq fun K14 hK14 => ?_; refine AW_sr fun K h => ?_; simp [go_sem, F]; refine h _ ?_; refine AW_if hM (fun h15 hM => ?_) (fun h15 hM => ?_)
        · have g := h15; (try simp at g); have F := And.intro F (And.intro h15 (And.intro g (lT h15))); refine AW_skip ?_; refine hK14 _ ?_; obtain ⟨e16, hU18, hR17⟩ := bind_some hM; clear hM; refine AW_mid (ι := Unit) (fun i => ⟨55, [(1, .one (.box 1 0)), (3, .one (.l (.int .i64 x3)))], [(1, [.l (.int .i64 a0.kind), .l (.int .i64 a0.n), .l (.int .i64 a0.step), .l (.str a0.text), .l (.sl (a0.list.map TValue.c)), .l (.sl (a0.columns.map sC)), .l (.sl (a0.rows.map TRow.c))])], []⟩) (fun i => (.inl i) = e16) ?_ ?_
          · intro K19 hK19; have hM := hU18; clear hU18; refine AW_block ?_; obtain ⟨x4, e20, hM⟩ := bind_some hM; have F := And.intro F (at_f e20); refine AW_sr fun K h => ?_; simp [go_sem, F]; refine h _ ?_; refine AW_seq fun K21 hK21 => ?_; obtain ⟨e22, hU24, hR23⟩ := bind_some hM; clear hM; refine AW_mid (ι := Bool) (fun i => ⟨55, [(1, .one (.box 1 0)), (3, .one (.l (.int .i64 x3))), (4, .one (.box 4 0)), (40, .one (.l (.bool i)))], [(1, [.l (.int .i64 a0.kind), .l (.int .i64 a0.n), .l (.int .i64 a0.step), .l (.str a0.text), .l (.sl (a0.list.map TValue.c)), .l (.sl (a0.columns.map sC)), .l (.sl (a0.rows.map TRow.c))]), (4, [.l (.sl (x4.cells.map iC)), .l (.sl (x4.from_.map TOrigin.c))])], []⟩) (fun i => i = e22) ?_ ?_
            · intro K25 hK25; have hM := hU24; clear hU24; rcases ifM hM with ⟨h26, hM⟩ | ⟨h26, hM⟩
              · have g := h26; (try simp at g); have F := And.intro F (And.intro h26 g); refine AW_region ?_; simp [go_sem, F]; obtain rfl := si hM; exact fin hK25 true rfl
              · have g := h26; (try simp at g); have F := And.intro F (And.intro h26 g); obtain ⟨x6, e27, hM⟩ := bind_some hM; refine AW_region ?_; simp [go_sem, F]; refine by_c false (s_l3Ascending_ctr k x4.from_ x6 e27) ?_; simp [go_sem, F]; obtain rfl := si hM; exact fin hK25 (!x6) rfl
            · rintro x5 rfl; have hM := hR23; (try dsimp only at hM); refine AW_if hM (fun h28 hM => ?_) (fun h28 hM => ?_)
              · have g := h28; (try simp at g); have F := And.intro F (And.intro h28 g); refine AW_sr fun K h => ?_; simp [go_sem, F]; refine h _ ?_; obtain rfl := si hM; have hM := hR17; dsimp only at hM; obtain rfl := si hM; have hM := hR10; dsimp only at hM; obtain rfl := si hM; refine AW_ret ?_; simp [go_sem, F]
              · have g := h28; (try simp at g); have F := And.intro F (And.intro h28 g); refine AW_skip ?_; refine hK21 _ ?_; refine AW_sr fun K h => ?_; simp [go_sem, F]; refine h _ ?_; refine AW_block ?_; refine AW_lp (ι := Int) (fun i => ⟨55, [(1, .one (.box 1 0)), (3, .one (.l (.int .i64 x3))), (4, .one (.box 4 0)), (5, .one (.l (.int .i64 i)))], [(1, [.l (.int .i64 a0.kind), .l (.int .i64 a0.n), .l (.int .i64 a0.step), .l (.str a0.text), .l (.sl (a0.list.map TValue.c)), .l (.sl (a0.columns.map sC)), .l (.sl (a0.rows.map TRow.c))]), (4, [.l (.sl (x4.cells.map iC)), .l (.sl (x4.from_.map TOrigin.c))])], []⟩) (fun n i => s_l3Table_u2 x4 n i = some e16) k 0 hM (by simp [s_l3Table_u2]) ?_
                intro KL29 n x7 hL29 hM F; have hM : s_l3Table_u2 x4 (n + 1) x7 = some e16 := hM; rw [s_l3Table_u2] at hM; refine AW_seq fun K30 hK30 => ?_; refine AW_sr fun K h => ?_; simp [go_sem, F]; refine h _ ?_; refine AW_if hM (fun h31 hM => ?_) (fun h31 hM => ?_)
                · have g := h31; (try simp at g); have F := And.intro F (And.intro h31 (And.intro g (lT h31))); refine AW_skip ?_; refine hK30 _ ?_; refine AW_seq fun K32 hK32 => ?_; refine AW_block ?_; obtain ⟨x8, e33, hM⟩ := bind_some hM; have F := And.intro F (at_f e33); obtain ⟨x9, e34, hM⟩ := bind_some hM; refine AW_sr fun K h => ?_; simp [go_sem, F]; refine by_c false (s_l3Number_ctr x8 x9 e34) ?_
                  simp [go_sem, F]; refine h _ ?_; refine AW_if hM (fun h35 hM => ?_) (fun h35 hM => ?_)
                  · have g := h35; (try simp at g); have F := And.intro F (And.intro h35 g); refine AW_sr fun K h => ?_; simp [go_sem, F]; refine h _ ?_; obtain rfl := si hM; have hM := hR17; dsimp only at hM; obtain rfl := si hM; have hM := hR10; dsimp only at hM; obtain rfl := si hM; refine AW_ret ?_; simp [go_sem, F]
                  · have g := h35; (try simp at g); have F := And.intro F (And.intro h35 g); refine AW_skip ?_; refine hK32 _ ?_; refine AW_region ?_; simp [go_sem, F]; exact fin hL29 (IntKind.i64.wrap (x7 + 1)) hM
                · have g := h31; (try simp at g); have F := And.intro F (And.intro h31 (And.intro g (lF h31))); refine AW_exit ?_; obtain rfl := si hM; exact fin hK19 () rfl
          · rintro _ rfl; have hM := hR17; dsimp only at hM; refine AW_region ?_; simp [go_sem, F]; exact fin hL13 (IntKind.i64.wrap (x3 + 1)) hM
        · have g := h15; (try simp at g); have F := And.intro F (And.intro h15 (And.intro g (lF h15))); refine AW_exit ?_; obtain rfl := si hM; exact fin hK12 () rfl
      · rintro _ rfl; have hM := hR10; dsimp only at hM; refine AW_sr fun K h => ?_; simp [go_sem, F]; refine h _ ?_; obtain rfl := si hM; refine AW_ret ?_; simp [go_sem, F]
theorem s_l3List_all : ∀ (k : Nat), (∀ (a0 : TValue) (r : Bool) (hM : s_l3List k a0 = some r), Ctr Try.prog 67 [.agg (TValue.c a0)] true [.one (.bool r)]) ∧
    (∀ (a0 : TValue) (r : Bool) (hM : s_IsValidValue k a0 = some r), Ctr Try.prog 21 [.agg (TValue.c a0)] true [.one (.bool r)]) := by
  intro k
  induction k with
  | zero => exact ⟨by intro a0 r hM; simp [s_l3List] at hM, by intro a0 r hM; simp [s_IsValidValue] at hM⟩
  | succ k ih =>
    obtain ⟨ih_s_l3List, ih_s_IsValidValue⟩ := ih
    refine ⟨?_, ?_⟩
    · intro a0 r hM
      rw [s_l3List] at hM
      refine walkM Try.func67 Try.ntmps67 Try.results67 fun N w0 hbad F => ?_
      refine AW_sr fun K h => ?_; simp [go_sem, F]; refine h _ ?_; obtain ⟨e1, hU3, hR2⟩ := bind_some hM; clear hM; refine AW_mid (ι := Unit) (fun i => ⟨36, [(1, .one (.box 1 0))], [(1, [.l (.int .i64 a0.kind), .l (.int .i64 a0.n), .l (.int .i64 a0.step), .l (.str a0.text), .l (.sl (a0.list.map TValue.c)), .l (.sl (a0.columns.map sC)), .l (.sl (a0.rows.map TRow.c))])], []⟩) (fun i => (.inl i) = e1) ?_ ?_
      · intro K4 hK4; have hM := hU3; clear hU3; refine AW_sr fun K h => ?_; simp [go_sem, F]; refine h _ ?_; refine AW_block ?_; refine AW_lp (ι := Int) (fun i => ⟨36, [(1, .one (.box 1 0)), (3, .one (.l (.int .i64 i)))], [(1, [.l (.int .i64 a0.kind), .l (.int .i64 a0.n), .l (.int .i64 a0.step), .l (.str a0.text), .l (.sl (a0.list.map TValue.c)), .l (.sl (a0.columns.map sC)), .l (.sl (a0.rows.map TRow.c))])], []⟩) (fun n i => s_l3List_u1 (s_IsValidValue k) a0 n i = some e1) k 0 hM (by simp [s_l3List_u1]) ?_
        intro KL5 n x1 hL5 hM F; have hM : s_l3List_u1 (s_IsValidValue k) a0 (n + 1) x1 = some e1 := hM; rw [s_l3List_u1] at hM; refine AW_seq fun K6 hK6 => ?_; refine AW_sr fun K h => ?_; simp [go_sem, F]; refine h _ ?_; refine AW_if hM (fun h7 hM => ?_) (fun h7 hM => ?_)
        · have g := h7; (try simp at g); have F := And.intro F (And.intro h7 (And.intro g (lT h7))); refine AW_skip ?_; refine hK6 _ ?_; refine AW_seq fun K8 hK8 => ?_; refine AW_block ?_; obtain ⟨e9, hU11, hR10⟩ := bind_some hM; clear hM; refine AW_mid (ι := Bool) (fun i => ⟨36, [(1, .one (.box 1 0)), (3, .one (.l (.int .i64 x1))), (26, .one (.l (.bool i)))], [(1, [.l (.int .i64 a0.kind), .l (.int .i64 a0.n), .l (.int .i64 a0.step), .l (.str a0.text), .l (.sl (a0.list.map TValue.c)), .l (.sl (a0.columns.map sC)), .l (.sl (a0.rows.map TRow.c))])], []⟩) (fun i => i = e9) ?_ ?_
          · intro K12 hK12; have hM := hU11; clear hU11; obtain ⟨x3, e13, hM⟩ := bind_some hM; have F := And.intro F (at_f e13); obtain ⟨x4, e14, hM⟩ := bind_some hM; rcases ifM hM with ⟨h15, hM⟩ | ⟨h15, hM⟩
            · have g := h15; (try simp at g); have F := And.intro F (And.intro h15 g); refine AW_region ?_; simp [go_sem, F]; refine by_c false (s_l3Element_ctr x3 x4 e14) ?_; simp [go_sem, F]; obtain rfl := si hM; exact fin hK12 true rfl
            · have g := h15; (try simp at g); have F := And.intro F (And.intro h15 g); obtain ⟨x5, e16, hM⟩ := bind_some hM; refine AW_region ?_; simp [go_sem, F]; refine by_c false (s_l3Element_ctr x3 x4 e14) ?_; simp [go_sem, F]; refine by_c false (ih_s_IsValidValue x3 x5 e16) ?_; simp [go_sem, F]; obtain rfl := si hM; exact fin hK12 (!x5) rfl
          · rintro x2 rfl; have hM := hR10; (try dsimp only at hM); refine AW_if hM (fun h17 hM => ?_) (fun h17 hM => ?_)
            · have g := h17; (try simp at g); have F := And.intro F (And.intro h17 g); refine AW_sr fun K h => ?_; simp [go_sem, F]; refine h _ ?_; obtain rfl := si hM; have hM := hR2; dsimp only at hM; obtain rfl := si hM; refine AW_ret ?_; simp [go_sem, F]
            · have g := h17; (try simp at g); have F := And.intro F (And.intro h17 g); refine AW_skip ?_; refine hK8 _ ?_; refine AW_region ?_; simp [go_sem, F]; exact fin hL5 (IntKind.i64.wrap (x1 + 1)) hM
        · have g := h7; (try simp at g); have F := And.intro F (And.intro h7 (And.intro g (lF h7))); refine AW_exit ?_; obtain rfl := si hM; exact fin hK4 () rfl
      · rintro _ rfl; have hM := hR2; dsimp only at hM; obtain ⟨e18, hU20, hR19⟩ := bind_some hM; clear hM; refine AW_mid (ι := Bool) (fun i => ⟨36, [(2, .one (.l (.bool i)))], [], []⟩) (fun i => i = e18) ?_ ?_
        · intro K21 hK21; have hM := hU20; clear hU20; rcases ifM hM with ⟨h22, hM⟩ | ⟨h22, hM⟩
          · have g := h22; (try simp at g); have F := And.intro F (And.intro h22 (And.intro g (eT h22))); obtain ⟨x7, e23, hM⟩ := bind_some hM; refine AW_region ?_; simp [go_sem, F]; refine by_c false (s_DepthOf_ctr k a0 x7 e23) ?_; simp [go_sem, F]; obtain rfl := si hM; exact fin hK21 (decide (x7 ≤ 3)) rfl
          · have g := h22; (try simp at g); have F := And.intro F (And.intro h22 (And.intro g (eF h22))); refine AW_region ?_; simp [go_sem, F]; obtain rfl := si hM; exact fin hK21 false rfl
        · rintro x6 rfl; have hM := hR19; (try dsimp only at hM); obtain rfl := si hM; refine AW_ret ?_; simp [go_sem, F]
    · intro a0 r hM
      rw [s_IsValidValue] at hM
      refine walkM Try.func21 Try.ntmps21 Try.results21 fun N w0 hbad F => ?_
      refine AW_sr fun K h => ?_; simp [go_sem, F]; refine h _ ?_; refine AW_seq fun K1 hK1 => ?_; obtain ⟨e2, hU4, hR3⟩ := bind_some hM; clear hM; refine AW_mid (ι := Bool) (fun i => ⟨95, [(1, .one (.box 1 0)), (26, .one (.l (.bool i)))], [(1, [.l (.int .i64 a0.kind), .l (.int .i64 a0.n), .l (.int .i64 a0.step), .l (.str a0.text), .l (.sl (a0.list.map TValue.c)), .l (.sl (a0.columns.map sC)), .l (.sl (a0.rows.map TRow.c))])], []⟩) (fun i => i = e2) ?_ ?_
      · intro K5 hK5; have hM := hU4; clear hU4; rcases ifM hM with ⟨h6, hM⟩ | ⟨h6, hM⟩
        · have g := h6; (try simp at g); have F := And.intro F (And.intro h6 g); rcases ifM hM with ⟨h7, hM⟩ | ⟨h7, hM⟩
          · have g := h7; (try simp at g); have F := And.intro F (And.intro h7 (And.intro g (lT h7))); refine AW_region ?_; simp [go_sem, F]; obtain rfl := si hM; exact fin hK5 true rfl
          · have g := h7; (try simp at g); have F := And.intro F (And.intro h7 (And.intro g (lF h7))); rcases ifM hM with ⟨h8, hM⟩ | ⟨h8, hM⟩
            · have g := h8; (try simp at g); have F := And.intro F (And.intro h8 g); refine AW_region ?_; simp [go_sem, F]; obtain rfl := si hM; exact fin hK5 (decide (0 < (IntKind.i64.wrap ((a0.columns.length : Int) + (a0.rows.length : Int))))) rfl
            · have g := h8; (try simp at g); have F := And.intro F (And.intro h8 g); refine AW_region ?_; simp [go_sem, F]; obtain rfl := si hM; exact fin hK5 false rfl
        · have g := h6; (try simp at g); have F := And.intro F (And.intro h6 g); refine AW_region ?_; simp [go_sem, F]; obtain rfl := si hM; exact fin hK5 (decide (0 < (IntKind.i64.wrap ((a0.columns.length : Int) + (a0.rows.length : Int))))) rfl
      · rintro x1 rfl; have hM := hR3; (try dsimp only at hM); refine AW_if hM (fun h9 hM => ?_) (fun h9 hM => ?_)
        · have g := h9; (try simp at g); have F := And.intro F (And.intro h9 g); refine AW_sr fun K h => ?_; simp [go_sem, F]; refine h _ ?_; obtain rfl := si hM; refine AW_ret ?_; simp [go_sem, F]
        · have g := h9; (try simp at g); have F := And.intro F (And.intro h9 g); refine AW_skip ?_; refine hK1 _ ?_; refine AW_seq fun K10 hK10 => ?_; obtain ⟨e11, hU13, hR12⟩ := bind_some hM; clear hM; refine AW_mid (ι := Bool) (fun i => ⟨95, [(1, .one (.box 1 0)), (44, .one (.l (.bool i)))], [(1, [.l (.int .i64 a0.kind), .l (.int .i64 a0.n), .l (.int .i64 a0.step), .l (.str a0.text), .l (.sl (a0.list.map TValue.c)), .l (.sl (a0.columns.map sC)), .l (.sl (a0.rows.map TRow.c))])], []⟩) (fun i => i = e11) ?_ ?_
          · intro K14 hK14; have hM := hU13; clear hU13; rcases ifM hM with ⟨h15, hM⟩ | ⟨h15, hM⟩
            · have g := h15; (try simp at g); have F := And.intro F (And.intro h15 g); rcases ifM hM with ⟨h16, hM⟩ | ⟨h16, hM⟩
              · have g := h16; (try simp at g); have F := And.intro F (And.intro h16 g); refine AW_region ?_; simp [go_sem, F]; obtain rfl := si hM; exact fin hK14 true rfl
              · have g := h16; (try simp at g); have F := And.intro F (And.intro h16 g); rcases ifM hM with ⟨h17, hM⟩ | ⟨h17, hM⟩
                · have g := h17; (try simp at g); have F := And.intro F (And.intro h17 g); refine AW_region ?_; simp [go_sem, F]; obtain rfl := si hM; exact fin hK14 (!decide (a0.step = 0)) rfl
                · have g := h17; (try simp at g); have F := And.intro F (And.intro h17 g); refine AW_region ?_; simp [go_sem, F]; obtain rfl := si hM; exact fin hK14 false rfl
            · have g := h15; (try simp at g); have F := And.intro F (And.intro h15 g); refine AW_region ?_; simp [go_sem, F]; obtain rfl := si hM; exact fin hK14 (!decide (a0.step = 0)) rfl
          · rintro x2 rfl; have hM := hR12; (try dsimp only at hM); refine AW_if hM (fun h18 hM => ?_) (fun h18 hM => ?_)
            · have g := h18; (try simp at g); have F := And.intro F (And.intro h18 g); refine AW_sr fun K h => ?_; simp [go_sem, F]; refine h _ ?_; obtain rfl := si hM; refine AW_ret ?_; simp [go_sem, F]
            · have g := h18; (try simp at g); have F := And.intro F (And.intro h18 g); refine AW_skip ?_; refine hK10 _ ?_; refine AW_seq fun K19 hK19 => ?_; refine AW_sr fun K h => ?_; simp [go_sem, F]; refine h _ ?_; refine AW_block ?_; refine AW_sr fun K h => ?_; simp [go_sem, F]; refine h _ ?_; refine AW_if hM (fun h20 hM => ?_) (fun h20 hM => ?_)
              · have g := h20; (try simp at g); have F := And.intro F (And.intro h20 g); obtain ⟨x3, e21, hM⟩ := bind_some hM; refine AW_sr fun K h => ?_; simp [go_sem, F]; refine by_c false (s_l3Number_ctr a0.n x3 e21) ?_; simp [go_sem, F]; refine h _ ?_; obtain rfl := si hM; refine AW_ret ?_; simp [go_sem, F]
              · have g := h20; (try simp at g); have F := And.intro F (And.intro h20 g); refine AW_sr fun K h => ?_; simp [go_sem, F]; refine h _ ?_; refine AW_if hM (fun h22 hM => ?_) (fun h22 hM => ?_)
                · have g := h22; (try simp at g); have F := And.intro F (And.intro h22 g); obtain ⟨e23, hU25, hR24⟩ := bind_some hM; clear hM; refine AW_mid (ι := Bool) (fun i => ⟨95, [(2, .one (.l (.bool i)))], [], []⟩) (fun i => i = e23) ?_ ?_
                  · intro K26 hK26; have hM := hU25; clear hU25; rcases ifM hM with ⟨h27, hM⟩ | ⟨h27, hM⟩
                    · have g := h27; (try simp at g); have F := And.intro F (And.intro h27 g); obtain ⟨x5, e28, hM⟩ := bind_some hM; refine AW_region ?_; simp [go_sem, F]; refine by_c false (s_IsValidText_ctr k a0.text x5 e28) ?_; simp [go_sem, F]; obtain rfl := si hM; exact fin hK26 x5 rfl
                    · have g := h27; (try simp at g); have F := And.intro F (And.intro h27 g); refine AW_region ?_; simp [go_sem, F]; obtain rfl := si hM; exact fin hK26 false rfl
                  · rintro x4 rfl; have hM := hR24; (try dsimp only at hM); obtain rfl := si hM; refine AW_ret ?_; simp [go_sem, F]
                · have g := h22; (try simp at g); have F := And.intro F (And.intro h22 g); refine AW_sr fun K h => ?_; simp [go_sem, F]; refine h _ ?_; refine AW_if hM (fun h29 hM => ?_) (fun h29 hM => ?_)
                  · have g := h29; (try simp at g); have F := And.intro F (And.intro h29 g); obtain ⟨e30, hU32, hR31⟩ := bind_some hM; clear hM; refine AW_mid (ι := Bool) (fun i => ⟨95, [(2, .one (.l (.bool i)))], [], []⟩) (fun i => i = e30) ?_ ?_
                    · intro K33 hK33; have hM := hU32; clear hU32; rcases ifM hM with ⟨h34, hM⟩ | ⟨h34, hM⟩
                      · have g := h34; (try simp at g); have F := And.intro F (And.intro h34 g); obtain ⟨x7, e35, hM⟩ := bind_some hM; refine AW_region ?_; simp [go_sem, F]; refine by_c false (ih_s_l3List a0 x7 e35) ?_; simp [go_sem, F]; obtain rfl := si hM; exact fin hK33 x7 rfl
                      · have g := h34; (try simp at g); have F := And.intro F (And.intro h34 g); refine AW_region ?_; simp [go_sem, F]; obtain rfl := si hM; exact fin hK33 false rfl
                    · rintro x6 rfl; have hM := hR31; (try dsimp only at hM); obtain rfl := si hM; refine AW_ret ?_; simp [go_sem, F]
                  · have g := h29; (try simp at g); have F := And.intro F (And.intro h29 g); refine AW_sr fun K h => ?_; simp [go_sem, F]; refine h _ ?_; refine AW_if hM (fun h36 hM => ?_) (fun h36 hM => ?_)
                    · have g := h36; (try simp at g); have F := And.intro F (And.intro h36 g); obtain ⟨e37, hU39, hR38⟩ := bind_some hM; clear hM; refine AW_mid (ι := Bool) (fun i => ⟨95, [(2, .one (.l (.bool i)))], [], []⟩) (fun i => i = e37) ?_ ?_
                      · intro K40 hK40; have hM := hU39; clear hU39; obtain ⟨x9, e41, hM⟩ := bind_some hM; rcases ifM hM with ⟨h42, hM⟩ | ⟨h42, hM⟩
                        · have g := h42; (try simp at g); have F := And.intro F (And.intro h42 g); obtain ⟨x10, e43, hM⟩ := bind_some hM; refine AW_region ?_; simp [go_sem, F]; refine by_c false (s_l3Number_ctr a0.n x9 e41) ?_; simp [go_sem, F]; refine by_c false (s_l3Number_ctr a0.step x10 e43) ?_; simp [go_sem, F]; obtain rfl := si hM; exact fin hK40 x10 rfl
                        · have g := h42; (try simp at g); have F := And.intro F (And.intro h42 g); refine AW_region ?_; simp [go_sem, F]; refine by_c false (s_l3Number_ctr a0.n x9 e41) ?_; simp [go_sem, F]; obtain rfl := si hM; exact fin hK40 false rfl
                      · rintro x8 rfl; have hM := hR38; (try dsimp only at hM); obtain rfl := si hM; refine AW_ret ?_; simp [go_sem, F]
                    · have g := h36; (try simp at g); have F := And.intro F (And.intro h36 g); refine AW_sr fun K h => ?_; simp [go_sem, F]; refine h _ ?_; refine AW_if hM (fun h44 hM => ?_) (fun h44 hM => ?_)
                      · have g := h44; (try simp at g); have F := And.intro F (And.intro h44 g); obtain ⟨e45, hU47, hR46⟩ := bind_some hM; clear hM; refine AW_mid (ι := Bool) (fun i => ⟨95, [(2, .one (.l (.bool i)))], [], []⟩) (fun i => i = e45) ?_ ?_
                        · intro K48 hK48; have hM := hU47; clear hU47; rcases ifM hM with ⟨h49, hM⟩ | ⟨h49, hM⟩
                          · have g := h49; (try simp at g); have F := And.intro F (And.intro h49 g); obtain ⟨x12, e50, hM⟩ := bind_some hM; refine AW_region ?_; simp [go_sem, F]; refine by_c false (s_l3Table_ctr k a0 x12 e50) ?_; simp [go_sem, F]; obtain rfl := si hM; exact fin hK48 x12 rfl
                          · have g := h49; (try simp at g); have F := And.intro F (And.intro h49 g); refine AW_region ?_; simp [go_sem, F]; obtain rfl := si hM; exact fin hK48 false rfl
                        · rintro x11 rfl; have hM := hR46; (try dsimp only at hM); obtain rfl := si hM; refine AW_ret ?_; simp [go_sem, F]
                      · have g := h44; (try simp at g); have F := And.intro F (And.intro h44 g); refine AW_sr fun K h => ?_; simp [go_sem, F]; refine h _ ?_; refine AW_if hM (fun h51 hM => ?_) (fun h51 hM => ?_)
                        · have g := h51; (try simp at g); have F := And.intro F (And.intro h51 g); obtain ⟨x13, e52, hM⟩ := bind_some hM; refine AW_sr fun K h => ?_; simp [go_sem, F]; refine by_c false (s_l1In_ctr a0.n 1 8 x13 e52) ?_; simp [go_sem, F]; refine h _ ?_; obtain rfl := si hM; refine AW_ret ?_; simp [go_sem, F]
                        · have g := h51; (try simp at g); have F := And.intro F (And.intro h51 g); refine AW_skip ?_; refine hK19 _ ?_; refine AW_sr fun K h => ?_; simp [go_sem, F]; refine h _ ?_; obtain rfl := si hM; refine AW_ret ?_; simp [go_sem, F]
theorem s_IsValidValue_ctr (k : Nat) : ∀ (a0 : TValue) (r : Bool) (hM : s_IsValidValue k a0 = some r), Ctr Try.prog 21 [.agg (TValue.c a0)] true [.one (.bool r)] := (s_l3List_all k).2
end Go.Proofs.Ytbknilpmpjjfpaa
