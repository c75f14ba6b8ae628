/- Contracts of the program's functions: where the mirrored function answers, the program's function returns this answer. Written by a program of mine. -/
import Derived.Test.YtbknilpmpjjfpaaWn
import Derived.Test.YtbknilpmpjjfpaaMd6
import Derived.Test.YtbknilpmpjjfpaaCt0
import Derived.Test.YtbknilpmpjjfpaaCt1
import Derived.Test.YtbknilpmpjjfpaaCt2
import Derived.Test.YtbknilpmpjjfpaaCt4
import Derived.Test.YtbknilpmpjjfpaaCt5
set_option linter.unusedSimpArgs false
set_option linter.unusedVariables false
namespace Go.Proofs.Ytbknilpmpjjfpaa
open Go.RowKit Am
set_option maxHeartbeats 4000000
set_option maxRecDepth 100000
theorem i_copyRow_ctr (a0 : TRow) (r : TRow) (hM : i_copyRow a0 = some r) : Ctr Try.prog 60 [.agg (TRow.c a0)] true [.agg (TRow.c r)] := by
  unfold i_copyRow at hM
  refine walkM Try.func60 Try.ntmps60 Try.results60 fun N w0 hbad F => ?_
  refine AW_sr fun K h => ?_; simp [go_sem, F]; refine h _ ?_; refine AW_seq fun K1 hK1 => ?_; refine AW_fz (σ' := ⟨12, [(1, .one (.box 1 0)), (2, .one (.box 2 0))], [(1, [.l (.sl (a0.cells.map iC)), .l (.sl (a0.from_.map TOrigin.c))]), (2, [.nil, .nil])], []⟩) ?_; obtain ⟨x1, e2, hM⟩ := bind_some hM; obtain ⟨c3, s4⟩ := app_spec e2; replace c3 := c3.symm; subst c3; (try simp at s4); have F := And.intro F s4
  obtain ⟨x2, e6, hM⟩ := bind_some hM; obtain ⟨c7, s8⟩ := app_spec e6; replace c7 := c7.symm; subst c7; (try simp at s8); have F := And.intro F s8; refine AW_open [[], [], [1], [0, 1, 2], [], [], [5], [0, 1, 2, 3, 4, 5, 6], [0, 1, 2, 3, 4, 5, 6, 7], [0, 1, 2, 3, 4, 5, 6, 7, 8]] mixed (by kernel_rfl) ?_; simp [go_sem, F]; refine ⟨dOkK_sound (by kernel_rfl), ?_⟩; refine hK1 _ ?_; obtain rfl := si hM
  refine AW_ret ?_; simp [go_sem, F]
theorem s_l3Row_ctr (a0 : TRow) (r : TRow) (hM : s_l3Row a0 = some r) : Ctr Try.prog 64 [.agg (TRow.c a0)] true [.agg (TRow.c r)] := by
  unfold s_l3Row at hM
  refine walkM Try.func64 Try.ntmps64 Try.results64 fun N w0 hbad F => ?_
  refine AW_sr fun K h => ?_; simp [go_sem, F]; refine h _ ?_; refine AW_seq fun K1 hK1 => ?_; refine AW_fz (σ' := ⟨12, [(1, .one (.box 1 0)), (2, .one (.box 2 0))], [(1, [.l (.sl (a0.cells.map iC)), .l (.sl (a0.from_.map TOrigin.c))]), (2, [.nil, .nil])], []⟩) ?_; obtain ⟨x1, e2, hM⟩ := bind_some hM; obtain ⟨c3, s4⟩ := app_spec e2; replace c3 := c3.symm; subst c3; (try simp at s4); have F := And.intro F s4
  obtain ⟨x2, e6, hM⟩ := bind_some hM; obtain ⟨c7, s8⟩ := app_spec e6; replace c7 := c7.symm; subst c7; (try simp at s8); have F := And.intro F s8; refine AW_open [[], [], [1], [0, 1, 2], [], [], [5], [0, 1, 2, 3, 4, 5, 6], [0, 1, 2, 3, 4, 5, 6, 7], [0, 1, 2, 3, 4, 5, 6, 7, 8]] mixed (by kernel_rfl) ?_; simp [go_sem, F]; refine ⟨dOkK_sound (by kernel_rfl), ?_⟩; refine hK1 _ ?_; obtain rfl := si hM
  refine AW_ret ?_; simp [go_sem, F]
theorem s_l3Texts_ctr (k : Nat) (a0 : List ByteArray) (a1 : List ByteArray) (r : Bool) (hM : s_l3Texts k a0 a1 = some r) : Ctr Try.prog 103 [.one (.sl (a0.map sC)), .one (.sl (a1.map sC))] true [.one (.bool r)] := by
  unfold s_l3Texts at hM
  refine walkM Try.func103 Try.ntmps103 Try.results103 fun N w0 hbad F => ?_
  refine AW_sr fun K h => ?_; simp [go_sem, F]; refine h _ ?_; refine AW_seq fun K1 hK1 => ?_; refine AW_sr fun K h => ?_; simp [go_sem, F]; refine h _ ?_; refine AW_if hM (fun h2 hM => ?_) (fun h2 hM => ?_)
  · have g := h2; (try simp at g); have F := And.intro F (And.intro h2 g); refine AW_sr fun K h => ?_; simp [go_sem, F]; refine h _ ?_; obtain rfl := si hM; refine AW_ret ?_; simp [go_sem, F]
  · have g := h2; (try simp at g); have F := And.intro F (And.intro h2 g); refine AW_skip ?_; refine hK1 _ ?_; obtain ⟨e3, hU5, hR4⟩ := bind_some hM; clear hM; refine AW_mid (ι := Unit) (fun i => ⟨26, [], [], []⟩) (fun i => (.inl i) = e3) ?_ ?_
    · intro K6 hK6; have hM := hU5; clear hU5; refine AW_sr fun K h => ?_; simp [go_sem, F]; refine h _ ?_; refine AW_block ?_; refine AW_lp (ι := Int) (fun i => ⟨26, [(0, .one (.l (.sl (a0.map sC)))), (1, .one (.l (.sl (a1.map sC)))), (5, .one (.l (.int .i64 i)))], [], []⟩) (fun n i => s_l3Texts_u1 a0 a1 n i = some e3) k 0 hM (by simp [s_l3Texts_u1]) ?_; intro KL7 n x1 hL7 hM F; have hM : s_l3Texts_u1 a0 a1 (n + 1) x1 = some e3 := hM; rw [s_l3Texts_u1] at hM
      refine AW_seq fun K8 hK8 => ?_; refine AW_sr fun K h => ?_; simp [go_sem, F]; refine h _ ?_; refine AW_if hM (fun h9 hM => ?_) (fun h9 hM => ?_)
      · have g := h9; (try simp at g); have F := And.intro F (And.intro h9 (And.intro g (lT h9))); refine AW_skip ?_; refine hK8 _ ?_; refine AW_seq fun K10 hK10 => ?_; refine AW_block ?_; refine AW_seq fun K11 hK11 => ?_; obtain ⟨x2, e12, hM⟩ := bind_some hM; have F := And.intro F (at_f e12); obtain ⟨x3, e13, hM⟩ := bind_some hM; have F := And.intro F (at_f e13); refine AW_quickN 8 mixed (by kernel_rfl) (by kernel_rfl) ?_
        simp [go_sem, F]; refine hK11 _ ?_; refine AW_if hM (fun h14 hM => ?_) (fun h14 hM => ?_)
        · have g := h14; (try simp at g); have F := And.intro F (And.intro h14 g); refine AW_sr fun K h => ?_; simp [go_sem, F]; refine h _ ?_; obtain rfl := si hM; have hM := hR4; dsimp only at hM; obtain rfl := si hM; refine AW_ret ?_; simp [go_sem, F]
        · have g := h14; (try simp at g); have F := And.intro F (And.intro h14 g); refine AW_skip ?_; refine hK10 _ ?_; refine AW_region ?_; simp [go_sem, F]; exact fin hL7 (IntKind.i64.wrap (x1 + 1)) hM
      · have g := h9; (try simp at g); have F := And.intro F (And.intro h9 (And.intro g (lF h9))); refine AW_exit ?_; obtain rfl := si hM; exact fin hK6 () rfl
    · rintro _ rfl; have hM := hR4; dsimp only at hM; refine AW_sr fun K h => ?_; simp [go_sem, F]; refine h _ ?_; obtain rfl := si hM; refine AW_ret ?_; simp [go_sem, F]
theorem s_l1Ints_ctr (k : Nat) (a0 : List Int) (a1 : List Int) (r : Bool) (hM : s_l1Ints k a0 a1 = some r) : Ctr Try.prog 70 [.one (.sl (a0.map iC)), .one (.sl (a1.map iC))] true [.one (.bool r)] := by
  unfold s_l1Ints at hM
  refine walkM Try.func70 Try.ntmps70 Try.results70 fun N w0 hbad F => ?_
  refine AW_sr fun K h => ?_; simp [go_sem, F]; refine h _ ?_; refine AW_seq fun K1 hK1 => ?_; refine AW_sr fun K h => ?_; simp [go_sem, F]; refine h _ ?_; refine AW_if hM (fun h2 hM => ?_) (fun h2 hM => ?_)
  · have g := h2; (try simp at g); have F := And.intro F (And.intro h2 g); refine AW_sr fun K h => ?_; simp [go_sem, F]; refine h _ ?_; obtain rfl := si hM; refine AW_ret ?_; simp [go_sem, F]
  · have g := h2; (try simp at g); have F := And.intro F (And.intro h2 g); refine AW_skip ?_; refine hK1 _ ?_; obtain ⟨e3, hU5, hR4⟩ := bind_some hM; clear hM; refine AW_mid (ι := Unit) (fun i => ⟨26, [], [], []⟩) (fun i => (.inl i) = e3) ?_ ?_
    · intro K6 hK6; have hM := hU5; clear hU5; refine AW_sr fun K h => ?_; simp [go_sem, F]; refine h _ ?_; refine AW_block ?_; refine AW_lp (ι := Int) (fun i => ⟨26, [(0, .one (.l (.sl (a0.map iC)))), (1, .one (.l (.sl (a1.map iC)))), (5, .one (.l (.int .i64 i)))], [], []⟩) (fun n i => s_l1Ints_u1 a0 a1 n i = some e3) k 0 hM (by simp [s_l1Ints_u1]) ?_; intro KL7 n x1 hL7 hM F; have hM : s_l1Ints_u1 a0 a1 (n + 1) x1 = some e3 := hM; rw [s_l1Ints_u1] at hM
      refine AW_seq fun K8 hK8 => ?_; refine AW_sr fun K h => ?_; simp [go_sem, F]; refine h _ ?_; refine AW_if hM (fun h9 hM => ?_) (fun h9 hM => ?_)
      · have g := h9; (try simp at g); have F := And.intro F (And.intro h9 (And.intro g (lT h9))); refine AW_skip ?_; refine hK8 _ ?_; refine AW_seq fun K10 hK10 => ?_; refine AW_block ?_; refine AW_seq fun K11 hK11 => ?_; obtain ⟨x2, e12, hM⟩ := bind_some hM; have F := And.intro F (at_f e12); obtain ⟨x3, e13, hM⟩ := bind_some hM; have F := And.intro F (at_f e13); refine AW_quickN 8 mixed (by kernel_rfl) (by kernel_rfl) ?_
        simp [go_sem, F]; refine hK11 _ ?_; refine AW_if hM (fun h14 hM => ?_) (fun h14 hM => ?_)
        · have g := h14; (try simp at g); have F := And.intro F (And.intro h14 g); refine AW_sr fun K h => ?_; simp [go_sem, F]; refine h _ ?_; obtain rfl := si hM; have hM := hR4; dsimp only at hM; obtain rfl := si hM; refine AW_ret ?_; simp [go_sem, F]
        · have g := h14; (try simp at g); have F := And.intro F (And.intro h14 g); refine AW_skip ?_; refine hK10 _ ?_; refine AW_region ?_; simp [go_sem, F]; exact fin hL7 (IntKind.i64.wrap (x1 + 1)) hM
      · have g := h9; (try simp at g); have F := And.intro F (And.intro h9 (And.intro g (lF h9))); refine AW_exit ?_; obtain rfl := si hM; exact fin hK6 () rfl
    · rintro _ rfl; have hM := hR4; dsimp only at hM; refine AW_sr fun K h => ?_; simp [go_sem, F]; refine h _ ?_; obtain rfl := si hM; refine AW_ret ?_; simp [go_sem, F]
theorem s_l3Origins_ctr (k : Nat) (a0 : List TOrigin) (a1 : List TOrigin) (r : Bool) (hM : s_l3Origins k a0 a1 = some r) : Ctr Try.prog 71 [.one (.sl (a0.map TOrigin.c)), .one (.sl (a1.map TOrigin.c))] true [.one (.bool r)] := by
  unfold s_l3Origins at hM
  refine walkM Try.func71 Try.ntmps71 Try.results71 fun N w0 hbad F => ?_
  refine AW_sr fun K h => ?_; simp [go_sem, F]; refine h _ ?_; refine AW_seq fun K1 hK1 => ?_; refine AW_sr fun K h => ?_; simp [go_sem, F]; refine h _ ?_; refine AW_if hM (fun h2 hM => ?_) (fun h2 hM => ?_)
  · have g := h2; (try simp at g); have F := And.intro F (And.intro h2 g); refine AW_sr fun K h => ?_; simp [go_sem, F]; refine h _ ?_; obtain rfl := si hM; refine AW_ret ?_; simp [go_sem, F]
  · have g := h2; (try simp at g); have F := And.intro F (And.intro h2 g); refine AW_skip ?_; refine hK1 _ ?_; obtain ⟨e3, hU5, hR4⟩ := bind_some hM; clear hM; refine AW_mid (ι := Unit) (fun i => ⟨26, [], [], []⟩) (fun i => (.inl i) = e3) ?_ ?_
    · intro K6 hK6; have hM := hU5; clear hU5; refine AW_sr fun K h => ?_; simp [go_sem, F]; refine h _ ?_; refine AW_block ?_; refine AW_lp (ι := Int) (fun i => ⟨26, [(0, .one (.l (.sl (a0.map TOrigin.c)))), (1, .one (.l (.sl (a1.map TOrigin.c)))), (5, .one (.l (.int .i64 i)))], [], []⟩) (fun n i => s_l3Origins_u1 a0 a1 n i = some e3) k 0 hM (by simp [s_l3Origins_u1]) ?_; intro KL7 n x1 hL7 hM F; have hM : s_l3Origins_u1 a0 a1 (n + 1) x1 = some e3 := hM; rw [s_l3Origins_u1] at hM
      refine AW_seq fun K8 hK8 => ?_; refine AW_sr fun K h => ?_; simp [go_sem, F]; refine h _ ?_; refine AW_if hM (fun h9 hM => ?_) (fun h9 hM => ?_)
      · have g := h9; (try simp at g); have F := And.intro F (And.intro h9 (And.intro g (lT h9))); refine AW_skip ?_; refine hK8 _ ?_; refine AW_seq fun K10 hK10 => ?_; refine AW_block ?_; refine AW_seq fun K11 hK11 => ?_; obtain ⟨x2, e12, hM⟩ := bind_some hM; have F := And.intro F (at_f e12); obtain ⟨x3, e13, hM⟩ := bind_some hM; have F := And.intro F (at_f e13); refine AW_quickN 8 mixed (by kernel_rfl) (by kernel_rfl) ?_
        simp [go_sem, F]; refine hK11 _ ?_; refine AW_if hM (fun h14 hM => ?_) (fun h14 hM => ?_)
        · have g := h14; (try simp at g); have F := And.intro F (And.intro h14 g); refine AW_sr fun K h => ?_; simp [go_sem, F]; refine h _ ?_; obtain rfl := si hM; have hM := hR4; dsimp only at hM; obtain rfl := si hM; refine AW_ret ?_; simp [go_sem, F]
        · have g := h14; (try simp at g); have F := And.intro F (And.intro h14 g); refine AW_skip ?_; refine hK10 _ ?_; refine AW_region ?_; simp [go_sem, F]; exact fin hL7 (IntKind.i64.wrap (x1 + 1)) hM
      · have g := h9; (try simp at g); have F := And.intro F (And.intro h9 (And.intro g (lF h9))); refine AW_exit ?_; obtain rfl := si hM; exact fin hK6 () rfl
    · rintro _ rfl; have hM := hR4; dsimp only at hM; refine AW_sr fun K h => ?_; simp [go_sem, F]; refine h _ ?_; obtain rfl := si hM; refine AW_ret ?_; simp [go_sem, F]
end Go.Proofs.Ytbknilpmpjjfpaa
