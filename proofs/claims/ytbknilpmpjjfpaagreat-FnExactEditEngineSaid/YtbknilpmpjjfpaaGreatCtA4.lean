/- Contracts of the program's functions: where the mirrored function answers, the program's function returns this answer. Written by a program of mine. -/
import Derived.Test.YtbknilpmpjjfpaaGreatWn
import Derived.Test.YtbknilpmpjjfpaaGreatMdA4
import Derived.Test.YtbknilpmpjjfpaaGreatCtA1
import Derived.Test.YtbknilpmpjjfpaaGreatCtA3
set_option linter.unusedSimpArgs false
set_option linter.unusedVariables false
namespace Go.Proofs.YtbknilpmpjjfpaaGreat
open Go.RowKit Am
set_option maxHeartbeats 4000000
set_option maxRecDepth 100000
theorem w_eqRead_ctr (k : Nat) (a0 : TRead) (a1 : TRead) (r : Bool) (hM : w_eqRead k a0 a1 = some r) : Ctr Tryz.prog 134 [.agg (TRead.c a0), .agg (TRead.c a1)] true [.one (.bool r)] := by
  unfold w_eqRead at hM
  refine walkM Tryz.func134 Tryz.ntmps134 Tryz.results134 fun N w0 hbad F => ?_
  refine AW_sr fun K h => ?_; simp [go_sem, F]; refine h _ ?_; refine AW_seq fun K1 hK1 => ?_; refine AW_sr fun K h => ?_; simp [go_sem, F]; refine h _ ?_; refine AW_if hM (fun h2 hM => ?_) (fun h2 hM => ?_)
  · have g := h2; (try simp at g); have F := And.intro F (And.intro h2 g); refine AW_sr fun K h => ?_; simp [go_sem, F]; refine h _ ?_; obtain rfl := si hM; refine AW_ret ?_; simp [go_sem, F]
  · have g := h2; (try simp at g); have F := And.intro F (And.intro h2 g); refine AW_skip ?_; refine hK1 _ ?_; refine AW_seq fun K3 hK3 => ?_; refine AW_sr fun K h => ?_; simp [go_sem, F]; refine h _ ?_; refine AW_if hM (fun h4 hM => ?_) (fun h4 hM => ?_)
    · have g := h4; (try simp at g); have F := And.intro F (And.intro h4 g); refine AW_sr fun K h => ?_; simp [go_sem, F]; refine h _ ?_; obtain rfl := si hM; refine AW_ret ?_; simp [go_sem, F]
    · have g := h4; (try simp at g); have F := And.intro F (And.intro h4 g); refine AW_skip ?_; refine hK3 _ ?_; refine AW_seq fun K5 hK5 => ?_; refine AW_sr fun K h => ?_; simp [go_sem, F]; refine h _ ?_; refine AW_if hM (fun h6 hM => ?_) (fun h6 hM => ?_)
      · have g := h6; (try simp at g); have F := And.intro F (And.intro h6 g); refine AW_sr fun K h => ?_; simp [go_sem, F]; refine h _ ?_; obtain rfl := si hM; refine AW_ret ?_; simp [go_sem, F]
      · have g := h6; (try simp at g); have F := And.intro F (And.intro h6 g); refine AW_skip ?_; refine hK5 _ ?_; refine AW_seq fun K7 hK7 => ?_; refine AW_sr fun K h => ?_; simp [go_sem, F]; refine h _ ?_; refine AW_if hM (fun h8 hM => ?_) (fun h8 hM => ?_)
        · have g := h8; (try simp at g); have F := And.intro F (And.intro h8 g); refine AW_sr fun K h => ?_; simp [go_sem, F]; refine h _ ?_; obtain rfl := si hM; refine AW_ret ?_; simp [go_sem, F]
        · have g := h8; (try simp at g); have F := And.intro F (And.intro h8 g); refine AW_skip ?_; refine hK7 _ ?_; refine AW_seq fun K9 hK9 => ?_; obtain ⟨x1, e10, hM⟩ := bind_some hM; refine AW_sr fun K h => ?_; simp [go_sem, F]; refine by_c false (w_eqValue_ctr k a0.result a1.result x1 e10) ?_; simp [go_sem, F]; refine h _ ?_; refine AW_if hM (fun h11 hM => ?_) (fun h11 hM => ?_)
          · have g := h11; (try simp at g); have F := And.intro F (And.intro h11 g); refine AW_sr fun K h => ?_; simp [go_sem, F]; refine h _ ?_; obtain rfl := si hM; refine AW_ret ?_; simp [go_sem, F]
          · have g := h11; (try simp at g); have F := And.intro F (And.intro h11 g); refine AW_skip ?_; refine hK9 _ ?_; refine AW_sr fun K h => ?_; simp [go_sem, F]; refine h _ ?_; obtain rfl := si hM; refine AW_ret ?_; simp [go_sem, F]
theorem w_eqReadS_ctr (k : Nat) (a0 : List TRead) (a1 : List TRead) (r : Bool) (hM : w_eqReadS k a0 a1 = some r) : Ctr Tryz.prog 117 [.one (.sl (a0.map TRead.c)), .one (.sl (a1.map TRead.c))] true [.one (.bool r)] := by
  unfold w_eqReadS at hM
  refine walkM Tryz.func117 Tryz.ntmps117 Tryz.results117 fun N w0 hbad F => ?_
  refine AW_sr fun K h => ?_; simp [go_sem, F]; refine h _ ?_; refine AW_seq fun K1 hK1 => ?_; refine AW_sr fun K h => ?_; simp [go_sem, F]; refine h _ ?_; refine AW_if hM (fun h2 hM => ?_) (fun h2 hM => ?_)
  · have g := h2; (try simp at g); have F := And.intro F (And.intro h2 g); refine AW_sr fun K h => ?_; simp [go_sem, F]; refine h _ ?_; obtain rfl := si hM; refine AW_ret ?_; simp [go_sem, F]
  · have g := h2; (try simp at g); have F := And.intro F (And.intro h2 g); refine AW_skip ?_; refine hK1 _ ?_; obtain ⟨e3, hU5, hR4⟩ := bind_some hM; clear hM; refine AW_mid (ι := Unit) (fun i => ⟨27, [], [], []⟩) (fun i => (.inl i) = e3) ?_ ?_
    · intro K6 hK6; have hM := hU5; clear hU5; refine AW_sr fun K h => ?_; simp [go_sem, F]; refine h _ ?_; refine AW_block ?_; refine AW_lp (ι := Int) (fun i => ⟨27, [(0, .one (.l (.sl (a0.map TRead.c)))), (1, .one (.l (.sl (a1.map TRead.c)))), (5, .one (.l (.int .i64 i)))], [], []⟩) (fun n i => w_eqReadS_u1 k a0 a1 n i = some e3) k 0 hM (by simp [w_eqReadS_u1]) ?_; intro KL7 n x1 hL7 hM F; have hM : w_eqReadS_u1 k a0 a1 (n + 1) x1 = some e3 := hM; rw [w_eqReadS_u1] at hM
      refine AW_seq fun K8 hK8 => ?_; refine AW_sr fun K h => ?_; simp [go_sem, F]; refine h _ ?_; refine AW_if hM (fun h9 hM => ?_) (fun h9 hM => ?_)
      · have g := h9; (try simp at g); have F := And.intro F (And.intro h9 (And.intro g (lT h9))); refine AW_skip ?_; refine hK8 _ ?_; refine AW_seq fun K10 hK10 => ?_; refine AW_block ?_; refine AW_seq fun K11 hK11 => ?_; obtain ⟨x2, e12, hM⟩ := bind_some hM; have F := And.intro F (at_f e12); obtain ⟨x3, e13, hM⟩ := bind_some hM; have F := And.intro F (at_f e13); obtain ⟨x4, e14, hM⟩ := bind_some hM
        refine AW_quickN 8 mixed (by kernel_rfl) (by kernel_rfl) ?_; simp [go_sem, F]; refine by_c false (w_eqRead_ctr k x2 x3 x4 e14) ?_; simp [go_sem, F]; refine hK11 _ ?_; refine AW_if hM (fun h15 hM => ?_) (fun h15 hM => ?_)
        · have g := h15; (try simp at g); have F := And.intro F (And.intro h15 g); refine AW_sr fun K h => ?_; simp [go_sem, F]; refine h _ ?_; obtain rfl := si hM; have hM := hR4; dsimp only at hM; obtain rfl := si hM; refine AW_ret ?_; simp [go_sem, F]
        · have g := h15; (try simp at g); have F := And.intro F (And.intro h15 g); refine AW_skip ?_; refine hK10 _ ?_; refine AW_region ?_; simp [go_sem, F]; exact fin hL7 (IntKind.i64.wrap (x1 + 1)) hM
      · have g := h9; (try simp at g); have F := And.intro F (And.intro h9 (And.intro g (lF h9))); refine AW_exit ?_; obtain rfl := si hM; exact fin hK6 () rfl
    · rintro _ rfl; have hM := hR4; dsimp only at hM; refine AW_sr fun K h => ?_; simp [go_sem, F]; refine h _ ?_; obtain rfl := si hM; refine AW_ret ?_; simp [go_sem, F]
theorem w_eqTape_ctr (k : Nat) (a0 : TTape) (a1 : TTape) (r : Bool) (hM : w_eqTape k a0 a1 = some r) : Ctr Tryz.prog 81 [.agg (TTape.c a0), .agg (TTape.c a1)] true [.one (.bool r)] := by
  unfold w_eqTape at hM
  refine walkM Tryz.func81 Tryz.ntmps81 Tryz.results81 fun N w0 hbad F => ?_
  refine AW_sr fun K h => ?_; simp [go_sem, F]; refine h _ ?_; refine AW_seq fun K1 hK1 => ?_; refine AW_sr fun K h => ?_; simp [go_sem, F]; refine h _ ?_; refine AW_if hM (fun h2 hM => ?_) (fun h2 hM => ?_)
  · have g := h2; (try simp at g); have F := And.intro F (And.intro h2 g); refine AW_sr fun K h => ?_; simp [go_sem, F]; refine h _ ?_; obtain rfl := si hM; refine AW_ret ?_; simp [go_sem, F]
  · have g := h2; (try simp at g); have F := And.intro F (And.intro h2 g); refine AW_skip ?_; refine hK1 _ ?_; refine AW_seq fun K3 hK3 => ?_; refine AW_sr fun K h => ?_; simp [go_sem, F]; refine h _ ?_; refine AW_if hM (fun h4 hM => ?_) (fun h4 hM => ?_)
    · have g := h4; (try simp at g); have F := And.intro F (And.intro h4 g); refine AW_sr fun K h => ?_; simp [go_sem, F]; refine h _ ?_; obtain rfl := si hM; refine AW_ret ?_; simp [go_sem, F]
    · have g := h4; (try simp at g); have F := And.intro F (And.intro h4 g); refine AW_skip ?_; refine hK3 _ ?_; refine AW_seq fun K5 hK5 => ?_; obtain ⟨x1, e6, hM⟩ := bind_some hM; refine AW_sr fun K h => ?_; simp [go_sem, F]; refine by_c false (w_eqReadS_ctr k a0.reads a1.reads x1 e6) ?_; simp [go_sem, F]; refine h _ ?_; refine AW_if hM (fun h7 hM => ?_) (fun h7 hM => ?_)
      · have g := h7; (try simp at g); have F := And.intro F (And.intro h7 g); refine AW_sr fun K h => ?_; simp [go_sem, F]; refine h _ ?_; obtain rfl := si hM; refine AW_ret ?_; simp [go_sem, F]
      · have g := h7; (try simp at g); have F := And.intro F (And.intro h7 g); refine AW_skip ?_; refine hK5 _ ?_; refine AW_sr fun K h => ?_; simp [go_sem, F]; refine h _ ?_; obtain rfl := si hM; refine AW_ret ?_; simp [go_sem, F]
theorem w_eqTapeS_ctr (k : Nat) (a0 : List TTape) (a1 : List TTape) (r : Bool) (hM : w_eqTapeS k a0 a1 = some r) : Ctr Tryz.prog 42 [.one (.sl (a0.map TTape.c)), .one (.sl (a1.map TTape.c))] true [.one (.bool r)] := by
  unfold w_eqTapeS at hM
  refine walkM Tryz.func42 Tryz.ntmps42 Tryz.results42 fun N w0 hbad F => ?_
  refine AW_sr fun K h => ?_; simp [go_sem, F]; refine h _ ?_; refine AW_seq fun K1 hK1 => ?_; refine AW_sr fun K h => ?_; simp [go_sem, F]; refine h _ ?_; refine AW_if hM (fun h2 hM => ?_) (fun h2 hM => ?_)
  · have g := h2; (try simp at g); have F := And.intro F (And.intro h2 g); refine AW_sr fun K h => ?_; simp [go_sem, F]; refine h _ ?_; obtain rfl := si hM; refine AW_ret ?_; simp [go_sem, F]
  · have g := h2; (try simp at g); have F := And.intro F (And.intro h2 g); refine AW_skip ?_; refine hK1 _ ?_; obtain ⟨e3, hU5, hR4⟩ := bind_some hM; clear hM; refine AW_mid (ι := Unit) (fun i => ⟨27, [], [], []⟩) (fun i => (.inl i) = e3) ?_ ?_
    · intro K6 hK6; have hM := hU5; clear hU5; refine AW_sr fun K h => ?_; simp [go_sem, F]; refine h _ ?_; refine AW_block ?_; refine AW_lp (ι := Int) (fun i => ⟨27, [(0, .one (.l (.sl (a0.map TTape.c)))), (1, .one (.l (.sl (a1.map TTape.c)))), (5, .one (.l (.int .i64 i)))], [], []⟩) (fun n i => w_eqTapeS_u1 k a0 a1 n i = some e3) k 0 hM (by simp [w_eqTapeS_u1]) ?_; intro KL7 n x1 hL7 hM F; have hM : w_eqTapeS_u1 k a0 a1 (n + 1) x1 = some e3 := hM; rw [w_eqTapeS_u1] at hM
      refine AW_seq fun K8 hK8 => ?_; refine AW_sr fun K h => ?_; simp [go_sem, F]; refine h _ ?_; refine AW_if hM (fun h9 hM => ?_) (fun h9 hM => ?_)
      · have g := h9; (try simp at g); have F := And.intro F (And.intro h9 (And.intro g (lT h9))); refine AW_skip ?_; refine hK8 _ ?_; refine AW_seq fun K10 hK10 => ?_; refine AW_block ?_; refine AW_seq fun K11 hK11 => ?_; obtain ⟨x2, e12, hM⟩ := bind_some hM; have F := And.intro F (at_f e12); obtain ⟨x3, e13, hM⟩ := bind_some hM; have F := And.intro F (at_f e13); obtain ⟨x4, e14, hM⟩ := bind_some hM
        refine AW_quickN 8 mixed (by kernel_rfl) (by kernel_rfl) ?_; simp [go_sem, F]; refine by_c false (w_eqTape_ctr k x2 x3 x4 e14) ?_; simp [go_sem, F]; refine hK11 _ ?_; refine AW_if hM (fun h15 hM => ?_) (fun h15 hM => ?_)
        · have g := h15; (try simp at g); have F := And.intro F (And.intro h15 g); refine AW_sr fun K h => ?_; simp [go_sem, F]; refine h _ ?_; obtain rfl := si hM; have hM := hR4; dsimp only at hM; obtain rfl := si hM; refine AW_ret ?_; simp [go_sem, F]
        · have g := h15; (try simp at g); have F := And.intro F (And.intro h15 g); refine AW_skip ?_; refine hK10 _ ?_; refine AW_region ?_; simp [go_sem, F]; exact fin hL7 (IntKind.i64.wrap (x1 + 1)) hM
      · have g := h9; (try simp at g); have F := And.intro F (And.intro h9 (And.intro g (lF h9))); refine AW_exit ?_; obtain rfl := si hM; exact fin hK6 () rfl
    · rintro _ rfl; have hM := hR4; dsimp only at hM; refine AW_sr fun K h => ?_; simp [go_sem, F]; refine h _ ?_; obtain rfl := si hM; refine AW_ret ?_; simp [go_sem, F]
theorem w_eqEntry_ctr (k : Nat) (a0 : TEntry) (a1 : TEntry) (r : Bool) (hM : w_eqEntry k a0 a1 = some r) : Ctr Tryz.prog 82 [.agg (TEntry.c a0), .agg (TEntry.c a1)] true [.one (.bool r)] := by
  unfold w_eqEntry at hM
  refine walkM Tryz.func82 Tryz.ntmps82 Tryz.results82 fun N w0 hbad F => ?_
  refine AW_sr fun K h => ?_; simp [go_sem, F]; refine h _ ?_; refine AW_seq fun K1 hK1 => ?_; refine AW_sr fun K h => ?_; simp [go_sem, F]; refine h _ ?_; refine AW_if hM (fun h2 hM => ?_) (fun h2 hM => ?_)
  · have g := h2; (try simp at g); have F := And.intro F (And.intro h2 g); refine AW_sr fun K h => ?_; simp [go_sem, F]; refine h _ ?_; obtain rfl := si hM; refine AW_ret ?_; simp [go_sem, F]
  · have g := h2; (try simp at g); have F := And.intro F (And.intro h2 g); refine AW_skip ?_; refine hK1 _ ?_; refine AW_seq fun K3 hK3 => ?_; refine AW_sr fun K h => ?_; simp [go_sem, F]; refine h _ ?_; refine AW_if hM (fun h4 hM => ?_) (fun h4 hM => ?_)
    · have g := h4; (try simp at g); have F := And.intro F (And.intro h4 g); refine AW_sr fun K h => ?_; simp [go_sem, F]; refine h _ ?_; obtain rfl := si hM; refine AW_ret ?_; simp [go_sem, F]
    · have g := h4; (try simp at g); have F := And.intro F (And.intro h4 g); refine AW_skip ?_; refine hK3 _ ?_; refine AW_seq fun K5 hK5 => ?_; refine AW_sr fun K h => ?_; simp [go_sem, F]; refine h _ ?_; refine AW_if hM (fun h6 hM => ?_) (fun h6 hM => ?_)
      · have g := h6; (try simp at g); have F := And.intro F (And.intro h6 g); refine AW_sr fun K h => ?_; simp [go_sem, F]; refine h _ ?_; obtain rfl := si hM; refine AW_ret ?_; simp [go_sem, F]
      · have g := h6; (try simp at g); have F := And.intro F (And.intro h6 g); refine AW_skip ?_; refine hK5 _ ?_; refine AW_seq fun K7 hK7 => ?_; obtain ⟨x1, e8, hM⟩ := bind_some hM; refine AW_sr fun K h => ?_; simp [go_sem, F]; refine by_c false (w_eqIntS_ctr k a0.inputs a1.inputs x1 e8) ?_; simp [go_sem, F]; refine h _ ?_; refine AW_if hM (fun h9 hM => ?_) (fun h9 hM => ?_)
        · have g := h9; (try simp at g); have F := And.intro F (And.intro h9 g); refine AW_sr fun K h => ?_; simp [go_sem, F]; refine h _ ?_; obtain rfl := si hM; refine AW_ret ?_; simp [go_sem, F]
        · have g := h9; (try simp at g); have F := And.intro F (And.intro h9 g); refine AW_skip ?_; refine hK7 _ ?_; refine AW_seq fun K10 hK10 => ?_; obtain ⟨x2, e11, hM⟩ := bind_some hM; refine AW_sr fun K h => ?_; simp [go_sem, F]; refine by_c false (w_eqValue_ctr k a0.value a1.value x2 e11) ?_; simp [go_sem, F]; refine h _ ?_; refine AW_if hM (fun h12 hM => ?_) (fun h12 hM => ?_)
          · have g := h12; (try simp at g); have F := And.intro F (And.intro h12 g); refine AW_sr fun K h => ?_; simp [go_sem, F]; refine h _ ?_; obtain rfl := si hM; refine AW_ret ?_; simp [go_sem, F]
          · have g := h12; (try simp at g); have F := And.intro F (And.intro h12 g); refine AW_skip ?_; refine hK10 _ ?_; refine AW_seq fun K13 hK13 => ?_; refine AW_sr fun K h => ?_; simp [go_sem, F]; refine h _ ?_; refine AW_if hM (fun h14 hM => ?_) (fun h14 hM => ?_)
            · have g := h14; (try simp at g); have F := And.intro F (And.intro h14 g); refine AW_sr fun K h => ?_; simp [go_sem, F]; refine h _ ?_; obtain rfl := si hM; refine AW_ret ?_; simp [go_sem, F]
            · have g := h14; (try simp at g); have F := And.intro F (And.intro h14 g); refine AW_skip ?_; refine hK13 _ ?_; refine AW_sr fun K h => ?_; simp [go_sem, F]; refine h _ ?_; obtain rfl := si hM; refine AW_ret ?_; simp [go_sem, F]
theorem w_eqEntryS_ctr (k : Nat) (a0 : List TEntry) (a1 : List TEntry) (r : Bool) (hM : w_eqEntryS k a0 a1 = some r) : Ctr Tryz.prog 43 [.one (.sl (a0.map TEntry.c)), .one (.sl (a1.map TEntry.c))] true [.one (.bool r)] := by
  unfold w_eqEntryS at hM
  refine walkM Tryz.func43 Tryz.ntmps43 Tryz.results43 fun N w0 hbad F => ?_
  refine AW_sr fun K h => ?_; simp [go_sem, F]; refine h _ ?_; refine AW_seq fun K1 hK1 => ?_; refine AW_sr fun K h => ?_; simp [go_sem, F]; refine h _ ?_; refine AW_if hM (fun h2 hM => ?_) (fun h2 hM => ?_)
  · have g := h2; (try simp at g); have F := And.intro F (And.intro h2 g); refine AW_sr fun K h => ?_; simp [go_sem, F]; refine h _ ?_; obtain rfl := si hM; refine AW_ret ?_; simp [go_sem, F]
  · have g := h2; (try simp at g); have F := And.intro F (And.intro h2 g); refine AW_skip ?_; refine hK1 _ ?_; obtain ⟨e3, hU5, hR4⟩ := bind_some hM; clear hM; refine AW_mid (ι := Unit) (fun i => ⟨27, [], [], []⟩) (fun i => (.inl i) = e3) ?_ ?_
    · intro K6 hK6; have hM := hU5; clear hU5; refine AW_sr fun K h => ?_; simp [go_sem, F]; refine h _ ?_; refine AW_block ?_; refine AW_lp (ι := Int) (fun i => ⟨27, [(0, .one (.l (.sl (a0.map TEntry.c)))), (1, .one (.l (.sl (a1.map TEntry.c)))), (5, .one (.l (.int .i64 i)))], [], []⟩) (fun n i => w_eqEntryS_u1 k a0 a1 n i = some e3) k 0 hM (by simp [w_eqEntryS_u1]) ?_; intro KL7 n x1 hL7 hM F; have hM : w_eqEntryS_u1 k a0 a1 (n + 1) x1 = some e3 := hM; rw [w_eqEntryS_u1] at hM
      refine AW_seq fun K8 hK8 => ?_; refine AW_sr fun K h => ?_; simp [go_sem, F]; refine h _ ?_; refine AW_if hM (fun h9 hM => ?_) (fun h9 hM => ?_)
      · have g := h9; (try simp at g); have F := And.intro F (And.intro h9 (And.intro g (lT h9))); refine AW_skip ?_; refine hK8 _ ?_; refine AW_seq fun K10 hK10 => ?_; refine AW_block ?_; refine AW_seq fun K11 hK11 => ?_; obtain ⟨x2, e12, hM⟩ := bind_some hM; have F := And.intro F (at_f e12); obtain ⟨x3, e13, hM⟩ := bind_some hM; have F := And.intro F (at_f e13); obtain ⟨x4, e14, hM⟩ := bind_some hM
        refine AW_quickN 8 mixed (by kernel_rfl) (by kernel_rfl) ?_; simp [go_sem, F]; refine by_c false (w_eqEntry_ctr k x2 x3 x4 e14) ?_; simp [go_sem, F]; refine hK11 _ ?_; refine AW_if hM (fun h15 hM => ?_) (fun h15 hM => ?_)
        · have g := h15; (try simp at g); have F := And.intro F (And.intro h15 g); refine AW_sr fun K h => ?_; simp [go_sem, F]; refine h _ ?_; obtain rfl := si hM; have hM := hR4; dsimp only at hM; obtain rfl := si hM; refine AW_ret ?_; simp [go_sem, F]
        · have g := h15; (try simp at g); have F := And.intro F (And.intro h15 g); refine AW_skip ?_; refine hK10 _ ?_; refine AW_region ?_; simp [go_sem, F]; exact fin hL7 (IntKind.i64.wrap (x1 + 1)) hM
      · have g := h9; (try simp at g); have F := And.intro F (And.intro h9 (And.intro g (lF h9))); refine AW_exit ?_; obtain rfl := si hM; exact fin hK6 () rfl
    · rintro _ rfl; have hM := hR4; dsimp only at hM; refine AW_sr fun K h => ?_; simp [go_sem, F]; refine h _ ?_; obtain rfl := si hM; refine AW_ret ?_; simp [go_sem, F]
theorem w_eqEngine_ctr (k : Nat) (a0 : TEngine) (a1 : TEngine) (r : Bool) (hM : w_eqEngine k a0 a1 = some r) : Ctr Tryz.prog 11 [.agg (TEngine.c a0), .agg (TEngine.c a1)] true [.one (.bool r)] := by
  unfold w_eqEngine at hM
  refine walkM Tryz.func11 Tryz.ntmps11 Tryz.results11 fun N w0 hbad F => ?_
  refine AW_sr fun K h => ?_; simp [go_sem, F]; refine h _ ?_; refine AW_seq fun K1 hK1 => ?_; obtain ⟨x1, e2, hM⟩ := bind_some hM; refine AW_sr fun K h => ?_; simp [go_sem, F]; refine by_c false (w_eqNotebook_ctr k a0.notebook a1.notebook x1 e2) ?_; simp [go_sem, F]; refine h _ ?_; refine AW_if hM (fun h3 hM => ?_) (fun h3 hM => ?_)
  · have g := h3; (try simp at g); have F := And.intro F (And.intro h3 g); refine AW_sr fun K h => ?_; simp [go_sem, F]; refine h _ ?_; obtain rfl := si hM; refine AW_ret ?_; simp [go_sem, F]
  · have g := h3; (try simp at g); have F := And.intro F (And.intro h3 g); refine AW_skip ?_; refine hK1 _ ?_; refine AW_seq fun K4 hK4 => ?_; obtain ⟨x2, e5, hM⟩ := bind_some hM; refine AW_sr fun K h => ?_; simp [go_sem, F]; refine by_c false (w_eqWorld_ctr k a0.world a1.world x2 e5) ?_; simp [go_sem, F]; refine h _ ?_; refine AW_if hM (fun h6 hM => ?_) (fun h6 hM => ?_)
    · have g := h6; (try simp at g); have F := And.intro F (And.intro h6 g); refine AW_sr fun K h => ?_; simp [go_sem, F]; refine h _ ?_; obtain rfl := si hM; refine AW_ret ?_; simp [go_sem, F]
    · have g := h6; (try simp at g); have F := And.intro F (And.intro h6 g); refine AW_skip ?_; refine hK4 _ ?_; refine AW_seq fun K7 hK7 => ?_; obtain ⟨x3, e8, hM⟩ := bind_some hM; refine AW_sr fun K h => ?_; simp [go_sem, F]; refine by_c false (w_eqTapeS_ctr k a0.tapes a1.tapes x3 e8) ?_; simp [go_sem, F]; refine h _ ?_; refine AW_if hM (fun h9 hM => ?_) (fun h9 hM => ?_)
      · have g := h9; (try simp at g); have F := And.intro F (And.intro h9 g); refine AW_sr fun K h => ?_; simp [go_sem, F]; refine h _ ?_; obtain rfl := si hM; refine AW_ret ?_; simp [go_sem, F]
      · have g := h9; (try simp at g); have F := And.intro F (And.intro h9 g); refine AW_skip ?_; refine hK7 _ ?_; refine AW_seq fun K10 hK10 => ?_; obtain ⟨x4, e11, hM⟩ := bind_some hM; refine AW_sr fun K h => ?_; simp [go_sem, F]; refine by_c false (w_eqEntryS_ctr k a0.entries a1.entries x4 e11) ?_; simp [go_sem, F]; refine h _ ?_; refine AW_if hM (fun h12 hM => ?_) (fun h12 hM => ?_)
        · have g := h12; (try simp at g); have F := And.intro F (And.intro h12 g); refine AW_sr fun K h => ?_; simp [go_sem, F]; refine h _ ?_; obtain rfl := si hM; refine AW_ret ?_; simp [go_sem, F]
        · have g := h12; (try simp at g); have F := And.intro F (And.intro h12 g); refine AW_skip ?_; refine hK10 _ ?_; refine AW_seq fun K13 hK13 => ?_; refine AW_sr fun K h => ?_; simp [go_sem, F]; refine h _ ?_; refine AW_if hM (fun h14 hM => ?_) (fun h14 hM => ?_)
          · have g := h14; (try simp at g); have F := And.intro F (And.intro h14 g); refine AW_sr fun K h => ?_; simp [go_sem, F]; refine h _ ?_; obtain rfl := si hM; refine AW_ret ?_; simp [go_sem, F]
          · have g := h14; (try simp at g); have F := And.intro F (And.intro h14 g); refine AW_skip ?_; refine hK13 _ ?_; refine AW_seq fun K15 hK15 => ?_; refine AW_sr fun K h => ?_; simp [go_sem, F]; refine h _ ?_; refine AW_if hM (fun h16 hM => ?_) (fun h16 hM => ?_)
            · have g := h16; (try simp at g); have F := And.intro F (And.intro h16 g); refine AW_sr fun K h => ?_; simp [go_sem, F]; refine h _ ?_; obtain rfl := si hM; refine AW_ret ?_; simp [go_sem, F]
            · have g := h16; (try simp at g); have F := And.intro F (And.intro h16 g); refine AW_skip ?_; refine hK15 _ ?_; refine AW_seq fun K17 hK17 => ?_; refine AW_sr fun K h => ?_; simp [go_sem, F]; refine h _ ?_; refine AW_if hM (fun h18 hM => ?_) (fun h18 hM => ?_)
              · have g := h18; (try simp at g); have F := And.intro F (And.intro h18 g); refine AW_fz (σ' := ⟨44, [], [], []⟩) ?_; refine AW_sr fun K h => ?_; simp [go_sem, F]; refine h _ ?_; obtain rfl := si hM; refine AW_ret ?_; simp [go_sem, F]
              · have g := h18; (try simp at g); have F := And.intro F (And.intro h18 g); refine AW_skip ?_; refine hK17 _ ?_; refine AW_fz (σ' := ⟨44, [], [], []⟩) ?_; refine AW_sr fun K h => ?_; simp [go_sem, F]; refine h _ ?_; obtain rfl := si hM; refine AW_ret ?_; simp [go_sem, F]
end Go.Proofs.YtbknilpmpjjfpaaGreat
