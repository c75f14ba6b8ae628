/- Contracts of the program's functions: where the mirrored function answers, the program's function returns this answer. Written by a program of mine. -/
import Derived.Test.YtopjlbifglacpaaWn
import Derived.Test.YtopjlbifglacpaaMd
import Derived.Test.YtopjlbifglacpaaCt0
import Derived.Test.YtopjlbifglacpaaCt1
set_option linter.unusedSimpArgs false
set_option linter.unusedVariables false
namespace Go.Proofs.Ytopjlbifglacpaa
open Go.RowKit Am

set_option maxHeartbeats 4000000 in
set_option maxRecDepth 100000 in
theorem w_toChange_ctr (a0 : TChange) (r : TChange) (hM : w_toChange a0 = some r) : Ctr Try.prog 108 [.agg (TChange.c a0)] true [.agg (TChange.c r)] := by
  unfold w_toChange at hM
  refine Ctr.of_walk (by kernel_rfl) Try.func108 rfl Try.ntmps108 Try.results108 (by simp) ?_; intro N w0 hbad
  refine AW_seq fun K1 hK1 => ?_
  refine AW_region ?_
  simp (maxSteps := 10000000) [go_sem]
  refine hK1 _ ?_
  refine AW_seq fun K2 hK2 => ?_
  refine AW_region ?_
  simp (maxSteps := 10000000) [go_sem]
  refine hK2 _ ?_
  refine AW_seq fun K3 hK3 => ?_
  refine AW_region ?_
  simp (maxSteps := 10000000) [go_sem]
  refine hK3 _ ?_
  refine AW_seq fun K4 hK4 => ?_
  obtain ⟨x1, e5, hM⟩ := bind_some hM
  refine AW_region ?_
  simp (maxSteps := 10000000) [go_sem]
  refine by_ctr false (w_toLine_ctr a0.line x1 e5) (by simp (maxSteps := 10000000) [go_sem]) (by simp) ?_
  simp (maxSteps := 10000000) [go_sem]
  refine hK4 _ ?_
  refine AW_seq fun K6 hK6 => ?_
  refine AW_region ?_
  simp (maxSteps := 10000000) [go_sem]
  refine hK6 _ ?_
  obtain rfl := Option.some.inj hM
  refine AW_ret ?_
  simp (maxSteps := 10000000) [go_sem]
set_option maxHeartbeats 4000000 in
set_option maxRecDepth 100000 in
theorem w_toChangeS_ctr (k : Nat) (a0 : List TChange) (r : List TChange) (hM : w_toChangeS k a0 = some r) : Ctr Try.prog 67 [.one (.sl (a0.map TChange.c))] true [.one (.sl (r.map TChange.c))] := by
  unfold w_toChangeS at hM
  refine Ctr.of_walk (by kernel_rfl) Try.func67 rfl Try.ntmps67 Try.results67 (by simp) ?_; intro N w0 hbad
  refine AW_seq fun K1 hK1 => ?_
  refine AW_region ?_
  simp (maxSteps := 10000000) [go_sem]
  refine hK1 _ ?_
  refine AW_seq fun K2 hK2 => ?_
  obtain ⟨x1, e3, hM⟩ := bind_some hM
  obtain ⟨c4, s5, s6, s7⟩ := mk_spec e3
  subst c4
  try simp at s5
  try simp at s6
  try simp at s7
  refine AW_region ?_
  simp (maxSteps := 10000000) [go_sem, s5, s6, s7]
  refine hK2 _ ?_
  obtain ⟨e8, hU10, hR9⟩ := bind_some hM; clear hM
  refine AW_mid (ι := List TChange) (fun i => ⟨23, [(3, .one (.own 448 i.length))], [], [(448, some ⟨true, i.map TChange.c⟩)]⟩) (fun i => i = e8) ?_ ?_
  · intro K11 hK11
    have hM := hU10; clear hU10
    refine AW_seq fun K12 hK12 => ?_
    refine AW_region ?_
    simp (maxSteps := 10000000) [go_sem, s5, s6, s7]
    refine hK12 _ ?_
    refine AW_block ?_
    refine AW_go (ι := (List TChange) × Int) (fun i => ⟨23, [(0, .one (.l (.sl (a0.map TChange.c)))), (3, .one (.own 448 i.1.length)), (4, .one (.l (.int .i64 i.2)))], [], [(448, some ⟨true, i.1.map TChange.c⟩)]⟩) (fun n i => w_toChangeS_u1 a0 n i.1 i.2 = some e8) k ((List.replicate ((a0.length : Int).toNat) (TChange.mk 0 (TLine.mk 0 false (⟨#[]⟩ : ByteArray)))), 0) hM (Lift.into (by constructor <;> simp [go_sem, s5, s6, s7])) (fun _ h => by simp [w_toChangeS_u1] at h) ?_
    intro KL13 n ⟨x3, x4⟩ hL13 hM
    have hM : w_toChangeS_u1 a0 (n + 1) x3 x4 = some e8 := hM; rw [w_toChangeS_u1] at hM
    refine AW_seq fun K14 hK14 => ?_
    refine AW_seq fun K15 hK15 => ?_
    refine AW_region ?_
    simp (maxSteps := 10000000) [go_sem]
    refine hK15 _ ?_
    refine AW_cond (b := (decide (x4 < (a0.length : Int)))) (by simp (maxSteps := 10000000) [go_sem]) (fun h16 => ?_) (fun h16 => ?_)
    · rw [if_pos h16] at hM
      have h16' := h16; try simp at h16'
      have h16'' : ¬ ((a0.length : Int) ≤ x4) := by have := h16; simp at this; omega
      refine AW_skip ?_
      refine hK14 _ ?_
      refine AW_seq fun K17 hK17 => ?_
      refine AW_block ?_
      obtain ⟨x5, e18, hM⟩ := bind_some hM
      obtain ⟨p19, q20, l21, g22⟩ := at_spec e18
      obtain ⟨x6, e23, hM⟩ := bind_some hM
      obtain ⟨x7, e24, hM⟩ := bind_some hM
      obtain ⟨p25, q26, l27, g28⟩ := at_spec e24
      refine AW_region ?_
      simp (maxSteps := 10000000) [go_sem, h16, h16', h16'', p19, q20, g22, p25, q26, g28, l27]
      refine by_ctr false (w_toChange_ctr x5 x6 e23) (by simp (maxSteps := 10000000) [go_sem, h16, h16', h16'', p19, q20, g22, p25, q26, g28, l27]) (by simp) ?_
      simp (maxSteps := 10000000) [go_sem, h16, h16', h16'', p19, q20, g22, p25, q26, g28, l27]
      refine hK17 _ ?_
      refine AW_region ?_
      simp (maxSteps := 10000000) [go_sem, h16, h16', h16'', p19, q20, g22, p25, q26, g28, l27]
      exact hL13 ((x3.set x4.toNat x6), (IntKind.i64.wrap (x4 + 1))) _ hM (Lift.into (by constructor <;> simp [go_sem, h16, h16', h16'', p19, q20, g22, p25, q26, g28, l27]))
    · rw [if_neg (ne_true h16)] at hM
      have h16' := h16; try simp at h16'
      have h16'' : ¬ (x4 < (a0.length : Int)) := by have := h16; simp at this; omega
      refine AW_exit ?_
      obtain rfl := Option.some.inj hM
      exact hK11 x3 _ rfl (Lift.into (by constructor <;> simp [go_sem, h16, h16', h16'']))
  · rintro x2 rfl
    have hM := hR9
    try dsimp only at hM
    refine AW_seq fun K29 hK29 => ?_
    refine AW_region ?_
    simp (maxSteps := 10000000) [go_sem, s5, s6, s7]
    refine hK29 _ ?_
    obtain rfl := Option.some.inj hM
    refine AW_ret ?_
    simp (maxSteps := 10000000) [go_sem, s5, s6, s7]
set_option maxHeartbeats 4000000 in
set_option maxRecDepth 100000 in
theorem w_toDiff_ctr (k : Nat) (a0 : TDiff) (r : TDiff) (hM : w_toDiff k a0 = some r) : Ctr Try.prog 24 [.agg (TDiff.c a0)] true [.agg (TDiff.c r)] := by
  unfold w_toDiff at hM
  refine Ctr.of_walk (by kernel_rfl) Try.func24 rfl Try.ntmps24 Try.results24 (by simp) ?_; intro N w0 hbad
  refine AW_seq fun K1 hK1 => ?_
  refine AW_region ?_
  simp (maxSteps := 10000000) [go_sem]
  refine hK1 _ ?_
  refine AW_seq fun K2 hK2 => ?_
  refine AW_region ?_
  simp (maxSteps := 10000000) [go_sem]
  refine hK2 _ ?_
  refine AW_seq fun K3 hK3 => ?_
  refine AW_region ?_
  simp (maxSteps := 10000000) [go_sem]
  refine hK3 _ ?_
  refine AW_seq fun K4 hK4 => ?_
  obtain ⟨x1, e5, hM⟩ := bind_some hM
  refine AW_region ?_
  simp (maxSteps := 10000000) [go_sem]
  refine by_ctr false (w_toChangeS_ctr k a0.changes x1 e5) (by simp (maxSteps := 10000000) [go_sem]) (by simp) ?_
  simp (maxSteps := 10000000) [go_sem]
  refine hK4 _ ?_
  refine AW_seq fun K6 hK6 => ?_
  refine AW_region ?_
  simp (maxSteps := 10000000) [go_sem]
  refine hK6 _ ?_
  obtain rfl := Option.some.inj hM
  refine AW_ret ?_
  simp (maxSteps := 10000000) [go_sem]
set_option maxHeartbeats 4000000 in
set_option maxRecDepth 100000 in
theorem s_DiffSize_ctr (a0 : TDiff) (r : Int) (hM : s_DiffSize a0 = some r) : Ctr Try.prog 23 [.agg (TDiff.c a0)] true [.one (.int .i64 r)] := by
  unfold s_DiffSize at hM
  refine Ctr.of_walk (by kernel_rfl) Try.func23 rfl Try.ntmps23 Try.results23 (by simp) ?_; intro N w0 hbad
  refine AW_seq fun K1 hK1 => ?_
  refine AW_region ?_
  simp (maxSteps := 10000000) [go_sem]
  refine hK1 _ ?_
  refine AW_seq fun K2 hK2 => ?_
  refine AW_region ?_
  simp (maxSteps := 10000000) [go_sem]
  refine hK2 _ ?_
  obtain rfl := Option.some.inj hM
  refine AW_ret ?_
  simp (maxSteps := 10000000) [go_sem]
set_option maxHeartbeats 4000000 in
set_option maxRecDepth 100000 in
theorem i_DiffSize_ctr (a0 : TDiff) (r : Int) (hM : i_DiffSize a0 = some r) : Ctr Try.prog 25 [.agg (TDiff.c a0)] true [.one (.int .i64 r)] := by
  unfold i_DiffSize at hM
  refine Ctr.of_walk (by kernel_rfl) Try.func25 rfl Try.ntmps25 Try.results25 (by simp) ?_; intro N w0 hbad
  refine AW_seq fun K1 hK1 => ?_
  refine AW_region ?_
  simp (maxSteps := 10000000) [go_sem]
  refine hK1 _ ?_
  refine AW_seq fun K2 hK2 => ?_
  refine AW_region ?_
  simp (maxSteps := 10000000) [go_sem]
  refine hK2 _ ?_
  obtain rfl := Option.some.inj hM
  refine AW_ret ?_
  simp (maxSteps := 10000000) [go_sem]
set_option maxHeartbeats 4000000 in
set_option maxRecDepth 100000 in
theorem w_eqChange_ctr (a0 : TChange) (a1 : TChange) (r : Bool) (hM : w_eqChange a0 a1 = some r) : Ctr Try.prog 109 [.agg (TChange.c a0), .agg (TChange.c a1)] true [.one (.bool r)] := by
  unfold w_eqChange at hM
  refine Ctr.of_walk (by kernel_rfl) Try.func109 rfl Try.ntmps109 Try.results109 (by simp) ?_; intro N w0 hbad
  refine AW_seq fun K1 hK1 => ?_
  refine AW_region ?_
  simp (maxSteps := 10000000) [go_sem]
  refine hK1 _ ?_
  refine AW_seq fun K2 hK2 => ?_
  refine AW_seq fun K3 hK3 => ?_
  refine AW_region ?_
  simp (maxSteps := 10000000) [go_sem]
  refine hK3 _ ?_
  refine AW_cond (b := (!decide (a0.at_ = a1.at_))) (by simp (maxSteps := 10000000) [go_sem]) (fun h4 => ?_) (fun h4 => ?_)
  · rw [if_pos h4] at hM
    have h4' := h4; try simp at h4'
    refine AW_seq fun K5 hK5 => ?_
    refine AW_region ?_
    simp (maxSteps := 10000000) [go_sem, h4, h4']
    refine hK5 _ ?_
    obtain rfl := Option.some.inj hM
    refine AW_ret ?_
    simp (maxSteps := 10000000) [go_sem, h4, h4']
  · rw [if_neg (ne_true h4)] at hM
    have h4' := h4; try simp at h4'
    refine AW_skip ?_
    refine hK2 _ ?_
    refine AW_seq fun K6 hK6 => ?_
    refine AW_seq fun K7 hK7 => ?_
    obtain ⟨x1, e8, hM⟩ := bind_some hM
    refine AW_region ?_
    simp (maxSteps := 10000000) [go_sem, h4, h4']
    refine by_ctr false (w_eqLine_ctr a0.line a1.line x1 e8) (by simp (maxSteps := 10000000) [go_sem, h4, h4']) (by simp) ?_
    simp (maxSteps := 10000000) [go_sem, h4, h4']
    refine hK7 _ ?_
    refine AW_cond (b := (!x1)) (by simp (maxSteps := 10000000) [go_sem, h4, h4']) (fun h9 => ?_) (fun h9 => ?_)
    · rw [if_pos h9] at hM
      have h9' := h9; try simp at h9'
      refine AW_seq fun K10 hK10 => ?_
      refine AW_region ?_
      simp (maxSteps := 10000000) [go_sem, h4, h4', h9, h9']
      refine hK10 _ ?_
      obtain rfl := Option.some.inj hM
      refine AW_ret ?_
      simp (maxSteps := 10000000) [go_sem, h4, h4', h9, h9']
    · rw [if_neg (ne_true h9)] at hM
      have h9' := h9; try simp at h9'
      refine AW_skip ?_
      refine hK6 _ ?_
      refine AW_seq fun K11 hK11 => ?_
      refine AW_region ?_
      simp (maxSteps := 10000000) [go_sem, h4, h4', h9, h9']
      refine hK11 _ ?_
      obtain rfl := Option.some.inj hM
      refine AW_ret ?_
      simp (maxSteps := 10000000) [go_sem, h4, h4', h9, h9']
set_option maxHeartbeats 4000000 in
set_option maxRecDepth 100000 in
theorem w_eqChangeS_ctr (k : Nat) (a0 : List TChange) (a1 : List TChange) (r : Bool) (hM : w_eqChangeS k a0 a1 = some r) : Ctr Try.prog 68 [.one (.sl (a0.map TChange.c)), .one (.sl (a1.map TChange.c))] true [.one (.bool r)] := by
  unfold w_eqChangeS at hM
  refine Ctr.of_walk (by kernel_rfl) Try.func68 rfl Try.ntmps68 Try.results68 (by simp) ?_; intro N w0 hbad
  refine AW_seq fun K1 hK1 => ?_
  refine AW_region ?_
  simp (maxSteps := 10000000) [go_sem]
  refine hK1 _ ?_
  refine AW_seq fun K2 hK2 => ?_
  refine AW_seq fun K3 hK3 => ?_
  refine AW_region ?_
  simp (maxSteps := 10000000) [go_sem]
  refine hK3 _ ?_
  refine AW_cond (b := (!decide ((a0.length : Int) = (a1.length : Int)))) (by simp (maxSteps := 10000000) [go_sem]) (fun h4 => ?_) (fun h4 => ?_)
  · rw [if_pos h4] at hM
    have h4' := h4; try simp at h4'
    refine AW_seq fun K5 hK5 => ?_
    refine AW_region ?_
    simp (maxSteps := 10000000) [go_sem, h4, h4']
    refine hK5 _ ?_
    obtain rfl := Option.some.inj hM
    refine AW_ret ?_
    simp (maxSteps := 10000000) [go_sem, h4, h4']
  · rw [if_neg (ne_true h4)] at hM
    have h4' := h4; try simp at h4'
    refine AW_skip ?_
    refine hK2 _ ?_
    obtain ⟨e6, hU8, hR7⟩ := bind_some hM; clear hM
    refine AW_mid (ι := Unit) (fun i => ⟨27, [], [], []⟩) (fun i => (.inl i) = e6) ?_ ?_
    · intro K9 hK9
      have hM := hU8; clear hU8
      refine AW_seq fun K10 hK10 => ?_
      refine AW_region ?_
      simp (maxSteps := 10000000) [go_sem, h4, h4']
      refine hK10 _ ?_
      refine AW_block ?_
      refine AW_go (ι := Int) (fun i => ⟨27, [(0, .one (.l (.sl (a0.map TChange.c)))), (1, .one (.l (.sl (a1.map TChange.c)))), (5, .one (.l (.int .i64 i)))], [], []⟩) (fun n i => w_eqChangeS_u1 a0 a1 n i = some e6) k 0 hM (Lift.into (by constructor <;> simp [go_sem, h4, h4'])) (fun _ h => by simp [w_eqChangeS_u1] at h) ?_
      intro KL11 n x1 hL11 hM
      have hM : w_eqChangeS_u1 a0 a1 (n + 1) x1 = some e6 := hM; rw [w_eqChangeS_u1] at hM
      refine AW_seq fun K12 hK12 => ?_
      refine AW_seq fun K13 hK13 => ?_
      refine AW_region ?_
      simp (maxSteps := 10000000) [go_sem]
      refine hK13 _ ?_
      refine AW_cond (b := (decide (x1 < (a0.length : Int)))) (by simp (maxSteps := 10000000) [go_sem]) (fun h14 => ?_) (fun h14 => ?_)
      · rw [if_pos h14] at hM
        have h14' := h14; try simp at h14'
        have h14'' : ¬ ((a0.length : Int) ≤ x1) := by have := h14; simp at this; omega
        refine AW_skip ?_
        refine hK12 _ ?_
        refine AW_seq fun K15 hK15 => ?_
        refine AW_block ?_
        refine AW_seq fun K16 hK16 => ?_
        obtain ⟨x2, e17, hM⟩ := bind_some hM
        obtain ⟨p18, q19, l20, g21⟩ := at_spec e17
        obtain ⟨x3, e22, hM⟩ := bind_some hM
        obtain ⟨p23, q24, l25, g26⟩ := at_spec e22
        obtain ⟨x4, e27, hM⟩ := bind_some hM
        refine AW_quick [[], [], [0, 1], [0, 1, 2], [], [], [4, 5], [4, 5, 6], [0, 1, 2, 3, 4, 5, 6, 7], [0, 1, 2, 3, 4, 5, 6, 7, 8]] 8 mixed (by kernel_rfl) (by kernel_rfl) ?_
        simp (maxSteps := 10000000) [go_sem, h14, h14', h14'', p18, q19, g21, p23, q24, g26]
        refine by_ctr false (w_eqChange_ctr x2 x3 x4 e27) (by simp (maxSteps := 10000000) [go_sem, h14, h14', h14'', p18, q19, g21, p23, q24, g26]) (by simp) ?_
        simp (maxSteps := 10000000) [go_sem, h14, h14', h14'', p18, q19, g21, p23, q24, g26]
        refine hK16 _ ?_
        refine AW_cond (b := (!x4)) (by simp (maxSteps := 10000000) [go_sem, h14, h14', h14'', p18, q19, g21, p23, q24, g26]) (fun h28 => ?_) (fun h28 => ?_)
        · rw [if_pos h28] at hM
          have h28' := h28; try simp at h28'
          refine AW_seq fun K29 hK29 => ?_
          refine AW_region ?_
          simp (maxSteps := 10000000) [go_sem, h14, h14', h14'', p18, q19, g21, p23, q24, g26, h28, h28']
          refine hK29 _ ?_
          obtain rfl := Option.some.inj hM
          have hM := hR7; dsimp only at hM
          obtain rfl := Option.some.inj hM
          refine AW_ret ?_
          simp (maxSteps := 10000000) [go_sem, h14, h14', h14'', p18, q19, g21, p23, q24, g26, h28, h28']
        · rw [if_neg (ne_true h28)] at hM
          have h28' := h28; try simp at h28'
          refine AW_skip ?_
          refine hK15 _ ?_
          refine AW_region ?_
          simp (maxSteps := 10000000) [go_sem, h14, h14', h14'', p18, q19, g21, p23, q24, g26, h28, h28']
          exact hL11 (IntKind.i64.wrap (x1 + 1)) _ hM (Lift.into (by constructor <;> simp [go_sem, h14, h14', h14'', p18, q19, g21, p23, q24, g26, h28, h28']))
      · rw [if_neg (ne_true h14)] at hM
        have h14' := h14; try simp at h14'
        have h14'' : ¬ (x1 < (a0.length : Int)) := by have := h14; simp at this; omega
        refine AW_exit ?_
        obtain rfl := Option.some.inj hM
        exact hK9 () _ rfl (Lift.into (by constructor <;> simp [go_sem, h14, h14', h14'']))
    · rintro _ rfl
      have hM := hR7
      dsimp only at hM
      refine AW_seq fun K30 hK30 => ?_
      refine AW_region ?_
      simp (maxSteps := 10000000) [go_sem, h4, h4']
      refine hK30 _ ?_
      obtain rfl := Option.some.inj hM
      refine AW_ret ?_
      simp (maxSteps := 10000000) [go_sem, h4, h4']
set_option maxHeartbeats 4000000 in
set_option maxRecDepth 100000 in
theorem w_eqDiff_ctr (k : Nat) (a0 : TDiff) (a1 : TDiff) (r : Bool) (hM : w_eqDiff k a0 a1 = some r) : Ctr Try.prog 26 [.agg (TDiff.c a0), .agg (TDiff.c a1)] true [.one (.bool r)] := by
  unfold w_eqDiff at hM
  refine Ctr.of_walk (by kernel_rfl) Try.func26 rfl Try.ntmps26 Try.results26 (by simp) ?_; intro N w0 hbad
  refine AW_seq fun K1 hK1 => ?_
  refine AW_region ?_
  simp (maxSteps := 10000000) [go_sem]
  refine hK1 _ ?_
  refine AW_seq fun K2 hK2 => ?_
  refine AW_seq fun K3 hK3 => ?_
  refine AW_region ?_
  simp (maxSteps := 10000000) [go_sem]
  refine hK3 _ ?_
  refine AW_cond (b := (!decide (a0.length = a1.length))) (by simp (maxSteps := 10000000) [go_sem]) (fun h4 => ?_) (fun h4 => ?_)
  · rw [if_pos h4] at hM
    have h4' := h4; try simp at h4'
    refine AW_seq fun K5 hK5 => ?_
    refine AW_region ?_
    simp (maxSteps := 10000000) [go_sem, h4, h4']
    refine hK5 _ ?_
    obtain rfl := Option.some.inj hM
    refine AW_ret ?_
    simp (maxSteps := 10000000) [go_sem, h4, h4']
  · rw [if_neg (ne_true h4)] at hM
    have h4' := h4; try simp at h4'
    refine AW_skip ?_
    refine hK2 _ ?_
    refine AW_seq fun K6 hK6 => ?_
    refine AW_seq fun K7 hK7 => ?_
    obtain ⟨x1, e8, hM⟩ := bind_some hM
    refine AW_region ?_
    simp (maxSteps := 10000000) [go_sem, h4, h4']
    refine by_ctr false (w_eqChangeS_ctr k a0.changes a1.changes x1 e8) (by simp (maxSteps := 10000000) [go_sem, h4, h4']) (by simp) ?_
    simp (maxSteps := 10000000) [go_sem, h4, h4']
    refine hK7 _ ?_
    refine AW_cond (b := (!x1)) (by simp (maxSteps := 10000000) [go_sem, h4, h4']) (fun h9 => ?_) (fun h9 => ?_)
    · rw [if_pos h9] at hM
      have h9' := h9; try simp at h9'
      refine AW_seq fun K10 hK10 => ?_
      refine AW_region ?_
      simp (maxSteps := 10000000) [go_sem, h4, h4', h9, h9']
      refine hK10 _ ?_
      obtain rfl := Option.some.inj hM
      refine AW_ret ?_
      simp (maxSteps := 10000000) [go_sem, h4, h4', h9, h9']
    · rw [if_neg (ne_true h9)] at hM
      have h9' := h9; try simp at h9'
      refine AW_skip ?_
      refine hK6 _ ?_
      refine AW_seq fun K11 hK11 => ?_
      refine AW_region ?_
      simp (maxSteps := 10000000) [go_sem, h4, h4', h9, h9']
      refine hK11 _ ?_
      obtain rfl := Option.some.inj hM
      refine AW_ret ?_
      simp (maxSteps := 10000000) [go_sem, h4, h4', h9, h9']
set_option maxHeartbeats 4000000 in
set_option maxRecDepth 100000 in
theorem w_FnExactDiffSize_ctr (k : Nat) (a0 : TDiff) (r : Bool) (hM : w_FnExactDiffSize k a0 = some r) : Ctr Try.prog 5 [.agg (TDiff.c a0)] true [.one (.bool r)] := by
  unfold w_FnExactDiffSize at hM
  refine Ctr.of_walk (by kernel_rfl) Try.func5 rfl Try.ntmps5 Try.results5 (by simp) ?_; intro N w0 hbad
  refine AW_seq fun K1 hK1 => ?_
  refine AW_region ?_
  simp (maxSteps := 10000000) [go_sem]
  refine hK1 _ ?_
  refine AW_seq fun K2 hK2 => ?_
  refine AW_region ?_
  simp (maxSteps := 10000000) [go_sem]
  refine hK2 _ ?_
  refine AW_seq fun K3 hK3 => ?_
  obtain ⟨x1, e4, hM⟩ := bind_some hM
  refine AW_region ?_
  simp (maxSteps := 10000000) [go_sem]
  refine by_ctr false (w_szDiff_ctr k a0 1048576 x1 e4) (by simp (maxSteps := 10000000) [go_sem]) (by simp) ?_
  simp (maxSteps := 10000000) [go_sem]
  refine hK3 _ ?_
  refine AW_seq fun K5 hK5 => ?_
  refine AW_seq fun K6 hK6 => ?_
  refine AW_region ?_
  simp (maxSteps := 10000000) [go_sem]
  refine hK6 _ ?_
  refine AW_cond (b := (decide (x1 < 0))) (by simp (maxSteps := 10000000) [go_sem]) (fun h7 => ?_) (fun h7 => ?_)
  · rw [if_pos h7] at hM
    have h7' := h7; try simp at h7'
    have h7'' : ¬ (0 ≤ x1) := by have := h7; simp at this; omega
    refine AW_seq fun K8 hK8 => ?_
    refine AW_region ?_
    simp (maxSteps := 10000000) [go_sem, h7, h7', h7'']
    refine hK8 _ ?_
    obtain rfl := Option.some.inj hM
    refine AW_ret ?_
    simp (maxSteps := 10000000) [go_sem, h7, h7', h7'']
  · rw [if_neg (ne_true h7)] at hM
    have h7' := h7; try simp at h7'
    have h7'' : ¬ (x1 < 0) := by have := h7; simp at this; omega
    refine AW_skip ?_
    refine hK5 _ ?_
    refine AW_seq fun K9 hK9 => ?_
    obtain ⟨x2, e10, hM⟩ := bind_some hM
    obtain ⟨x3, e11, hM⟩ := bind_some hM
    refine AW_region ?_
    simp (maxSteps := 10000000) [go_sem, h7, h7', h7'']
    refine by_ctr false (w_toDiff_ctr k a0 x2 e10) (by simp (maxSteps := 10000000) [go_sem, h7, h7', h7'']) (by simp) ?_
    simp (maxSteps := 10000000) [go_sem, h7, h7', h7'']
    refine by_ctr false (s_DiffSize_ctr x2 x3 e11) (by simp (maxSteps := 10000000) [go_sem, h7, h7', h7'']) (by simp) ?_
    simp (maxSteps := 10000000) [go_sem, h7, h7', h7'']
    refine hK9 _ ?_
    refine AW_seq fun K12 hK12 => ?_
    obtain ⟨x4, e13, hM⟩ := bind_some hM
    refine AW_region ?_
    simp (maxSteps := 10000000) [go_sem, h7, h7', h7'']
    refine by_ctr false (w_toDiff_ctr k a0 x4 e13) (by simp (maxSteps := 10000000) [go_sem, h7, h7', h7'']) (by simp) ?_
    simp (maxSteps := 10000000) [go_sem, h7, h7', h7'']
    refine hK12 _ ?_
    refine AW_seq fun K14 hK14 => ?_
    obtain ⟨x5, e15, hM⟩ := bind_some hM
    refine AW_region ?_
    simp (maxSteps := 10000000) [go_sem, h7, h7', h7'']
    refine by_ctr false (i_DiffSize_ctr x4 x5 e15) (by simp (maxSteps := 10000000) [go_sem, h7, h7', h7'']) (by simp) ?_
    simp (maxSteps := 10000000) [go_sem, h7, h7', h7'']
    refine hK14 _ ?_
    refine AW_seq fun K16 hK16 => ?_
    refine AW_seq fun K17 hK17 => ?_
    refine AW_region ?_
    simp (maxSteps := 10000000) [go_sem, h7, h7', h7'']
    refine hK17 _ ?_
    refine AW_cond (b := (!decide (x5 = x3))) (by simp (maxSteps := 10000000) [go_sem, h7, h7', h7'']) (fun h18 => ?_) (fun h18 => ?_)
    · rw [if_pos h18] at hM
      have h18' := h18; try simp at h18'
      refine AW_seq fun K19 hK19 => ?_
      refine AW_region ?_
      simp (maxSteps := 10000000) [go_sem, h7, h7', h7'', h18, h18']
      refine hK19 _ ?_
      obtain rfl := Option.some.inj hM
      refine AW_ret ?_
      simp (maxSteps := 10000000) [go_sem, h7, h7', h7'', h18, h18']
    · rw [if_neg (ne_true h18)] at hM
      have h18' := h18; try simp at h18'
      refine AW_skip ?_
      refine hK16 _ ?_
      refine AW_seq fun K20 hK20 => ?_
      refine AW_seq fun K21 hK21 => ?_
      obtain ⟨x6, e22, hM⟩ := bind_some hM
      obtain ⟨x7, e23, hM⟩ := bind_some hM
      refine AW_open [[], [], [1], [0, 1, 2], [0, 1, 2, 3]] mixed (by kernel_rfl) ?_
      simp (maxSteps := 10000000) [go_sem, h7, h7', h7'', h18, h18']
      refine by_ctr false (w_toDiff_ctr k a0 x6 e22) (by simp (maxSteps := 10000000) [go_sem, h7, h7', h7'', h18, h18']) (by simp) ?_
      simp (maxSteps := 10000000) [go_sem, h7, h7', h7'', h18, h18']
      refine by_ctr false (w_eqDiff_ctr k x4 x6 x7 e23) (by simp (maxSteps := 10000000) [go_sem, h7, h7', h7'', h18, h18']) (by simp) ?_
      simp (maxSteps := 10000000) [go_sem, h7, h7', h7'', h18, h18']
      refine hK21 _ ?_
      refine AW_cond (b := (!x7)) (by simp (maxSteps := 10000000) [go_sem, h7, h7', h7'', h18, h18']) (fun h24 => ?_) (fun h24 => ?_)
      · rw [if_pos h24] at hM
        have h24' := h24; try simp at h24'
        refine AW_seq fun K25 hK25 => ?_
        refine AW_region ?_
        simp (maxSteps := 10000000) [go_sem, h7, h7', h7'', h18, h18', h24, h24']
        refine hK25 _ ?_
        obtain rfl := Option.some.inj hM
        refine AW_ret ?_
        simp (maxSteps := 10000000) [go_sem, h7, h7', h7'', h18, h18', h24, h24']
      · rw [if_neg (ne_true h24)] at hM
        have h24' := h24; try simp at h24'
        refine AW_skip ?_
        refine hK20 _ ?_
        refine AW_seq fun K26 hK26 => ?_
        refine AW_region ?_
        simp (maxSteps := 10000000) [go_sem, h7, h7', h7'', h18, h18', h24, h24']
        refine hK26 _ ?_
        obtain rfl := Option.some.inj hM
        refine AW_ret ?_
        simp (maxSteps := 10000000) [go_sem, h7, h7', h7'', h18, h18', h24, h24']
set_option maxHeartbeats 4000000 in
set_option maxRecDepth 100000 in
theorem s_ShownCells_ctr (k : Nat) (a0 : List TLine) (r : List Int) (hM : s_ShownCells k a0 = some r) : Ctr Try.prog 27 [.one (.sl (a0.map TLine.c))] true [.one (.sl (r.map iC))] := by
  unfold s_ShownCells at hM
  refine Ctr.of_walk (by kernel_rfl) Try.func27 rfl Try.ntmps27 Try.results27 (by simp) ?_; intro N w0 hbad
  refine AW_seq fun K1 hK1 => ?_
  refine AW_region ?_
  simp (maxSteps := 10000000) [go_sem]
  refine hK1 _ ?_
  refine AW_seq fun K2 hK2 => ?_
  refine AW_region ?_
  simp (maxSteps := 10000000) [go_sem]
  refine hK2 _ ?_
  obtain ⟨e3, hU5, hR4⟩ := bind_some hM; clear hM
  refine AW_mid (ι := List Int) (fun i => ⟨21, [(3, .one (.own 320 i.length))], [], [(320, some ⟨true, i.map iC⟩)]⟩) (fun i => i = e3) ?_ ?_
  · intro K6 hK6
    have hM := hU5; clear hU5
    refine AW_seq fun K7 hK7 => ?_
    refine AW_region ?_
    simp (maxSteps := 10000000) [go_sem]
    refine hK7 _ ?_
    refine AW_block ?_
    refine AW_go (ι := (List Int) × Int) (fun i => ⟨21, [(0, .one (.l (.sl (a0.map TLine.c)))), (3, .one (.own 320 i.1.length)), (4, .one (.l (.int .i64 i.2)))], [], [(320, some ⟨true, i.1.map iC⟩)]⟩) (fun n i => s_ShownCells_u1 a0 n i.1 i.2 = some e3) k (([] : List Int), 0) hM (Lift.into (by constructor <;> simp [go_sem])) (fun _ h => by simp [s_ShownCells_u1] at h) ?_
    intro KL8 n ⟨x2, x3⟩ hL8 hM
    have hM : s_ShownCells_u1 a0 (n + 1) x2 x3 = some e3 := hM; rw [s_ShownCells_u1] at hM
    refine AW_seq fun K9 hK9 => ?_
    refine AW_seq fun K10 hK10 => ?_
    refine AW_region ?_
    simp (maxSteps := 10000000) [go_sem]
    refine hK10 _ ?_
    refine AW_cond (b := (decide (x3 < (a0.length : Int)))) (by simp (maxSteps := 10000000) [go_sem]) (fun h11 => ?_) (fun h11 => ?_)
    · rw [if_pos h11] at hM
      have h11' := h11; try simp at h11'
      have h11'' : ¬ ((a0.length : Int) ≤ x3) := by have := h11; simp at this; omega
      refine AW_skip ?_
      refine hK9 _ ?_
      refine AW_seq fun K12 hK12 => ?_
      refine AW_block ?_
      obtain ⟨x4, e13, hM⟩ := bind_some hM
      obtain ⟨p14, q15, l16, g17⟩ := at_spec e13
      obtain ⟨x5, e18, hM⟩ := bind_some hM
      obtain ⟨c19, s20, s21⟩ := app_spec e18
      subst c19
      try simp at s20
      try simp at s21
      refine AW_region ?_
      simp (maxSteps := 10000000) [go_sem, h11, h11', h11'', p14, q15, g17, s20, s21]
      refine hK12 _ ?_
      refine AW_region ?_
      simp (maxSteps := 10000000) [go_sem, h11, h11', h11'', p14, q15, g17, s20, s21]
      exact hL8 ((x2 ++ [x4.cell]), (IntKind.i64.wrap (x3 + 1))) _ hM (Lift.into (by constructor <;> simp [go_sem, h11, h11', h11'', p14, q15, g17, s20, s21]))
    · rw [if_neg (ne_true h11)] at hM
      have h11' := h11; try simp at h11'
      have h11'' : ¬ (x3 < (a0.length : Int)) := by have := h11; simp at this; omega
      refine AW_exit ?_
      obtain rfl := Option.some.inj hM
      exact hK6 x2 _ rfl (Lift.into (by constructor <;> simp [go_sem, h11, h11', h11'']))
  · rintro x1 rfl
    have hM := hR4
    try dsimp only at hM
    refine AW_seq fun K22 hK22 => ?_
    refine AW_region ?_
    simp (maxSteps := 10000000) [go_sem]
    refine hK22 _ ?_
    obtain rfl := Option.some.inj hM
    refine AW_ret ?_
    simp (maxSteps := 10000000) [go_sem]
set_option maxHeartbeats 4000000 in
set_option maxRecDepth 100000 in
theorem i_ShownCells_ctr (k : Nat) (a0 : List TLine) (r : List Int) (hM : i_ShownCells k a0 = some r) : Ctr Try.prog 28 [.one (.sl (a0.map TLine.c))] true [.one (.sl (r.map iC))] := by
  unfold i_ShownCells at hM
  refine Ctr.of_walk (by kernel_rfl) Try.func28 rfl Try.ntmps28 Try.results28 (by simp) ?_; intro N w0 hbad
  refine AW_seq fun K1 hK1 => ?_
  refine AW_region ?_
  simp (maxSteps := 10000000) [go_sem]
  refine hK1 _ ?_
  refine AW_seq fun K2 hK2 => ?_
  refine AW_region ?_
  simp (maxSteps := 10000000) [go_sem]
  refine hK2 _ ?_
  obtain ⟨e3, hU5, hR4⟩ := bind_some hM; clear hM
  refine AW_mid (ι := List Int) (fun i => ⟨20, [(3, .one (.own 384 i.length))], [], [(384, some ⟨true, i.map iC⟩)]⟩) (fun i => i = e3) ?_ ?_
  · intro K6 hK6
    have hM := hU5; clear hU5
    refine AW_seq fun K7 hK7 => ?_
    refine AW_region ?_
    simp (maxSteps := 10000000) [go_sem]
    refine hK7 _ ?_
    refine AW_block ?_
    refine AW_go (ι := (List Int) × Int) (fun i => ⟨20, [(3, .one (.own 384 i.1.length)), (7, .one (.l (.sl (a0.map TLine.c)))), (8, .one (.l (.int .i64 (a0.length : Int)))), (9, .one (.l (.int .i64 i.2)))], [], [(384, some ⟨true, i.1.map iC⟩)]⟩) (fun n i => i_ShownCells_u1 a0 n i.1 i.2 = some e3) k (([] : List Int), 0) hM (Lift.into (by constructor <;> simp [go_sem])) (fun _ h => by simp [i_ShownCells_u1] at h) ?_
    intro KL8 n ⟨x2, x3⟩ hL8 hM
    have hM : i_ShownCells_u1 a0 (n + 1) x2 x3 = some e3 := hM; rw [i_ShownCells_u1] at hM
    refine AW_seq fun K9 hK9 => ?_
    refine AW_region ?_
    simp (maxSteps := 10000000) [go_sem]
    refine hK9 _ ?_
    refine AW_seq fun K10 hK10 => ?_
    refine AW_cond (b := (decide (x3 < (a0.length : Int)))) (by simp (maxSteps := 10000000) [go_sem]) (fun h11 => ?_) (fun h11 => ?_)
    · rw [if_pos h11] at hM
      have h11' := h11; try simp at h11'
      have h11'' : ¬ ((a0.length : Int) ≤ x3) := by have := h11; simp at this; omega
      refine AW_skip ?_
      refine hK10 _ ?_
      refine AW_seq fun K12 hK12 => ?_
      refine AW_block ?_
      refine AW_seq fun K13 hK13 => ?_
      obtain ⟨x4, e14, hM⟩ := bind_some hM
      obtain ⟨p15, q16, l17, g18⟩ := at_spec e14
      refine AW_region ?_
      simp (maxSteps := 10000000) [go_sem, h11, h11', h11'', p15, q16, g18]
      refine hK13 _ ?_
      obtain ⟨x5, e19, hM⟩ := bind_some hM
      obtain ⟨c20, s21, s22⟩ := app_spec e19
      subst c20
      try simp at s21
      try simp at s22
      refine AW_region ?_
      simp (maxSteps := 10000000) [go_sem, h11, h11', h11'', p15, q16, g18, s21, s22]
      refine hK12 _ ?_
      refine AW_region ?_
      simp (maxSteps := 10000000) [go_sem, h11, h11', h11'', p15, q16, g18, s21, s22]
      exact hL8 ((x2 ++ [x4.cell]), (IntKind.i64.wrap (x3 + 1))) _ hM (Lift.into (by constructor <;> simp [go_sem, h11, h11', h11'', p15, q16, g18, s21, s22]))
    · rw [if_neg (ne_true h11)] at hM
      have h11' := h11; try simp at h11'
      have h11'' : ¬ (x3 < (a0.length : Int)) := by have := h11; simp at this; omega
      refine AW_exit ?_
      obtain rfl := Option.some.inj hM
      exact hK6 x2 _ rfl (Lift.into (by constructor <;> simp [go_sem, h11, h11', h11'']))
  · rintro x1 rfl
    have hM := hR4
    try dsimp only at hM
    refine AW_seq fun K23 hK23 => ?_
    refine AW_region ?_
    simp (maxSteps := 10000000) [go_sem]
    refine hK23 _ ?_
    obtain rfl := Option.some.inj hM
    refine AW_ret ?_
    simp (maxSteps := 10000000) [go_sem]
set_option maxHeartbeats 4000000 in
set_option maxRecDepth 100000 in
theorem w_eqIntS_ctr (k : Nat) (a0 : List Int) (a1 : List Int) (r : Bool) (hM : w_eqIntS k a0 a1 = some r) : Ctr Try.prog 29 [.one (.sl (a0.map iC)), .one (.sl (a1.map iC))] true [.one (.bool r)] := by
  unfold w_eqIntS at hM
  refine Ctr.of_walk (by kernel_rfl) Try.func29 rfl Try.ntmps29 Try.results29 (by simp) ?_; intro N w0 hbad
  refine AW_seq fun K1 hK1 => ?_
  refine AW_region ?_
  simp (maxSteps := 10000000) [go_sem]
  refine hK1 _ ?_
  refine AW_seq fun K2 hK2 => ?_
  refine AW_seq fun K3 hK3 => ?_
  refine AW_region ?_
  simp (maxSteps := 10000000) [go_sem]
  refine hK3 _ ?_
  refine AW_cond (b := (!decide ((a0.length : Int) = (a1.length : Int)))) (by simp (maxSteps := 10000000) [go_sem]) (fun h4 => ?_) (fun h4 => ?_)
  · rw [if_pos h4] at hM
    have h4' := h4; try simp at h4'
    refine AW_seq fun K5 hK5 => ?_
    refine AW_region ?_
    simp (maxSteps := 10000000) [go_sem, h4, h4']
    refine hK5 _ ?_
    obtain rfl := Option.some.inj hM
    refine AW_ret ?_
    simp (maxSteps := 10000000) [go_sem, h4, h4']
  · rw [if_neg (ne_true h4)] at hM
    have h4' := h4; try simp at h4'
    refine AW_skip ?_
    refine hK2 _ ?_
    obtain ⟨e6, hU8, hR7⟩ := bind_some hM; clear hM
    refine AW_mid (ι := Unit) (fun i => ⟨26, [], [], []⟩) (fun i => (.inl i) = e6) ?_ ?_
    · intro K9 hK9
      have hM := hU8; clear hU8
      refine AW_seq fun K10 hK10 => ?_
      refine AW_region ?_
      simp (maxSteps := 10000000) [go_sem, h4, h4']
      refine hK10 _ ?_
      refine AW_block ?_
      refine AW_go (ι := Int) (fun i => ⟨26, [(0, .one (.l (.sl (a0.map iC)))), (1, .one (.l (.sl (a1.map iC)))), (5, .one (.l (.int .i64 i)))], [], []⟩) (fun n i => w_eqIntS_u1 a0 a1 n i = some e6) k 0 hM (Lift.into (by constructor <;> simp [go_sem, h4, h4'])) (fun _ h => by simp [w_eqIntS_u1] at h) ?_
      intro KL11 n x1 hL11 hM
      have hM : w_eqIntS_u1 a0 a1 (n + 1) x1 = some e6 := hM; rw [w_eqIntS_u1] at hM
      refine AW_seq fun K12 hK12 => ?_
      refine AW_seq fun K13 hK13 => ?_
      refine AW_region ?_
      simp (maxSteps := 10000000) [go_sem]
      refine hK13 _ ?_
      refine AW_cond (b := (decide (x1 < (a0.length : Int)))) (by simp (maxSteps := 10000000) [go_sem]) (fun h14 => ?_) (fun h14 => ?_)
      · rw [if_pos h14] at hM
        have h14' := h14; try simp at h14'
        have h14'' : ¬ ((a0.length : Int) ≤ x1) := by have := h14; simp at this; omega
        refine AW_skip ?_
        refine hK12 _ ?_
        refine AW_seq fun K15 hK15 => ?_
        refine AW_block ?_
        refine AW_seq fun K16 hK16 => ?_
        obtain ⟨x2, e17, hM⟩ := bind_some hM
        obtain ⟨p18, q19, l20, g21⟩ := at_spec e17
        obtain ⟨x3, e22, hM⟩ := bind_some hM
        obtain ⟨p23, q24, l25, g26⟩ := at_spec e22
        refine AW_quick [[], [], [0, 1], [0, 1, 2], [], [], [4, 5], [4, 5, 6], [0, 1, 2, 3, 4, 5, 6, 7]] 8 mixed (by kernel_rfl) (by kernel_rfl) ?_
        simp (maxSteps := 10000000) [go_sem, h14, h14', h14'', p18, q19, g21, p23, q24, g26]
        refine hK16 _ ?_
        refine AW_cond (b := (!decide (x2 = x3))) (by simp (maxSteps := 10000000) [go_sem, h14, h14', h14'', p18, q19, g21, p23, q24, g26]) (fun h27 => ?_) (fun h27 => ?_)
        · rw [if_pos h27] at hM
          have h27' := h27; try simp at h27'
          refine AW_seq fun K28 hK28 => ?_
          refine AW_region ?_
          simp (maxSteps := 10000000) [go_sem, h14, h14', h14'', p18, q19, g21, p23, q24, g26, h27, h27']
          refine hK28 _ ?_
          obtain rfl := Option.some.inj hM
          have hM := hR7; dsimp only at hM
          obtain rfl := Option.some.inj hM
          refine AW_ret ?_
          simp (maxSteps := 10000000) [go_sem, h14, h14', h14'', p18, q19, g21, p23, q24, g26, h27, h27']
        · rw [if_neg (ne_true h27)] at hM
          have h27' := h27; try simp at h27'
          refine AW_skip ?_
          refine hK15 _ ?_
          refine AW_region ?_
          simp (maxSteps := 10000000) [go_sem, h14, h14', h14'', p18, q19, g21, p23, q24, g26, h27, h27']
          exact hL11 (IntKind.i64.wrap (x1 + 1)) _ hM (Lift.into (by constructor <;> simp [go_sem, h14, h14', h14'', p18, q19, g21, p23, q24, g26, h27, h27']))
      · rw [if_neg (ne_true h14)] at hM
        have h14' := h14; try simp at h14'
        have h14'' : ¬ (x1 < (a0.length : Int)) := by have := h14; simp at this; omega
        refine AW_exit ?_
        obtain rfl := Option.some.inj hM
        exact hK9 () _ rfl (Lift.into (by constructor <;> simp [go_sem, h14, h14', h14'']))
    · rintro _ rfl
      have hM := hR7
      dsimp only at hM
      refine AW_seq fun K29 hK29 => ?_
      refine AW_region ?_
      simp (maxSteps := 10000000) [go_sem, h4, h4']
      refine hK29 _ ?_
      obtain rfl := Option.some.inj hM
      refine AW_ret ?_
      simp (maxSteps := 10000000) [go_sem, h4, h4']
end Go.Proofs.Ytopjlbifglacpaa
