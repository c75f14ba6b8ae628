/- Contracts of the program's functions: where the mirrored function answers, the program's function returns this answer. Written by a program of mine. -/
import Derived.Test.YtopjlbifglacpaaWn
import Derived.Test.YtopjlbifglacpaaMd
set_option linter.unusedSimpArgs false
set_option linter.unusedVariables false
namespace Go.Proofs.Ytopjlbifglacpaa
open Go.RowKit Am

set_option maxHeartbeats 4000000 in
set_option maxRecDepth 100000 in
theorem w_szLine_ctr (a0 : TLine) (a1 : Int) (r : Int) (hM : w_szLine a0 a1 = some r) : Ctr Try.prog 59 [.agg (TLine.c a0), .one (.int .i64 a1)] true [.one (.int .i64 r)] := by
  unfold w_szLine at hM
  refine Ctr.of_walk (by kernel_rfl) Try.func59 rfl Try.ntmps59 Try.results59 (by simp) ?_; intro N w0 hbad
  refine AW_seq fun K1 hK1 => ?_
  refine AW_region ?_
  simp (maxSteps := 10000000) [go_sem]
  refine hK1 _ ?_
  refine AW_seq fun K2 hK2 => ?_
  refine AW_region ?_
  simp (maxSteps := 10000000) [go_sem]
  refine hK2 _ ?_
  refine AW_seq fun K3 hK3 => ?_
  refine AW_seq fun K4 hK4 => ?_
  refine AW_region ?_
  simp (maxSteps := 10000000) [go_sem]
  refine hK4 _ ?_
  refine AW_cond (b := (decide ((IntKind.i64.wrap (a1 - (a0.text.size : Int))) < 0))) (by simp (maxSteps := 10000000) [go_sem]) (fun h5 => ?_) (fun h5 => ?_)
  · rw [if_pos h5] at hM
    have h5' := h5; try simp at h5'
    have h5'' : ¬ (0 ≤ (IntKind.i64.wrap (a1 - (a0.text.size : Int)))) := by have := h5; simp at this; omega
    refine AW_seq fun K6 hK6 => ?_
    refine AW_region ?_
    simp (maxSteps := 10000000) [go_sem, h5, h5', h5'']
    refine hK6 _ ?_
    obtain rfl := Option.some.inj hM
    refine AW_ret ?_
    simp (maxSteps := 10000000) [go_sem, h5, h5', h5'']
  · rw [if_neg (ne_true h5)] at hM
    have h5' := h5; try simp at h5'
    have h5'' : ¬ ((IntKind.i64.wrap (a1 - (a0.text.size : Int))) < 0) := by have := h5; simp at this; omega
    refine AW_skip ?_
    refine hK3 _ ?_
    refine AW_seq fun K7 hK7 => ?_
    refine AW_region ?_
    simp (maxSteps := 10000000) [go_sem, h5, h5', h5'']
    refine hK7 _ ?_
    obtain rfl := Option.some.inj hM
    refine AW_ret ?_
    simp (maxSteps := 10000000) [go_sem, h5, h5', h5'']
set_option maxHeartbeats 4000000 in
set_option maxRecDepth 100000 in
theorem w_szLineS_ctr (k : Nat) (a0 : List TLine) (a1 : Int) (r : Int) (hM : w_szLineS k a0 a1 = some r) : Ctr Try.prog 12 [.one (.sl (a0.map TLine.c)), .one (.int .i64 a1)] true [.one (.int .i64 r)] := by
  unfold w_szLineS at hM
  refine Ctr.of_walk (by kernel_rfl) Try.func12 rfl Try.ntmps12 Try.results12 (by simp) ?_; intro N w0 hbad
  refine AW_seq fun K1 hK1 => ?_
  refine AW_region ?_
  simp (maxSteps := 10000000) [go_sem]
  refine hK1 _ ?_
  refine AW_seq fun K2 hK2 => ?_
  refine AW_region ?_
  simp (maxSteps := 10000000) [go_sem]
  refine hK2 _ ?_
  refine AW_seq fun K3 hK3 => ?_
  refine AW_seq fun K4 hK4 => ?_
  refine AW_region ?_
  simp (maxSteps := 10000000) [go_sem]
  refine hK4 _ ?_
  refine AW_cond (b := (decide ((IntKind.i64.wrap (a1 - (a0.length : Int))) < 0))) (by simp (maxSteps := 10000000) [go_sem]) (fun h5 => ?_) (fun h5 => ?_)
  · rw [if_pos h5] at hM
    have h5' := h5; try simp at h5'
    have h5'' : ¬ (0 ≤ (IntKind.i64.wrap (a1 - (a0.length : Int)))) := by have := h5; simp at this; omega
    refine AW_seq fun K6 hK6 => ?_
    refine AW_region ?_
    simp (maxSteps := 10000000) [go_sem, h5, h5', h5'']
    refine hK6 _ ?_
    obtain rfl := Option.some.inj hM
    refine AW_ret ?_
    simp (maxSteps := 10000000) [go_sem, h5, h5', h5'']
  · rw [if_neg (ne_true h5)] at hM
    have h5' := h5; try simp at h5'
    have h5'' : ¬ ((IntKind.i64.wrap (a1 - (a0.length : Int))) < 0) := by have := h5; simp at this; omega
    refine AW_skip ?_
    refine hK3 _ ?_
    obtain ⟨e7, hU9, hR8⟩ := bind_some hM; clear hM
    refine AW_mid (ι := Int) (fun i => ⟨27, [(1, .one (.l (.int .i64 i)))], [], []⟩) (fun i => (.inl i) = e7) ?_ ?_
    · intro K10 hK10
      have hM := hU9; clear hU9
      refine AW_seq fun K11 hK11 => ?_
      refine AW_region ?_
      simp (maxSteps := 10000000) [go_sem, h5, h5', h5'']
      refine hK11 _ ?_
      refine AW_block ?_
      refine AW_go (ι := Int × Int) (fun i => ⟨27, [(0, .one (.l (.sl (a0.map TLine.c)))), (1, .one (.l (.int .i64 i.1))), (5, .one (.l (.int .i64 i.2)))], [], []⟩) (fun n i => w_szLineS_u1 a0 n i.1 i.2 = some e7) k ((IntKind.i64.wrap (a1 - (a0.length : Int))), 0) hM (Lift.into (by constructor <;> simp [go_sem, h5, h5', h5''])) (fun _ h => by simp [w_szLineS_u1] at h) ?_
      intro KL12 n ⟨x2, x3⟩ hL12 hM
      have hM : w_szLineS_u1 a0 (n + 1) x2 x3 = some e7 := hM; rw [w_szLineS_u1] at hM
      refine AW_seq fun K13 hK13 => ?_
      refine AW_seq fun K14 hK14 => ?_
      refine AW_region ?_
      simp (maxSteps := 10000000) [go_sem]
      refine hK14 _ ?_
      refine AW_cond (b := (decide (x3 < (a0.length : Int)))) (by simp (maxSteps := 10000000) [go_sem]) (fun h15 => ?_) (fun h15 => ?_)
      · rw [if_pos h15] at hM
        have h15' := h15; try simp at h15'
        have h15'' : ¬ ((a0.length : Int) ≤ x3) := by have := h15; simp at this; omega
        refine AW_skip ?_
        refine hK13 _ ?_
        refine AW_seq fun K16 hK16 => ?_
        refine AW_block ?_
        refine AW_seq fun K17 hK17 => ?_
        obtain ⟨x4, e18, hM⟩ := bind_some hM
        obtain ⟨p19, q20, l21, g22⟩ := at_spec e18
        obtain ⟨x5, e23, hM⟩ := bind_some hM
        refine AW_region ?_
        simp (maxSteps := 10000000) [go_sem, h15, h15', h15'', p19, q20, g22]
        refine by_ctr false (w_szLine_ctr x4 x2 x5 e23) (by simp (maxSteps := 10000000) [go_sem, h15, h15', h15'', p19, q20, g22]) (by simp) ?_
        simp (maxSteps := 10000000) [go_sem, h15, h15', h15'', p19, q20, g22]
        refine hK17 _ ?_
        refine AW_seq fun K24 hK24 => ?_
        refine AW_region ?_
        simp (maxSteps := 10000000) [go_sem, h15, h15', h15'', p19, q20, g22]
        refine hK24 _ ?_
        refine AW_cond (b := (decide (x5 < 0))) (by simp (maxSteps := 10000000) [go_sem, h15, h15', h15'', p19, q20, g22]) (fun h25 => ?_) (fun h25 => ?_)
        · rw [if_pos h25] at hM
          have h25' := h25; try simp at h25'
          have h25'' : ¬ (0 ≤ x5) := by have := h25; simp at this; omega
          refine AW_seq fun K26 hK26 => ?_
          refine AW_region ?_
          simp (maxSteps := 10000000) [go_sem, h15, h15', h15'', p19, q20, g22, h25, h25', h25'']
          refine hK26 _ ?_
          obtain rfl := Option.some.inj hM
          have hM := hR8; dsimp only at hM
          obtain rfl := Option.some.inj hM
          refine AW_ret ?_
          simp (maxSteps := 10000000) [go_sem, h15, h15', h15'', p19, q20, g22, h25, h25', h25'']
        · rw [if_neg (ne_true h25)] at hM
          have h25' := h25; try simp at h25'
          have h25'' : ¬ (x5 < 0) := by have := h25; simp at this; omega
          refine AW_skip ?_
          refine hK16 _ ?_
          refine AW_region ?_
          simp (maxSteps := 10000000) [go_sem, h15, h15', h15'', p19, q20, g22, h25, h25', h25'']
          exact hL12 (x5, (IntKind.i64.wrap (x3 + 1))) _ hM (Lift.into (by constructor <;> simp [go_sem, h15, h15', h15'', p19, q20, g22, h25, h25', h25'']))
      · rw [if_neg (ne_true h15)] at hM
        have h15' := h15; try simp at h15'
        have h15'' : ¬ (x3 < (a0.length : Int)) := by have := h15; simp at this; omega
        refine AW_exit ?_
        obtain rfl := Option.some.inj hM
        exact hK10 x2 _ rfl (Lift.into (by constructor <;> simp [go_sem, h15, h15', h15'']))
    · rintro x1 rfl
      have hM := hR8
      dsimp only at hM
      refine AW_seq fun K27 hK27 => ?_
      refine AW_region ?_
      simp (maxSteps := 10000000) [go_sem, h5, h5', h5'']
      refine hK27 _ ?_
      obtain rfl := Option.some.inj hM
      refine AW_ret ?_
      simp (maxSteps := 10000000) [go_sem, h5, h5', h5'']
set_option maxHeartbeats 4000000 in
set_option maxRecDepth 100000 in
theorem w_toLine_ctr (a0 : TLine) (r : TLine) (hM : w_toLine a0 = some r) : Ctr Try.prog 60 [.agg (TLine.c a0)] true [.agg (TLine.c r)] := by
  unfold w_toLine at hM
  refine Ctr.of_walk (by kernel_rfl) Try.func60 rfl Try.ntmps60 Try.results60 (by simp) ?_; intro N w0 hbad
  refine AW_seq fun K1 hK1 => ?_
  refine AW_region ?_
  simp (maxSteps := 10000000) [go_sem]
  refine hK1 _ ?_
  refine AW_seq fun K2 hK2 => ?_
  refine AW_region ?_
  simp (maxSteps := 10000000) [go_sem]
  refine hK2 _ ?_
  refine AW_seq fun K3 hK3 => ?_
  refine AW_region ?_
  simp (maxSteps := 10000000) [go_sem]
  refine hK3 _ ?_
  refine AW_seq fun K4 hK4 => ?_
  refine AW_region ?_
  simp (maxSteps := 10000000) [go_sem]
  refine hK4 _ ?_
  refine AW_seq fun K5 hK5 => ?_
  refine AW_region ?_
  simp (maxSteps := 10000000) [go_sem]
  refine hK5 _ ?_
  refine AW_seq fun K6 hK6 => ?_
  refine AW_region ?_
  simp (maxSteps := 10000000) [go_sem]
  refine hK6 _ ?_
  obtain rfl := Option.some.inj hM
  refine AW_ret ?_
  simp (maxSteps := 10000000) [go_sem]
set_option maxHeartbeats 4000000 in
set_option maxRecDepth 100000 in
theorem w_toLineS_ctr (k : Nat) (a0 : List TLine) (r : List TLine) (hM : w_toLineS k a0 = some r) : Ctr Try.prog 14 [.one (.sl (a0.map TLine.c))] true [.one (.sl (r.map TLine.c))] := by
  unfold w_toLineS at hM
  refine Ctr.of_walk (by kernel_rfl) Try.func14 rfl Try.ntmps14 Try.results14 (by simp) ?_; intro N w0 hbad
  refine AW_seq fun K1 hK1 => ?_
  refine AW_region ?_
  simp (maxSteps := 10000000) [go_sem]
  refine hK1 _ ?_
  refine AW_seq fun K2 hK2 => ?_
  obtain ⟨x1, e3, hM⟩ := bind_some hM
  obtain ⟨c4, s5, s6, s7⟩ := mk_spec e3
  subst c4
  try simp at s5
  try simp at s6
  try simp at s7
  refine AW_region ?_
  simp (maxSteps := 10000000) [go_sem, s5, s6, s7]
  refine hK2 _ ?_
  obtain ⟨e8, hU10, hR9⟩ := bind_some hM; clear hM
  refine AW_mid (ι := List TLine) (fun i => ⟨23, [(3, .one (.own 448 i.length))], [], [(448, some ⟨true, i.map TLine.c⟩)]⟩) (fun i => i = e8) ?_ ?_
  · intro K11 hK11
    have hM := hU10; clear hU10
    refine AW_seq fun K12 hK12 => ?_
    refine AW_region ?_
    simp (maxSteps := 10000000) [go_sem, s5, s6, s7]
    refine hK12 _ ?_
    refine AW_block ?_
    refine AW_go (ι := (List TLine) × Int) (fun i => ⟨23, [(0, .one (.l (.sl (a0.map TLine.c)))), (3, .one (.own 448 i.1.length)), (4, .one (.l (.int .i64 i.2)))], [], [(448, some ⟨true, i.1.map TLine.c⟩)]⟩) (fun n i => w_toLineS_u1 a0 n i.1 i.2 = some e8) k ((List.replicate ((a0.length : Int).toNat) (TLine.mk 0 false (⟨#[]⟩ : ByteArray))), 0) hM (Lift.into (by constructor <;> simp [go_sem, s5, s6, s7])) (fun _ h => by simp [w_toLineS_u1] at h) ?_
    intro KL13 n ⟨x3, x4⟩ hL13 hM
    have hM : w_toLineS_u1 a0 (n + 1) x3 x4 = some e8 := hM; rw [w_toLineS_u1] at hM
    refine AW_seq fun K14 hK14 => ?_
    refine AW_seq fun K15 hK15 => ?_
    refine AW_region ?_
    simp (maxSteps := 10000000) [go_sem]
    refine hK15 _ ?_
    refine AW_cond (b := (decide (x4 < (a0.length : Int)))) (by simp (maxSteps := 10000000) [go_sem]) (fun h16 => ?_) (fun h16 => ?_)
    · rw [if_pos h16] at hM
      have h16' := h16; try simp at h16'
      have h16'' : ¬ ((a0.length : Int) ≤ x4) := by have := h16; simp at this; omega
      refine AW_skip ?_
      refine hK14 _ ?_
      refine AW_seq fun K17 hK17 => ?_
      refine AW_block ?_
      obtain ⟨x5, e18, hM⟩ := bind_some hM
      obtain ⟨p19, q20, l21, g22⟩ := at_spec e18
      obtain ⟨x6, e23, hM⟩ := bind_some hM
      obtain ⟨x7, e24, hM⟩ := bind_some hM
      obtain ⟨p25, q26, l27, g28⟩ := at_spec e24
      refine AW_region ?_
      simp (maxSteps := 10000000) [go_sem, h16, h16', h16'', p19, q20, g22, p25, q26, g28, l27]
      refine by_ctr false (w_toLine_ctr x5 x6 e23) (by simp (maxSteps := 10000000) [go_sem, h16, h16', h16'', p19, q20, g22, p25, q26, g28, l27]) (by simp) ?_
      simp (maxSteps := 10000000) [go_sem, h16, h16', h16'', p19, q20, g22, p25, q26, g28, l27]
      refine hK17 _ ?_
      refine AW_region ?_
      simp (maxSteps := 10000000) [go_sem, h16, h16', h16'', p19, q20, g22, p25, q26, g28, l27]
      exact hL13 ((x3.set x4.toNat x6), (IntKind.i64.wrap (x4 + 1))) _ hM (Lift.into (by constructor <;> simp [go_sem, h16, h16', h16'', p19, q20, g22, p25, q26, g28, l27]))
    · rw [if_neg (ne_true h16)] at hM
      have h16' := h16; try simp at h16'
      have h16'' : ¬ (x4 < (a0.length : Int)) := by have := h16; simp at this; omega
      refine AW_exit ?_
      obtain rfl := Option.some.inj hM
      exact hK11 x3 _ rfl (Lift.into (by constructor <;> simp [go_sem, h16, h16', h16'']))
  · rintro x2 rfl
    have hM := hR9
    try dsimp only at hM
    refine AW_seq fun K29 hK29 => ?_
    refine AW_region ?_
    simp (maxSteps := 10000000) [go_sem, s5, s6, s7]
    refine hK29 _ ?_
    obtain rfl := Option.some.inj hM
    refine AW_ret ?_
    simp (maxSteps := 10000000) [go_sem, s5, s6, s7]
set_option maxHeartbeats 4000000 in
set_option maxRecDepth 100000 in
theorem s_EqualView_ctr (k : Nat) (a0 : List TLine) (a1 : List TLine) (r : Bool) (hM : s_EqualView k a0 a1 = some r) : Ctr Try.prog 13 [.one (.sl (a0.map TLine.c)), .one (.sl (a1.map TLine.c))] true [.one (.bool r)] := by
  unfold s_EqualView at hM
  refine Ctr.of_walk (by kernel_rfl) Try.func13 rfl Try.ntmps13 Try.results13 (by simp) ?_; intro N w0 hbad
  refine AW_seq fun K1 hK1 => ?_
  refine AW_region ?_
  simp (maxSteps := 10000000) [go_sem]
  refine hK1 _ ?_
  refine AW_seq fun K2 hK2 => ?_
  refine AW_seq fun K3 hK3 => ?_
  refine AW_region ?_
  simp (maxSteps := 10000000) [go_sem]
  refine hK3 _ ?_
  refine AW_cond (b := (!decide ((a0.length : Int) = (a1.length : Int)))) (by simp (maxSteps := 10000000) [go_sem]) (fun h4 => ?_) (fun h4 => ?_)
  · rw [if_pos h4] at hM
    have h4' := h4; try simp at h4'
    refine AW_seq fun K5 hK5 => ?_
    refine AW_region ?_
    simp (maxSteps := 10000000) [go_sem, h4, h4']
    refine hK5 _ ?_
    obtain rfl := Option.some.inj hM
    refine AW_ret ?_
    simp (maxSteps := 10000000) [go_sem, h4, h4']
  · rw [if_neg (ne_true h4)] at hM
    have h4' := h4; try simp at h4'
    refine AW_skip ?_
    refine hK2 _ ?_
    obtain ⟨e6, hU8, hR7⟩ := bind_some hM; clear hM
    refine AW_mid (ι := Unit) (fun i => ⟨26, [], [], []⟩) (fun i => (.inl i) = e6) ?_ ?_
    · intro K9 hK9
      have hM := hU8; clear hU8
      refine AW_seq fun K10 hK10 => ?_
      refine AW_region ?_
      simp (maxSteps := 10000000) [go_sem, h4, h4']
      refine hK10 _ ?_
      refine AW_block ?_
      refine AW_go (ι := Int) (fun i => ⟨26, [(0, .one (.l (.sl (a0.map TLine.c)))), (1, .one (.l (.sl (a1.map TLine.c)))), (5, .one (.l (.int .i64 i)))], [], []⟩) (fun n i => s_EqualView_u1 a0 a1 n i = some e6) k 0 hM (Lift.into (by constructor <;> simp [go_sem, h4, h4'])) (fun _ h => by simp [s_EqualView_u1] at h) ?_
      intro KL11 n x1 hL11 hM
      have hM : s_EqualView_u1 a0 a1 (n + 1) x1 = some e6 := hM; rw [s_EqualView_u1] at hM
      refine AW_seq fun K12 hK12 => ?_
      refine AW_seq fun K13 hK13 => ?_
      refine AW_region ?_
      simp (maxSteps := 10000000) [go_sem]
      refine hK13 _ ?_
      refine AW_cond (b := (decide (x1 < (a0.length : Int)))) (by simp (maxSteps := 10000000) [go_sem]) (fun h14 => ?_) (fun h14 => ?_)
      · rw [if_pos h14] at hM
        have h14' := h14; try simp at h14'
        have h14'' : ¬ ((a0.length : Int) ≤ x1) := by have := h14; simp at this; omega
        refine AW_skip ?_
        refine hK12 _ ?_
        refine AW_seq fun K15 hK15 => ?_
        refine AW_block ?_
        refine AW_seq fun K16 hK16 => ?_
        obtain ⟨x2, e17, hM⟩ := bind_some hM
        obtain ⟨p18, q19, l20, g21⟩ := at_spec e17
        obtain ⟨x3, e22, hM⟩ := bind_some hM
        obtain ⟨p23, q24, l25, g26⟩ := at_spec e22
        refine AW_quick [[], [], [0, 1], [0, 1, 2], [], [], [4, 5], [4, 5, 6], [0, 1, 2, 3, 4, 5, 6, 7]] 8 mixed (by kernel_rfl) (by kernel_rfl) ?_
        simp (maxSteps := 10000000) [go_sem, h14, h14', h14'', p18, q19, g21, p23, q24, g26]
        refine hK16 _ ?_
        refine AW_cond (b := (!(decide (x2.cell = x3.cell) && ((x2.fresh == x3.fresh) && decide (x2.text = x3.text))))) (by simp (maxSteps := 10000000) [go_sem, h14, h14', h14'', p18, q19, g21, p23, q24, g26]) (fun h27 => ?_) (fun h27 => ?_)
        · rw [if_pos h27] at hM
          have h27' := h27; try simp at h27'
          refine AW_seq fun K28 hK28 => ?_
          refine AW_region ?_
          simp (maxSteps := 10000000) [go_sem, h14, h14', h14'', p18, q19, g21, p23, q24, g26, h27, h27']
          refine hK28 _ ?_
          obtain rfl := Option.some.inj hM
          have hM := hR7; dsimp only at hM
          obtain rfl := Option.some.inj hM
          refine AW_ret ?_
          simp (maxSteps := 10000000) [go_sem, h14, h14', h14'', p18, q19, g21, p23, q24, g26, h27, h27']
        · rw [if_neg (ne_true h27)] at hM
          have h27' := h27; try simp at h27'
          refine AW_skip ?_
          refine hK15 _ ?_
          refine AW_region ?_
          simp (maxSteps := 10000000) [go_sem, h14, h14', h14'', p18, q19, g21, p23, q24, g26, h27, h27']
          exact hL11 (IntKind.i64.wrap (x1 + 1)) _ hM (Lift.into (by constructor <;> simp [go_sem, h14, h14', h14'', p18, q19, g21, p23, q24, g26, h27, h27']))
      · rw [if_neg (ne_true h14)] at hM
        have h14' := h14; try simp at h14'
        have h14'' : ¬ (x1 < (a0.length : Int)) := by have := h14; simp at this; omega
        refine AW_exit ?_
        obtain rfl := Option.some.inj hM
        exact hK9 () _ rfl (Lift.into (by constructor <;> simp [go_sem, h14, h14', h14'']))
    · rintro _ rfl
      have hM := hR7
      dsimp only at hM
      refine AW_seq fun K29 hK29 => ?_
      refine AW_region ?_
      simp (maxSteps := 10000000) [go_sem, h4, h4']
      refine hK29 _ ?_
      obtain rfl := Option.some.inj hM
      refine AW_ret ?_
      simp (maxSteps := 10000000) [go_sem, h4, h4']
set_option maxHeartbeats 4000000 in
set_option maxRecDepth 100000 in
theorem i_same_Line_ctr (k : Nat) (a0 : List TLine) (a1 : List TLine) (r : Bool) (hM : i_same_Line k a0 a1 = some r) : Ctr Try.prog 61 [.one (.sl (a0.map TLine.c)), .one (.sl (a1.map TLine.c))] true [.one (.bool r)] := by
  unfold i_same_Line at hM
  refine Ctr.of_walk (by kernel_rfl) Try.func61 rfl Try.ntmps61 Try.results61 (by simp) ?_; intro N w0 hbad
  refine AW_seq fun K1 hK1 => ?_
  refine AW_region ?_
  simp (maxSteps := 10000000) [go_sem]
  refine hK1 _ ?_
  refine AW_seq fun K2 hK2 => ?_
  refine AW_seq fun K3 hK3 => ?_
  refine AW_region ?_
  simp (maxSteps := 10000000) [go_sem]
  refine hK3 _ ?_
  refine AW_cond (b := (!decide ((a0.length : Int) = (a1.length : Int)))) (by simp (maxSteps := 10000000) [go_sem]) (fun h4 => ?_) (fun h4 => ?_)
  · rw [if_pos h4] at hM
    have h4' := h4; try simp at h4'
    refine AW_seq fun K5 hK5 => ?_
    refine AW_region ?_
    simp (maxSteps := 10000000) [go_sem, h4, h4']
    refine hK5 _ ?_
    obtain rfl := Option.some.inj hM
    refine AW_ret ?_
    simp (maxSteps := 10000000) [go_sem, h4, h4']
  · rw [if_neg (ne_true h4)] at hM
    have h4' := h4; try simp at h4'
    refine AW_skip ?_
    refine hK2 _ ?_
    obtain ⟨e6, hU8, hR7⟩ := bind_some hM; clear hM
    refine AW_mid (ι := Unit) (fun i => ⟨26, [], [], []⟩) (fun i => (.inl i) = e6) ?_ ?_
    · intro K9 hK9
      have hM := hU8; clear hU8
      refine AW_seq fun K10 hK10 => ?_
      refine AW_region ?_
      simp (maxSteps := 10000000) [go_sem, h4, h4']
      refine hK10 _ ?_
      refine AW_block ?_
      refine AW_go (ι := Int) (fun i => ⟨26, [(0, .one (.l (.sl (a0.map TLine.c)))), (1, .one (.l (.sl (a1.map TLine.c)))), (12, .one (.l (.int .i64 (a0.length : Int)))), (13, .one (.l (.int .i64 i)))], [], []⟩) (fun n i => i_same_Line_u1 a0 a1 n i = some e6) k 0 hM (Lift.into (by constructor <;> simp [go_sem, h4, h4'])) (fun _ h => by simp [i_same_Line_u1] at h) ?_
      intro KL11 n x1 hL11 hM
      have hM : i_same_Line_u1 a0 a1 (n + 1) x1 = some e6 := hM; rw [i_same_Line_u1] at hM
      refine AW_seq fun K12 hK12 => ?_
      refine AW_region ?_
      simp (maxSteps := 10000000) [go_sem]
      refine hK12 _ ?_
      refine AW_seq fun K13 hK13 => ?_
      refine AW_cond (b := (decide (x1 < (a0.length : Int)))) (by simp (maxSteps := 10000000) [go_sem]) (fun h14 => ?_) (fun h14 => ?_)
      · rw [if_pos h14] at hM
        have h14' := h14; try simp at h14'
        have h14'' : ¬ ((a0.length : Int) ≤ x1) := by have := h14; simp at this; omega
        refine AW_skip ?_
        refine hK13 _ ?_
        refine AW_seq fun K15 hK15 => ?_
        refine AW_block ?_
        refine AW_seq fun K16 hK16 => ?_
        refine AW_region ?_
        simp (maxSteps := 10000000) [go_sem, h14, h14', h14'']
        refine hK16 _ ?_
        refine AW_seq fun K17 hK17 => ?_
        obtain ⟨x2, e18, hM⟩ := bind_some hM
        obtain ⟨p19, q20, l21, g22⟩ := at_spec e18
        obtain ⟨x3, e23, hM⟩ := bind_some hM
        obtain ⟨p24, q25, l26, g27⟩ := at_spec e23
        refine AW_quick [[], [], [0, 1], [0, 1, 2], [], [], [4, 5], [4, 5, 6], [0, 1, 2, 3, 4, 5, 6, 7]] 8 mixed (by kernel_rfl) (by kernel_rfl) ?_
        simp (maxSteps := 10000000) [go_sem, h14, h14', h14'', p19, q20, g22, p24, q25, g27]
        refine hK17 _ ?_
        refine AW_cond (b := (!(decide (x2.cell = x3.cell) && ((x2.fresh == x3.fresh) && decide (x2.text = x3.text))))) (by simp (maxSteps := 10000000) [go_sem, h14, h14', h14'', p19, q20, g22, p24, q25, g27]) (fun h28 => ?_) (fun h28 => ?_)
        · rw [if_pos h28] at hM
          have h28' := h28; try simp at h28'
          refine AW_seq fun K29 hK29 => ?_
          refine AW_region ?_
          simp (maxSteps := 10000000) [go_sem, h14, h14', h14'', p19, q20, g22, p24, q25, g27, h28, h28']
          refine hK29 _ ?_
          obtain rfl := Option.some.inj hM
          have hM := hR7; dsimp only at hM
          obtain rfl := Option.some.inj hM
          refine AW_ret ?_
          simp (maxSteps := 10000000) [go_sem, h14, h14', h14'', p19, q20, g22, p24, q25, g27, h28, h28']
        · rw [if_neg (ne_true h28)] at hM
          have h28' := h28; try simp at h28'
          refine AW_skip ?_
          refine hK15 _ ?_
          refine AW_region ?_
          simp (maxSteps := 10000000) [go_sem, h14, h14', h14'', p19, q20, g22, p24, q25, g27, h28, h28']
          exact hL11 (IntKind.i64.wrap (x1 + 1)) _ hM (Lift.into (by constructor <;> simp [go_sem, h14, h14', h14'', p19, q20, g22, p24, q25, g27, h28, h28']))
      · rw [if_neg (ne_true h14)] at hM
        have h14' := h14; try simp at h14'
        have h14'' : ¬ (x1 < (a0.length : Int)) := by have := h14; simp at this; omega
        refine AW_exit ?_
        obtain rfl := Option.some.inj hM
        exact hK9 () _ rfl (Lift.into (by constructor <;> simp [go_sem, h14, h14', h14'']))
    · rintro _ rfl
      have hM := hR7
      dsimp only at hM
      refine AW_seq fun K30 hK30 => ?_
      refine AW_region ?_
      simp (maxSteps := 10000000) [go_sem, h4, h4']
      refine hK30 _ ?_
      obtain rfl := Option.some.inj hM
      refine AW_ret ?_
      simp (maxSteps := 10000000) [go_sem, h4, h4']
set_option maxHeartbeats 4000000 in
set_option maxRecDepth 100000 in
theorem i_EqualView_ctr (k : Nat) (a0 : List TLine) (a1 : List TLine) (r : Bool) (hM : i_EqualView k a0 a1 = some r) : Ctr Try.prog 15 [.one (.sl (a0.map TLine.c)), .one (.sl (a1.map TLine.c))] true [.one (.bool r)] := by
  unfold i_EqualView at hM
  refine Ctr.of_walk (by kernel_rfl) Try.func15 rfl Try.ntmps15 Try.results15 (by simp) ?_; intro N w0 hbad
  refine AW_seq fun K1 hK1 => ?_
  refine AW_region ?_
  simp (maxSteps := 10000000) [go_sem]
  refine hK1 _ ?_
  refine AW_seq fun K2 hK2 => ?_
  obtain ⟨x1, e3, hM⟩ := bind_some hM
  refine AW_region ?_
  simp (maxSteps := 10000000) [go_sem]
  refine by_ctr false (i_same_Line_ctr k a0 a1 x1 e3) (by simp (maxSteps := 10000000) [go_sem]) (by simp) ?_
  simp (maxSteps := 10000000) [go_sem]
  refine hK2 _ ?_
  obtain rfl := Option.some.inj hM
  refine AW_ret ?_
  simp (maxSteps := 10000000) [go_sem]
set_option maxHeartbeats 4000000 in
set_option maxRecDepth 100000 in
theorem w_eqLine_ctr (a0 : TLine) (a1 : TLine) (r : Bool) (hM : w_eqLine a0 a1 = some r) : Ctr Try.prog 62 [.agg (TLine.c a0), .agg (TLine.c a1)] true [.one (.bool r)] := by
  unfold w_eqLine at hM
  refine Ctr.of_walk (by kernel_rfl) Try.func62 rfl Try.ntmps62 Try.results62 (by simp) ?_; intro N w0 hbad
  refine AW_seq fun K1 hK1 => ?_
  refine AW_region ?_
  simp (maxSteps := 10000000) [go_sem]
  refine hK1 _ ?_
  refine AW_seq fun K2 hK2 => ?_
  refine AW_seq fun K3 hK3 => ?_
  refine AW_region ?_
  simp (maxSteps := 10000000) [go_sem]
  refine hK3 _ ?_
  refine AW_cond (b := (!decide (a0.cell = a1.cell))) (by simp (maxSteps := 10000000) [go_sem]) (fun h4 => ?_) (fun h4 => ?_)
  · rw [if_pos h4] at hM
    have h4' := h4; try simp at h4'
    refine AW_seq fun K5 hK5 => ?_
    refine AW_region ?_
    simp (maxSteps := 10000000) [go_sem, h4, h4']
    refine hK5 _ ?_
    obtain rfl := Option.some.inj hM
    refine AW_ret ?_
    simp (maxSteps := 10000000) [go_sem, h4, h4']
  · rw [if_neg (ne_true h4)] at hM
    have h4' := h4; try simp at h4'
    refine AW_skip ?_
    refine hK2 _ ?_
    refine AW_seq fun K6 hK6 => ?_
    refine AW_seq fun K7 hK7 => ?_
    refine AW_region ?_
    simp (maxSteps := 10000000) [go_sem, h4, h4']
    refine hK7 _ ?_
    refine AW_cond (b := (!(a0.fresh == a1.fresh))) (by simp (maxSteps := 10000000) [go_sem, h4, h4']) (fun h8 => ?_) (fun h8 => ?_)
    · rw [if_pos h8] at hM
      have h8' := h8; try simp at h8'
      refine AW_seq fun K9 hK9 => ?_
      refine AW_region ?_
      simp (maxSteps := 10000000) [go_sem, h4, h4', h8, h8']
      refine hK9 _ ?_
      obtain rfl := Option.some.inj hM
      refine AW_ret ?_
      simp (maxSteps := 10000000) [go_sem, h4, h4', h8, h8']
    · rw [if_neg (ne_true h8)] at hM
      have h8' := h8; try simp at h8'
      refine AW_skip ?_
      refine hK6 _ ?_
      refine AW_seq fun K10 hK10 => ?_
      refine AW_seq fun K11 hK11 => ?_
      refine AW_region ?_
      simp (maxSteps := 10000000) [go_sem, h4, h4', h8, h8']
      refine hK11 _ ?_
      refine AW_cond (b := (!decide (a0.text = a1.text))) (by simp (maxSteps := 10000000) [go_sem, h4, h4', h8, h8']) (fun h12 => ?_) (fun h12 => ?_)
      · rw [if_pos h12] at hM
        have h12' := h12; try simp at h12'
        refine AW_seq fun K13 hK13 => ?_
        refine AW_region ?_
        simp (maxSteps := 10000000) [go_sem, h4, h4', h8, h8', h12, h12']
        refine hK13 _ ?_
        obtain rfl := Option.some.inj hM
        refine AW_ret ?_
        simp (maxSteps := 10000000) [go_sem, h4, h4', h8, h8', h12, h12']
      · rw [if_neg (ne_true h12)] at hM
        have h12' := h12; try simp at h12'
        refine AW_skip ?_
        refine hK10 _ ?_
        refine AW_seq fun K14 hK14 => ?_
        refine AW_region ?_
        simp (maxSteps := 10000000) [go_sem, h4, h4', h8, h8', h12, h12']
        refine hK14 _ ?_
        obtain rfl := Option.some.inj hM
        refine AW_ret ?_
        simp (maxSteps := 10000000) [go_sem, h4, h4', h8, h8', h12, h12']
set_option maxHeartbeats 4000000 in
set_option maxRecDepth 100000 in
theorem w_eqLineS_ctr (k : Nat) (a0 : List TLine) (a1 : List TLine) (r : Bool) (hM : w_eqLineS k a0 a1 = some r) : Ctr Try.prog 16 [.one (.sl (a0.map TLine.c)), .one (.sl (a1.map TLine.c))] true [.one (.bool r)] := by
  unfold w_eqLineS at hM
  refine Ctr.of_walk (by kernel_rfl) Try.func16 rfl Try.ntmps16 Try.results16 (by simp) ?_; intro N w0 hbad
  refine AW_seq fun K1 hK1 => ?_
  refine AW_region ?_
  simp (maxSteps := 10000000) [go_sem]
  refine hK1 _ ?_
  refine AW_seq fun K2 hK2 => ?_
  refine AW_seq fun K3 hK3 => ?_
  refine AW_region ?_
  simp (maxSteps := 10000000) [go_sem]
  refine hK3 _ ?_
  refine AW_cond (b := (!decide ((a0.length : Int) = (a1.length : Int)))) (by simp (maxSteps := 10000000) [go_sem]) (fun h4 => ?_) (fun h4 => ?_)
  · rw [if_pos h4] at hM
    have h4' := h4; try simp at h4'
    refine AW_seq fun K5 hK5 => ?_
    refine AW_region ?_
    simp (maxSteps := 10000000) [go_sem, h4, h4']
    refine hK5 _ ?_
    obtain rfl := Option.some.inj hM
    refine AW_ret ?_
    simp (maxSteps := 10000000) [go_sem, h4, h4']
  · rw [if_neg (ne_true h4)] at hM
    have h4' := h4; try simp at h4'
    refine AW_skip ?_
    refine hK2 _ ?_
    obtain ⟨e6, hU8, hR7⟩ := bind_some hM; clear hM
    refine AW_mid (ι := Unit) (fun i => ⟨27, [], [], []⟩) (fun i => (.inl i) = e6) ?_ ?_
    · intro K9 hK9
      have hM := hU8; clear hU8
      refine AW_seq fun K10 hK10 => ?_
      refine AW_region ?_
      simp (maxSteps := 10000000) [go_sem, h4, h4']
      refine hK10 _ ?_
      refine AW_block ?_
      refine AW_go (ι := Int) (fun i => ⟨27, [(0, .one (.l (.sl (a0.map TLine.c)))), (1, .one (.l (.sl (a1.map TLine.c)))), (5, .one (.l (.int .i64 i)))], [], []⟩) (fun n i => w_eqLineS_u1 a0 a1 n i = some e6) k 0 hM (Lift.into (by constructor <;> simp [go_sem, h4, h4'])) (fun _ h => by simp [w_eqLineS_u1] at h) ?_
      intro KL11 n x1 hL11 hM
      have hM : w_eqLineS_u1 a0 a1 (n + 1) x1 = some e6 := hM; rw [w_eqLineS_u1] at hM
      refine AW_seq fun K12 hK12 => ?_
      refine AW_seq fun K13 hK13 => ?_
      refine AW_region ?_
      simp (maxSteps := 10000000) [go_sem]
      refine hK13 _ ?_
      refine AW_cond (b := (decide (x1 < (a0.length : Int)))) (by simp (maxSteps := 10000000) [go_sem]) (fun h14 => ?_) (fun h14 => ?_)
      · rw [if_pos h14] at hM
        have h14' := h14; try simp at h14'
        have h14'' : ¬ ((a0.length : Int) ≤ x1) := by have := h14; simp at this; omega
        refine AW_skip ?_
        refine hK12 _ ?_
        refine AW_seq fun K15 hK15 => ?_
        refine AW_block ?_
        refine AW_seq fun K16 hK16 => ?_
        obtain ⟨x2, e17, hM⟩ := bind_some hM
        obtain ⟨p18, q19, l20, g21⟩ := at_spec e17
        obtain ⟨x3, e22, hM⟩ := bind_some hM
        obtain ⟨p23, q24, l25, g26⟩ := at_spec e22
        obtain ⟨x4, e27, hM⟩ := bind_some hM
        refine AW_quick [[], [], [0, 1], [0, 1, 2], [], [], [4, 5], [4, 5, 6], [0, 1, 2, 3, 4, 5, 6, 7], [0, 1, 2, 3, 4, 5, 6, 7, 8]] 8 mixed (by kernel_rfl) (by kernel_rfl) ?_
        simp (maxSteps := 10000000) [go_sem, h14, h14', h14'', p18, q19, g21, p23, q24, g26]
        refine by_ctr false (w_eqLine_ctr x2 x3 x4 e27) (by simp (maxSteps := 10000000) [go_sem, h14, h14', h14'', p18, q19, g21, p23, q24, g26]) (by simp) ?_
        simp (maxSteps := 10000000) [go_sem, h14, h14', h14'', p18, q19, g21, p23, q24, g26]
        refine hK16 _ ?_
        refine AW_cond (b := (!x4)) (by simp (maxSteps := 10000000) [go_sem, h14, h14', h14'', p18, q19, g21, p23, q24, g26]) (fun h28 => ?_) (fun h28 => ?_)
        · rw [if_pos h28] at hM
          have h28' := h28; try simp at h28'
          refine AW_seq fun K29 hK29 => ?_
          refine AW_region ?_
          simp (maxSteps := 10000000) [go_sem, h14, h14', h14'', p18, q19, g21, p23, q24, g26, h28, h28']
          refine hK29 _ ?_
          obtain rfl := Option.some.inj hM
          have hM := hR7; dsimp only at hM
          obtain rfl := Option.some.inj hM
          refine AW_ret ?_
          simp (maxSteps := 10000000) [go_sem, h14, h14', h14'', p18, q19, g21, p23, q24, g26, h28, h28']
        · rw [if_neg (ne_true h28)] at hM
          have h28' := h28; try simp at h28'
          refine AW_skip ?_
          refine hK15 _ ?_
          refine AW_region ?_
          simp (maxSteps := 10000000) [go_sem, h14, h14', h14'', p18, q19, g21, p23, q24, g26, h28, h28']
          exact hL11 (IntKind.i64.wrap (x1 + 1)) _ hM (Lift.into (by constructor <;> simp [go_sem, h14, h14', h14'', p18, q19, g21, p23, q24, g26, h28, h28']))
      · rw [if_neg (ne_true h14)] at hM
        have h14' := h14; try simp at h14'
        have h14'' : ¬ (x1 < (a0.length : Int)) := by have := h14; simp at this; omega
        refine AW_exit ?_
        obtain rfl := Option.some.inj hM
        exact hK9 () _ rfl (Lift.into (by constructor <;> simp [go_sem, h14, h14', h14'']))
    · rintro _ rfl
      have hM := hR7
      dsimp only at hM
      refine AW_seq fun K30 hK30 => ?_
      refine AW_region ?_
      simp (maxSteps := 10000000) [go_sem, h4, h4']
      refine hK30 _ ?_
      obtain rfl := Option.some.inj hM
      refine AW_ret ?_
      simp (maxSteps := 10000000) [go_sem, h4, h4']
set_option maxHeartbeats 4000000 in
set_option maxRecDepth 100000 in
theorem w_FnExactEqualView_ctr (k : Nat) (a0 : List TLine) (a1 : List TLine) (r : Bool) (hM : w_FnExactEqualView k a0 a1 = some r) : Ctr Try.prog 3 [.one (.sl (a0.map TLine.c)), .one (.sl (a1.map TLine.c))] true [.one (.bool r)] := by
  unfold w_FnExactEqualView at hM
  refine Ctr.of_walk (by kernel_rfl) Try.func3 rfl Try.ntmps3 Try.results3 (by simp) ?_; intro N w0 hbad
  refine AW_seq fun K1 hK1 => ?_
  refine AW_region ?_
  simp (maxSteps := 10000000) [go_sem]
  refine hK1 _ ?_
  refine AW_seq fun K2 hK2 => ?_
  refine AW_region ?_
  simp (maxSteps := 10000000) [go_sem]
  refine hK2 _ ?_
  refine AW_seq fun K3 hK3 => ?_
  obtain ⟨x1, e4, hM⟩ := bind_some hM
  refine AW_region ?_
  simp (maxSteps := 10000000) [go_sem]
  refine by_ctr false (w_szLineS_ctr k a0 1048576 x1 e4) (by simp (maxSteps := 10000000) [go_sem]) (by simp) ?_
  simp (maxSteps := 10000000) [go_sem]
  refine hK3 _ ?_
  refine AW_seq fun K5 hK5 => ?_
  refine AW_seq fun K6 hK6 => ?_
  refine AW_region ?_
  simp (maxSteps := 10000000) [go_sem]
  refine hK6 _ ?_
  refine AW_cond (b := (decide (x1 < 0))) (by simp (maxSteps := 10000000) [go_sem]) (fun h7 => ?_) (fun h7 => ?_)
  · rw [if_pos h7] at hM
    have h7' := h7; try simp at h7'
    have h7'' : ¬ (0 ≤ x1) := by have := h7; simp at this; omega
    refine AW_seq fun K8 hK8 => ?_
    refine AW_region ?_
    simp (maxSteps := 10000000) [go_sem, h7, h7', h7'']
    refine hK8 _ ?_
    obtain rfl := Option.some.inj hM
    refine AW_ret ?_
    simp (maxSteps := 10000000) [go_sem, h7, h7', h7'']
  · rw [if_neg (ne_true h7)] at hM
    have h7' := h7; try simp at h7'
    have h7'' : ¬ (x1 < 0) := by have := h7; simp at this; omega
    refine AW_skip ?_
    refine hK5 _ ?_
    refine AW_seq fun K9 hK9 => ?_
    obtain ⟨x2, e10, hM⟩ := bind_some hM
    refine AW_region ?_
    simp (maxSteps := 10000000) [go_sem, h7, h7', h7'']
    refine by_ctr false (w_szLineS_ctr k a1 x1 x2 e10) (by simp (maxSteps := 10000000) [go_sem, h7, h7', h7'']) (by simp) ?_
    simp (maxSteps := 10000000) [go_sem, h7, h7', h7'']
    refine hK9 _ ?_
    refine AW_seq fun K11 hK11 => ?_
    refine AW_seq fun K12 hK12 => ?_
    refine AW_region ?_
    simp (maxSteps := 10000000) [go_sem, h7, h7', h7'']
    refine hK12 _ ?_
    refine AW_cond (b := (decide (x2 < 0))) (by simp (maxSteps := 10000000) [go_sem, h7, h7', h7'']) (fun h13 => ?_) (fun h13 => ?_)
    · rw [if_pos h13] at hM
      have h13' := h13; try simp at h13'
      have h13'' : ¬ (0 ≤ x2) := by have := h13; simp at this; omega
      refine AW_seq fun K14 hK14 => ?_
      refine AW_region ?_
      simp (maxSteps := 10000000) [go_sem, h7, h7', h7'', h13, h13', h13'']
      refine hK14 _ ?_
      obtain rfl := Option.some.inj hM
      refine AW_ret ?_
      simp (maxSteps := 10000000) [go_sem, h7, h7', h7'', h13, h13', h13'']
    · rw [if_neg (ne_true h13)] at hM
      have h13' := h13; try simp at h13'
      have h13'' : ¬ (x2 < 0) := by have := h13; simp at this; omega
      refine AW_skip ?_
      refine hK11 _ ?_
      refine AW_seq fun K15 hK15 => ?_
      obtain ⟨x3, e16, hM⟩ := bind_some hM
      obtain ⟨x4, e17, hM⟩ := bind_some hM
      obtain ⟨x5, e18, hM⟩ := bind_some hM
      refine AW_region ?_
      simp (maxSteps := 10000000) [go_sem, h7, h7', h7'', h13, h13', h13'']
      refine by_ctr false (w_toLineS_ctr k a0 x3 e16) (by simp (maxSteps := 10000000) [go_sem, h7, h7', h7'', h13, h13', h13'']) (by simp) ?_
      simp (maxSteps := 10000000) [go_sem, h7, h7', h7'', h13, h13', h13'']
      refine by_ctr false (w_toLineS_ctr k a1 x4 e17) (by simp (maxSteps := 10000000) [go_sem, h7, h7', h7'', h13, h13', h13'']) (by simp) ?_
      simp (maxSteps := 10000000) [go_sem, h7, h7', h7'', h13, h13', h13'']
      refine by_ctr false (s_EqualView_ctr k x3 x4 x5 e18) (by simp (maxSteps := 10000000) [go_sem, h7, h7', h7'', h13, h13', h13'']) (by simp) ?_
      simp (maxSteps := 10000000) [go_sem, h7, h7', h7'', h13, h13', h13'']
      refine hK15 _ ?_
      refine AW_seq fun K19 hK19 => ?_
      obtain ⟨x6, e20, hM⟩ := bind_some hM
      refine AW_region ?_
      simp (maxSteps := 10000000) [go_sem, h7, h7', h7'', h13, h13', h13'']
      refine by_ctr false (w_toLineS_ctr k a0 x6 e20) (by simp (maxSteps := 10000000) [go_sem, h7, h7', h7'', h13, h13', h13'']) (by simp) ?_
      simp (maxSteps := 10000000) [go_sem, h7, h7', h7'', h13, h13', h13'']
      refine hK19 _ ?_
      refine AW_seq fun K21 hK21 => ?_
      obtain ⟨x7, e22, hM⟩ := bind_some hM
      refine AW_region ?_
      simp (maxSteps := 10000000) [go_sem, h7, h7', h7'', h13, h13', h13'']
      refine by_ctr false (w_toLineS_ctr k a1 x7 e22) (by simp (maxSteps := 10000000) [go_sem, h7, h7', h7'', h13, h13', h13'']) (by simp) ?_
      simp (maxSteps := 10000000) [go_sem, h7, h7', h7'', h13, h13', h13'']
      refine hK21 _ ?_
      refine AW_seq fun K23 hK23 => ?_
      obtain ⟨x8, e24, hM⟩ := bind_some hM
      refine AW_region ?_
      simp (maxSteps := 10000000) [go_sem, h7, h7', h7'', h13, h13', h13'']
      refine by_ctr false (i_EqualView_ctr k x6 x7 x8 e24) (by simp (maxSteps := 10000000) [go_sem, h7, h7', h7'', h13, h13', h13'']) (by simp) ?_
      simp (maxSteps := 10000000) [go_sem, h7, h7', h7'', h13, h13', h13'']
      refine hK23 _ ?_
      refine AW_seq fun K25 hK25 => ?_
      refine AW_seq fun K26 hK26 => ?_
      refine AW_region ?_
      simp (maxSteps := 10000000) [go_sem, h7, h7', h7'', h13, h13', h13'']
      refine hK26 _ ?_
      refine AW_cond (b := (!(x8 == x5))) (by simp (maxSteps := 10000000) [go_sem, h7, h7', h7'', h13, h13', h13'']) (fun h27 => ?_) (fun h27 => ?_)
      · rw [if_pos h27] at hM
        have h27' := h27; try simp at h27'
        refine AW_seq fun K28 hK28 => ?_
        refine AW_region ?_
        simp (maxSteps := 10000000) [go_sem, h7, h7', h7'', h13, h13', h13'', h27, h27']
        refine hK28 _ ?_
        obtain rfl := Option.some.inj hM
        refine AW_ret ?_
        simp (maxSteps := 10000000) [go_sem, h7, h7', h7'', h13, h13', h13'', h27, h27']
      · rw [if_neg (ne_true h27)] at hM
        have h27' := h27; try simp at h27'
        refine AW_skip ?_
        refine hK25 _ ?_
        refine AW_seq fun K29 hK29 => ?_
        refine AW_seq fun K30 hK30 => ?_
        obtain ⟨x9, e31, hM⟩ := bind_some hM
        obtain ⟨x10, e32, hM⟩ := bind_some hM
        refine AW_region ?_
        simp (maxSteps := 10000000) [go_sem, h7, h7', h7'', h13, h13', h13'', h27, h27']
        refine by_ctr false (w_toLineS_ctr k a0 x9 e31) (by simp (maxSteps := 10000000) [go_sem, h7, h7', h7'', h13, h13', h13'', h27, h27']) (by simp) ?_
        simp (maxSteps := 10000000) [go_sem, h7, h7', h7'', h13, h13', h13'', h27, h27']
        refine by_ctr false (w_eqLineS_ctr k x6 x9 x10 e32) (by simp (maxSteps := 10000000) [go_sem, h7, h7', h7'', h13, h13', h13'', h27, h27']) (by simp) ?_
        simp (maxSteps := 10000000) [go_sem, h7, h7', h7'', h13, h13', h13'', h27, h27']
        refine hK30 _ ?_
        refine AW_cond (b := (!x10)) (by simp (maxSteps := 10000000) [go_sem, h7, h7', h7'', h13, h13', h13'', h27, h27']) (fun h33 => ?_) (fun h33 => ?_)
        · rw [if_pos h33] at hM
          have h33' := h33; try simp at h33'
          refine AW_seq fun K34 hK34 => ?_
          refine AW_region ?_
          simp (maxSteps := 10000000) [go_sem, h7, h7', h7'', h13, h13', h13'', h27, h27', h33, h33']
          refine hK34 _ ?_
          obtain rfl := Option.some.inj hM
          refine AW_ret ?_
          simp (maxSteps := 10000000) [go_sem, h7, h7', h7'', h13, h13', h13'', h27, h27', h33, h33']
        · rw [if_neg (ne_true h33)] at hM
          have h33' := h33; try simp at h33'
          refine AW_skip ?_
          refine hK29 _ ?_
          refine AW_seq fun K35 hK35 => ?_
          refine AW_seq fun K36 hK36 => ?_
          obtain ⟨x11, e37, hM⟩ := bind_some hM
          obtain ⟨x12, e38, hM⟩ := bind_some hM
          refine AW_region ?_
          simp (maxSteps := 10000000) [go_sem, h7, h7', h7'', h13, h13', h13'', h27, h27', h33, h33']
          refine by_ctr false (w_toLineS_ctr k a1 x11 e37) (by simp (maxSteps := 10000000) [go_sem, h7, h7', h7'', h13, h13', h13'', h27, h27', h33, h33']) (by simp) ?_
          simp (maxSteps := 10000000) [go_sem, h7, h7', h7'', h13, h13', h13'', h27, h27', h33, h33']
          refine by_ctr false (w_eqLineS_ctr k x7 x11 x12 e38) (by simp (maxSteps := 10000000) [go_sem, h7, h7', h7'', h13, h13', h13'', h27, h27', h33, h33']) (by simp) ?_
          simp (maxSteps := 10000000) [go_sem, h7, h7', h7'', h13, h13', h13'', h27, h27', h33, h33']
          refine hK36 _ ?_
          refine AW_cond (b := (!x12)) (by simp (maxSteps := 10000000) [go_sem, h7, h7', h7'', h13, h13', h13'', h27, h27', h33, h33']) (fun h39 => ?_) (fun h39 => ?_)
          · rw [if_pos h39] at hM
            have h39' := h39; try simp at h39'
            refine AW_seq fun K40 hK40 => ?_
            refine AW_region ?_
            simp (maxSteps := 10000000) [go_sem, h7, h7', h7'', h13, h13', h13'', h27, h27', h33, h33', h39, h39']
            refine hK40 _ ?_
            obtain rfl := Option.some.inj hM
            refine AW_ret ?_
            simp (maxSteps := 10000000) [go_sem, h7, h7', h7'', h13, h13', h13'', h27, h27', h33, h33', h39, h39']
          · rw [if_neg (ne_true h39)] at hM
            have h39' := h39; try simp at h39'
            refine AW_skip ?_
            refine hK35 _ ?_
            refine AW_seq fun K41 hK41 => ?_
            refine AW_region ?_
            simp (maxSteps := 10000000) [go_sem, h7, h7', h7'', h13, h13', h13'', h27, h27', h33, h33', h39, h39']
            refine hK41 _ ?_
            obtain rfl := Option.some.inj hM
            refine AW_ret ?_
            simp (maxSteps := 10000000) [go_sem, h7, h7', h7'', h13, h13', h13'', h27, h27', h33, h33', h39, h39']
set_option maxHeartbeats 4000000 in
set_option maxRecDepth 100000 in
theorem w_szMarkS_ctr (a0 : List TMark) (a1 : Int) (r : Int) (hM : w_szMarkS a0 a1 = some r) : Ctr Try.prog 63 [.one (.sl (a0.map TMark.c)), .one (.int .i64 a1)] true [.one (.int .i64 r)] := by
  unfold w_szMarkS at hM
  refine Ctr.of_walk (by kernel_rfl) Try.func63 rfl Try.ntmps63 Try.results63 (by simp) ?_; intro N w0 hbad
  refine AW_seq fun K1 hK1 => ?_
  refine AW_region ?_
  simp (maxSteps := 10000000) [go_sem]
  refine hK1 _ ?_
  refine AW_seq fun K2 hK2 => ?_
  refine AW_region ?_
  simp (maxSteps := 10000000) [go_sem]
  refine hK2 _ ?_
  refine AW_seq fun K3 hK3 => ?_
  refine AW_seq fun K4 hK4 => ?_
  refine AW_region ?_
  simp (maxSteps := 10000000) [go_sem]
  refine hK4 _ ?_
  refine AW_cond (b := (decide ((IntKind.i64.wrap (a1 - (a0.length : Int))) < 0))) (by simp (maxSteps := 10000000) [go_sem]) (fun h5 => ?_) (fun h5 => ?_)
  · rw [if_pos h5] at hM
    have h5' := h5; try simp at h5'
    have h5'' : ¬ (0 ≤ (IntKind.i64.wrap (a1 - (a0.length : Int)))) := by have := h5; simp at this; omega
    refine AW_seq fun K6 hK6 => ?_
    refine AW_region ?_
    simp (maxSteps := 10000000) [go_sem, h5, h5', h5'']
    refine hK6 _ ?_
    obtain rfl := Option.some.inj hM
    refine AW_ret ?_
    simp (maxSteps := 10000000) [go_sem, h5, h5', h5'']
  · rw [if_neg (ne_true h5)] at hM
    have h5' := h5; try simp at h5'
    have h5'' : ¬ ((IntKind.i64.wrap (a1 - (a0.length : Int))) < 0) := by have := h5; simp at this; omega
    refine AW_skip ?_
    refine hK3 _ ?_
    refine AW_seq fun K7 hK7 => ?_
    refine AW_region ?_
    simp (maxSteps := 10000000) [go_sem, h5, h5', h5'']
    refine hK7 _ ?_
    obtain rfl := Option.some.inj hM
    refine AW_ret ?_
    simp (maxSteps := 10000000) [go_sem, h5, h5', h5'']
set_option maxHeartbeats 4000000 in
set_option maxRecDepth 100000 in
theorem w_szScene_ctr (a0 : TScene) (a1 : Int) (r : Int) (hM : w_szScene a0 a1 = some r) : Ctr Try.prog 17 [.agg (TScene.c a0), .one (.int .i64 a1)] true [.one (.int .i64 r)] := by
  unfold w_szScene at hM
  refine Ctr.of_walk (by kernel_rfl) Try.func17 rfl Try.ntmps17 Try.results17 (by simp) ?_; intro N w0 hbad
  refine AW_seq fun K1 hK1 => ?_
  refine AW_region ?_
  simp (maxSteps := 10000000) [go_sem]
  refine hK1 _ ?_
  refine AW_seq fun K2 hK2 => ?_
  obtain ⟨x1, e3, hM⟩ := bind_some hM
  refine AW_region ?_
  simp (maxSteps := 10000000) [go_sem]
  refine by_ctr false (w_szMarkS_ctr a0.marks a1 x1 e3) (by simp (maxSteps := 10000000) [go_sem]) (by simp) ?_
  simp (maxSteps := 10000000) [go_sem]
  refine hK2 _ ?_
  refine AW_seq fun K4 hK4 => ?_
  refine AW_seq fun K5 hK5 => ?_
  refine AW_region ?_
  simp (maxSteps := 10000000) [go_sem]
  refine hK5 _ ?_
  refine AW_cond (b := (decide (x1 < 0))) (by simp (maxSteps := 10000000) [go_sem]) (fun h6 => ?_) (fun h6 => ?_)
  · rw [if_pos h6] at hM
    have h6' := h6; try simp at h6'
    have h6'' : ¬ (0 ≤ x1) := by have := h6; simp at this; omega
    refine AW_seq fun K7 hK7 => ?_
    refine AW_region ?_
    simp (maxSteps := 10000000) [go_sem, h6, h6', h6'']
    refine hK7 _ ?_
    obtain rfl := Option.some.inj hM
    refine AW_ret ?_
    simp (maxSteps := 10000000) [go_sem, h6, h6', h6'']
  · rw [if_neg (ne_true h6)] at hM
    have h6' := h6; try simp at h6'
    have h6'' : ¬ (x1 < 0) := by have := h6; simp at this; omega
    refine AW_skip ?_
    refine hK4 _ ?_
    refine AW_seq fun K8 hK8 => ?_
    refine AW_region ?_
    simp (maxSteps := 10000000) [go_sem, h6, h6', h6'']
    refine hK8 _ ?_
    obtain rfl := Option.some.inj hM
    refine AW_ret ?_
    simp (maxSteps := 10000000) [go_sem, h6, h6', h6'']
end Go.Proofs.Ytopjlbifglacpaa
