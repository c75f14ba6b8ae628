/- Contracts of the program's functions: where the mirrored function answers, the program's function returns this answer. Written by a program of mine. -/
import Derived.Test.YtopjlbifglacpaaWn
import Derived.Test.YtopjlbifglacpaaMd
import Derived.Test.YtopjlbifglacpaaCt0
set_option linter.unusedSimpArgs false
set_option linter.unusedVariables false
namespace Go.Proofs.Ytopjlbifglacpaa
open Go.RowKit Am

set_option maxHeartbeats 4000000 in
set_option maxRecDepth 100000 in
theorem w_toMark_ctr (a0 : TMark) (r : TMark) (hM : w_toMark a0 = some r) : Ctr Try.prog 105 [.agg (TMark.c a0)] true [.agg (TMark.c r)] := by
  unfold w_toMark at hM
  refine Ctr.of_walk (by kernel_rfl) Try.func105 rfl Try.ntmps105 Try.results105 (by simp) ?_; intro N w0 hbad
  refine AW_seq fun K1 hK1 => ?_
  refine AW_region ?_
  simp (maxSteps := 10000000) [go_sem]
  refine hK1 _ ?_
  refine AW_seq fun K2 hK2 => ?_
  refine AW_region ?_
  simp (maxSteps := 10000000) [go_sem]
  refine hK2 _ ?_
  refine AW_seq fun K3 hK3 => ?_
  refine AW_region ?_
  simp (maxSteps := 10000000) [go_sem]
  refine hK3 _ ?_
  refine AW_seq fun K4 hK4 => ?_
  refine AW_region ?_
  simp (maxSteps := 10000000) [go_sem]
  refine hK4 _ ?_
  refine AW_seq fun K5 hK5 => ?_
  refine AW_region ?_
  simp (maxSteps := 10000000) [go_sem]
  refine hK5 _ ?_
  refine AW_seq fun K6 hK6 => ?_
  refine AW_region ?_
  simp (maxSteps := 10000000) [go_sem]
  refine hK6 _ ?_
  refine AW_seq fun K7 hK7 => ?_
  refine AW_region ?_
  simp (maxSteps := 10000000) [go_sem]
  refine hK7 _ ?_
  obtain rfl := Option.some.inj hM
  refine AW_ret ?_
  simp (maxSteps := 10000000) [go_sem]
set_option maxHeartbeats 4000000 in
set_option maxRecDepth 100000 in
theorem w_toMarkS_ctr (k : Nat) (a0 : List TMark) (r : List TMark) (hM : w_toMarkS k a0 = some r) : Ctr Try.prog 64 [.one (.sl (a0.map TMark.c))] true [.one (.sl (r.map TMark.c))] := by
  unfold w_toMarkS at hM
  refine Ctr.of_walk (by kernel_rfl) Try.func64 rfl Try.ntmps64 Try.results64 (by simp) ?_; intro N w0 hbad
  refine AW_seq fun K1 hK1 => ?_
  refine AW_region ?_
  simp (maxSteps := 10000000) [go_sem]
  refine hK1 _ ?_
  refine AW_seq fun K2 hK2 => ?_
  obtain ⟨x1, e3, hM⟩ := bind_some hM
  obtain ⟨c4, s5, s6, s7⟩ := mk_spec e3
  subst c4
  try simp at s5
  try simp at s6
  try simp at s7
  refine AW_region ?_
  simp (maxSteps := 10000000) [go_sem, s5, s6, s7]
  refine hK2 _ ?_
  obtain ⟨e8, hU10, hR9⟩ := bind_some hM; clear hM
  refine AW_mid (ι := List TMark) (fun i => ⟨23, [(3, .one (.own 448 i.length))], [], [(448, some ⟨true, i.map TMark.c⟩)]⟩) (fun i => i = e8) ?_ ?_
  · intro K11 hK11
    have hM := hU10; clear hU10
    refine AW_seq fun K12 hK12 => ?_
    refine AW_region ?_
    simp (maxSteps := 10000000) [go_sem, s5, s6, s7]
    refine hK12 _ ?_
    refine AW_block ?_
    refine AW_go (ι := (List TMark) × Int) (fun i => ⟨23, [(0, .one (.l (.sl (a0.map TMark.c)))), (3, .one (.own 448 i.1.length)), (4, .one (.l (.int .i64 i.2)))], [], [(448, some ⟨true, i.1.map TMark.c⟩)]⟩) (fun n i => w_toMarkS_u1 a0 n i.1 i.2 = some e8) k ((List.replicate ((a0.length : Int).toNat) (TMark.mk 0 0 0 0)), 0) hM (Lift.into (by constructor <;> simp [go_sem, s5, s6, s7])) (fun _ h => by simp [w_toMarkS_u1] at h) ?_
    intro KL13 n ⟨x3, x4⟩ hL13 hM
    have hM : w_toMarkS_u1 a0 (n + 1) x3 x4 = some e8 := hM; rw [w_toMarkS_u1] at hM
    refine AW_seq fun K14 hK14 => ?_
    refine AW_seq fun K15 hK15 => ?_
    refine AW_region ?_
    simp (maxSteps := 10000000) [go_sem]
    refine hK15 _ ?_
    refine AW_cond (b := (decide (x4 < (a0.length : Int)))) (by simp (maxSteps := 10000000) [go_sem]) (fun h16 => ?_) (fun h16 => ?_)
    · rw [if_pos h16] at hM
      have h16' := h16; try simp at h16'
      have h16'' : ¬ ((a0.length : Int) ≤ x4) := by have := h16; simp at this; omega
      refine AW_skip ?_
      refine hK14 _ ?_
      refine AW_seq fun K17 hK17 => ?_
      refine AW_block ?_
      obtain ⟨x5, e18, hM⟩ := bind_some hM
      obtain ⟨p19, q20, l21, g22⟩ := at_spec e18
      obtain ⟨x6, e23, hM⟩ := bind_some hM
      obtain ⟨x7, e24, hM⟩ := bind_some hM
      obtain ⟨p25, q26, l27, g28⟩ := at_spec e24
      refine AW_region ?_
      simp (maxSteps := 10000000) [go_sem, h16, h16', h16'', p19, q20, g22, p25, q26, g28, l27]
      refine by_ctr false (w_toMark_ctr x5 x6 e23) (by simp (maxSteps := 10000000) [go_sem, h16, h16', h16'', p19, q20, g22, p25, q26, g28, l27]) (by simp) ?_
      simp (maxSteps := 10000000) [go_sem, h16, h16', h16'', p19, q20, g22, p25, q26, g28, l27]
      refine hK17 _ ?_
      refine AW_region ?_
      simp (maxSteps := 10000000) [go_sem, h16, h16', h16'', p19, q20, g22, p25, q26, g28, l27]
      exact hL13 ((x3.set x4.toNat x6), (IntKind.i64.wrap (x4 + 1))) _ hM (Lift.into (by constructor <;> simp [go_sem, h16, h16', h16'', p19, q20, g22, p25, q26, g28, l27]))
    · rw [if_neg (ne_true h16)] at hM
      have h16' := h16; try simp at h16'
      have h16'' : ¬ (x4 < (a0.length : Int)) := by have := h16; simp at this; omega
      refine AW_exit ?_
      obtain rfl := Option.some.inj hM
      exact hK11 x3 _ rfl (Lift.into (by constructor <;> simp [go_sem, h16, h16', h16'']))
  · rintro x2 rfl
    have hM := hR9
    try dsimp only at hM
    refine AW_seq fun K29 hK29 => ?_
    refine AW_region ?_
    simp (maxSteps := 10000000) [go_sem, s5, s6, s7]
    refine hK29 _ ?_
    obtain rfl := Option.some.inj hM
    refine AW_ret ?_
    simp (maxSteps := 10000000) [go_sem, s5, s6, s7]
set_option maxHeartbeats 4000000 in
set_option maxRecDepth 100000 in
theorem w_toScene_ctr (k : Nat) (a0 : TScene) (r : TScene) (hM : w_toScene k a0 = some r) : Ctr Try.prog 19 [.agg (TScene.c a0)] true [.agg (TScene.c r)] := by
  unfold w_toScene at hM
  refine Ctr.of_walk (by kernel_rfl) Try.func19 rfl Try.ntmps19 Try.results19 (by simp) ?_; intro N w0 hbad
  refine AW_seq fun K1 hK1 => ?_
  refine AW_region ?_
  simp (maxSteps := 10000000) [go_sem]
  refine hK1 _ ?_
  refine AW_seq fun K2 hK2 => ?_
  refine AW_region ?_
  simp (maxSteps := 10000000) [go_sem]
  refine hK2 _ ?_
  refine AW_seq fun K3 hK3 => ?_
  refine AW_region ?_
  simp (maxSteps := 10000000) [go_sem]
  refine hK3 _ ?_
  refine AW_seq fun K4 hK4 => ?_
  refine AW_region ?_
  simp (maxSteps := 10000000) [go_sem]
  refine hK4 _ ?_
  refine AW_seq fun K5 hK5 => ?_
  obtain ⟨x1, e6, hM⟩ := bind_some hM
  refine AW_region ?_
  simp (maxSteps := 10000000) [go_sem]
  refine by_ctr false (w_toMarkS_ctr k a0.marks x1 e6) (by simp (maxSteps := 10000000) [go_sem]) (by simp) ?_
  simp (maxSteps := 10000000) [go_sem]
  refine hK5 _ ?_
  refine AW_seq fun K7 hK7 => ?_
  refine AW_region ?_
  simp (maxSteps := 10000000) [go_sem]
  refine hK7 _ ?_
  obtain rfl := Option.some.inj hM
  refine AW_ret ?_
  simp (maxSteps := 10000000) [go_sem]
set_option maxHeartbeats 4000000 in
set_option maxRecDepth 100000 in
theorem s_IsInside_ctr (k : Nat) (a0 : TScene) (r : Bool) (hM : s_IsInside k a0 = some r) : Ctr Try.prog 18 [.agg (TScene.c a0)] true [.one (.bool r)] := by
  unfold s_IsInside at hM
  refine Ctr.of_walk (by kernel_rfl) Try.func18 rfl Try.ntmps18 Try.results18 (by simp) ?_; intro N w0 hbad
  refine AW_seq fun K1 hK1 => ?_
  refine AW_region ?_
  simp (maxSteps := 10000000) [go_sem]
  refine hK1 _ ?_
  obtain ⟨e2, hU4, hR3⟩ := bind_some hM; clear hM
  refine AW_mid (ι := Unit) (fun i => ⟨63, [(1, .one (.box 1 0))], [(1, [.l (.int .i64 a0.w), .l (.int .i64 a0.h), .l (.sl (a0.marks.map TMark.c))])], []⟩) (fun i => (.inl i) = e2) ?_ ?_
  · intro K5 hK5
    have hM := hU4; clear hU4
    refine AW_seq fun K6 hK6 => ?_
    refine AW_region ?_
    simp (maxSteps := 10000000) [go_sem]
    refine hK6 _ ?_
    refine AW_block ?_
    refine AW_go (ι := Int) (fun i => ⟨63, [(1, .one (.box 1 0)), (3, .one (.l (.int .i64 i)))], [(1, [.l (.int .i64 a0.w), .l (.int .i64 a0.h), .l (.sl (a0.marks.map TMark.c))])], []⟩) (fun n i => s_IsInside_u1 a0 n i = some e2) k 0 hM (Lift.into (by constructor <;> simp [go_sem])) (fun _ h => by simp [s_IsInside_u1] at h) ?_
    intro KL7 n x1 hL7 hM
    have hM : s_IsInside_u1 a0 (n + 1) x1 = some e2 := hM; rw [s_IsInside_u1] at hM
    refine AW_seq fun K8 hK8 => ?_
    refine AW_seq fun K9 hK9 => ?_
    refine AW_region ?_
    simp (maxSteps := 10000000) [go_sem]
    refine hK9 _ ?_
    refine AW_cond (b := (decide (x1 < (a0.marks.length : Int)))) (by simp (maxSteps := 10000000) [go_sem]) (fun h10 => ?_) (fun h10 => ?_)
    · rw [if_pos h10] at hM
      have h10' := h10; try simp at h10'
      have h10'' : ¬ ((a0.marks.length : Int) ≤ x1) := by have := h10; simp at this; omega
      refine AW_skip ?_
      refine hK8 _ ?_
      refine AW_seq fun K11 hK11 => ?_
      refine AW_block ?_
      refine AW_seq fun K12 hK12 => ?_
      obtain ⟨x2, e13, hM⟩ := bind_some hM
      obtain ⟨p14, q15, l16, g17⟩ := at_spec e13
      refine AW_region ?_
      simp (maxSteps := 10000000) [go_sem, h10, h10', h10'', p14, q15, g17]
      refine hK12 _ ?_
      obtain ⟨e18, hU20, hR19⟩ := bind_some hM; clear hM
      refine AW_mid (ι := Bool) (fun i => ⟨63, [(1, .one (.box 1 0)), (3, .one (.l (.int .i64 x1))), (54, .one (.l (.bool i)))], [(1, [.l (.int .i64 a0.w), .l (.int .i64 a0.h), .l (.sl (a0.marks.map TMark.c))])], []⟩) (fun i => i = e18) ?_ ?_
      · intro K21 hK21
        have hM := hU20; clear hU20
        by_cases h22 : (decide (x2.x < 0)) = true
        · rw [if_pos h22] at hM
          have h22' := h22; try simp at h22'
          have h22'' : ¬ (0 ≤ x2.x) := by have := h22; simp at this; omega
          refine AW_region ?_
          simp (maxSteps := 10000000) [go_sem, h10, h10', h10'', p14, q15, g17, h22, h22', h22'']
          obtain rfl := Option.some.inj hM
          exact hK21 true _ rfl (Lift.into (by constructor <;> simp [go_sem, h10, h10', h10'', p14, q15, g17, h22, h22', h22'']))
        · rw [if_neg h22] at hM
          have h22 := Bool.eq_false_iff.2 h22
          have h22' := h22; try simp at h22'
          have h22'' : ¬ (x2.x < 0) := by have := h22; simp at this; omega
          by_cases h23 : (decide (x2.y < 0)) = true
          · rw [if_pos h23] at hM
            have h23' := h23; try simp at h23'
            have h23'' : ¬ (0 ≤ x2.y) := by have := h23; simp at this; omega
            refine AW_region ?_
            simp (maxSteps := 10000000) [go_sem, h10, h10', h10'', p14, q15, g17, h22, h22', h22'', h23, h23', h23'']
            obtain rfl := Option.some.inj hM
            exact hK21 true _ rfl (Lift.into (by constructor <;> simp [go_sem, h10, h10', h10'', p14, q15, g17, h22, h22', h22'', h23, h23', h23'']))
          · rw [if_neg h23] at hM
            have h23 := Bool.eq_false_iff.2 h23
            have h23' := h23; try simp at h23'
            have h23'' : ¬ (x2.y < 0) := by have := h23; simp at this; omega
            by_cases h24 : (decide (x2.w < 0)) = true
            · rw [if_pos h24] at hM
              have h24' := h24; try simp at h24'
              have h24'' : ¬ (0 ≤ x2.w) := by have := h24; simp at this; omega
              refine AW_region ?_
              simp (maxSteps := 10000000) [go_sem, h10, h10', h10'', p14, q15, g17, h22, h22', h22'', h23, h23', h23'', h24, h24', h24'']
              obtain rfl := Option.some.inj hM
              exact hK21 true _ rfl (Lift.into (by constructor <;> simp [go_sem, h10, h10', h10'', p14, q15, g17, h22, h22', h22'', h23, h23', h23'', h24, h24', h24'']))
            · rw [if_neg h24] at hM
              have h24 := Bool.eq_false_iff.2 h24
              have h24' := h24; try simp at h24'
              have h24'' : ¬ (x2.w < 0) := by have := h24; simp at this; omega
              by_cases h25 : (decide (x2.h < 0)) = true
              · rw [if_pos h25] at hM
                have h25' := h25; try simp at h25'
                have h25'' : ¬ (0 ≤ x2.h) := by have := h25; simp at this; omega
                refine AW_region ?_
                simp (maxSteps := 10000000) [go_sem, h10, h10', h10'', p14, q15, g17, h22, h22', h22'', h23, h23', h23'', h24, h24', h24'', h25, h25', h25'']
                obtain rfl := Option.some.inj hM
                exact hK21 true _ rfl (Lift.into (by constructor <;> simp [go_sem, h10, h10', h10'', p14, q15, g17, h22, h22', h22'', h23, h23', h23'', h24, h24', h24'', h25, h25', h25'']))
              · rw [if_neg h25] at hM
                have h25 := Bool.eq_false_iff.2 h25
                have h25' := h25; try simp at h25'
                have h25'' : ¬ (x2.h < 0) := by have := h25; simp at this; omega
                by_cases h26 : (decide (a0.w < (IntKind.i64.wrap (x2.x + x2.w)))) = true
                · rw [if_pos h26] at hM
                  have h26' := h26; try simp at h26'
                  have h26'' : ¬ ((IntKind.i64.wrap (x2.x + x2.w)) ≤ a0.w) := by have := h26; simp at this; omega
                  refine AW_region ?_
                  simp (maxSteps := 10000000) [go_sem, h10, h10', h10'', p14, q15, g17, h22, h22', h22'', h23, h23', h23'', h24, h24', h24'', h25, h25', h25'', h26, h26', h26'']
                  obtain rfl := Option.some.inj hM
                  exact hK21 true _ rfl (Lift.into (by constructor <;> simp [go_sem, h10, h10', h10'', p14, q15, g17, h22, h22', h22'', h23, h23', h23'', h24, h24', h24'', h25, h25', h25'', h26, h26', h26'']))
                · rw [if_neg h26] at hM
                  have h26 := Bool.eq_false_iff.2 h26
                  have h26' := h26; try simp at h26'
                  have h26'' : ¬ (a0.w < (IntKind.i64.wrap (x2.x + x2.w))) := by have := h26; simp at this; omega
                  refine AW_region ?_
                  simp (maxSteps := 10000000) [go_sem, h10, h10', h10'', p14, q15, g17, h22, h22', h22'', h23, h23', h23'', h24, h24', h24'', h25, h25', h25'', h26, h26', h26'']
                  obtain rfl := Option.some.inj hM
                  exact hK21 (decide (a0.h < (IntKind.i64.wrap (x2.y + x2.h)))) _ rfl (Lift.into (by constructor <;> simp [go_sem, h10, h10', h10'', p14, q15, g17, h22, h22', h22'', h23, h23', h23'', h24, h24', h24'', h25, h25', h25'', h26, h26', h26'']))
      · rintro x3 rfl
        have hM := hR19
        try dsimp only at hM
        refine AW_cond (b := x3) (by simp (maxSteps := 10000000) [go_sem, h10, h10', h10'', p14, q15, g17]) (fun h27 => ?_) (fun h27 => ?_)
        · rw [if_pos h27] at hM
          have h27' := h27; try simp at h27'
          refine AW_seq fun K28 hK28 => ?_
          refine AW_region ?_
          simp (maxSteps := 10000000) [go_sem, h10, h10', h10'', p14, q15, g17, h27, h27']
          refine hK28 _ ?_
          obtain rfl := Option.some.inj hM
          have hM := hR3; dsimp only at hM
          obtain rfl := Option.some.inj hM
          refine AW_ret ?_
          simp (maxSteps := 10000000) [go_sem, h10, h10', h10'', p14, q15, g17, h27, h27']
        · rw [if_neg (ne_true h27)] at hM
          have h27' := h27; try simp at h27'
          refine AW_skip ?_
          refine hK11 _ ?_
          refine AW_region ?_
          simp (maxSteps := 10000000) [go_sem, h10, h10', h10'', p14, q15, g17, h27, h27']
          exact hL7 (IntKind.i64.wrap (x1 + 1)) _ hM (Lift.into (by constructor <;> simp [go_sem, h10, h10', h10'', p14, q15, g17, h27, h27']))
    · rw [if_neg (ne_true h10)] at hM
      have h10' := h10; try simp at h10'
      have h10'' : ¬ (x1 < (a0.marks.length : Int)) := by have := h10; simp at this; omega
      refine AW_exit ?_
      obtain rfl := Option.some.inj hM
      exact hK5 () _ rfl (Lift.into (by constructor <;> simp [go_sem, h10, h10', h10'']))
  · rintro _ rfl
    have hM := hR3
    dsimp only at hM
    obtain ⟨e29, hU31, hR30⟩ := bind_some hM; clear hM
    refine AW_mid (ι := Bool) (fun i => ⟨63, [(2, .one (.l (.bool i)))], [], []⟩) (fun i => i = e29) ?_ ?_
    · intro K32 hK32
      have hM := hU31; clear hU31
      by_cases h33 : (decide (0 ≤ a0.w)) = true
      · rw [if_pos h33] at hM
        have h33' := h33; try simp at h33'
        have h33'' : ¬ (a0.w < 0) := by have := h33; simp at this; omega
        refine AW_region ?_
        simp (maxSteps := 10000000) [go_sem, h33, h33', h33'']
        obtain rfl := Option.some.inj hM
        exact hK32 (decide (0 ≤ a0.h)) _ rfl (Lift.into (by constructor <;> simp [go_sem, h33, h33', h33'']))
      · rw [if_neg h33] at hM
        have h33 := Bool.eq_false_iff.2 h33
        have h33' := h33; try simp at h33'
        have h33'' : ¬ (0 ≤ a0.w) := by have := h33; simp at this; omega
        refine AW_region ?_
        simp (maxSteps := 10000000) [go_sem, h33, h33', h33'']
        obtain rfl := Option.some.inj hM
        exact hK32 false _ rfl (Lift.into (by constructor <;> simp [go_sem, h33, h33', h33'']))
    · rintro x4 rfl
      have hM := hR30
      try dsimp only at hM
      obtain rfl := Option.some.inj hM
      refine AW_ret ?_
      simp (maxSteps := 10000000) [go_sem]
set_option maxHeartbeats 4000000 in
set_option maxRecDepth 100000 in
theorem i_IsInside_ctr (k : Nat) (a0 : TScene) (r : Bool) (hM : i_IsInside k a0 = some r) : Ctr Try.prog 20 [.agg (TScene.c a0)] true [.one (.bool r)] := by
  unfold i_IsInside at hM
  refine Ctr.of_walk (by kernel_rfl) Try.func20 rfl Try.ntmps20 Try.results20 (by simp) ?_; intro N w0 hbad
  refine AW_seq fun K1 hK1 => ?_
  refine AW_region ?_
  simp (maxSteps := 10000000) [go_sem]
  refine hK1 _ ?_
  obtain ⟨e2, hU4, hR3⟩ := bind_some hM; clear hM
  refine AW_mid (ι := Unit) (fun i => ⟨59, [(1, .one (.box 1 0))], [(1, [.l (.int .i64 a0.w), .l (.int .i64 a0.h), .l (.sl (a0.marks.map TMark.c))])], []⟩) (fun i => (.inl i) = e2) ?_ ?_
  · intro K5 hK5
    have hM := hU4; clear hU4
    refine AW_seq fun K6 hK6 => ?_
    refine AW_region ?_
    simp (maxSteps := 10000000) [go_sem]
    refine hK6 _ ?_
    refine AW_block ?_
    refine AW_go (ι := Int) (fun i => ⟨59, [(1, .one (.box 1 0)), (6, .one (.l (.sl (a0.marks.map TMark.c)))), (7, .one (.l (.int .i64 (a0.marks.length : Int)))), (8, .one (.l (.int .i64 i)))], [(1, [.l (.int .i64 a0.w), .l (.int .i64 a0.h), .l (.sl (a0.marks.map TMark.c))])], []⟩) (fun n i => i_IsInside_u1 a0 n i = some e2) k 0 hM (Lift.into (by constructor <;> simp [go_sem])) (fun _ h => by simp [i_IsInside_u1] at h) ?_
    intro KL7 n x1 hL7 hM
    have hM : i_IsInside_u1 a0 (n + 1) x1 = some e2 := hM; rw [i_IsInside_u1] at hM
    refine AW_seq fun K8 hK8 => ?_
    refine AW_region ?_
    simp (maxSteps := 10000000) [go_sem]
    refine hK8 _ ?_
    refine AW_seq fun K9 hK9 => ?_
    refine AW_cond (b := (decide (x1 < (a0.marks.length : Int)))) (by simp (maxSteps := 10000000) [go_sem]) (fun h10 => ?_) (fun h10 => ?_)
    · rw [if_pos h10] at hM
      have h10' := h10; try simp at h10'
      have h10'' : ¬ ((a0.marks.length : Int) ≤ x1) := by have := h10; simp at this; omega
      refine AW_skip ?_
      refine hK9 _ ?_
      refine AW_seq fun K11 hK11 => ?_
      refine AW_block ?_
      refine AW_seq fun K12 hK12 => ?_
      obtain ⟨x2, e13, hM⟩ := bind_some hM
      obtain ⟨p14, q15, l16, g17⟩ := at_spec e13
      refine AW_region ?_
      simp (maxSteps := 10000000) [go_sem, h10, h10', h10'', p14, q15, g17]
      refine hK12 _ ?_
      obtain ⟨e18, hU20, hR19⟩ := bind_some hM; clear hM
      refine AW_mid (ι := Bool) (fun i => ⟨59, [(1, .one (.box 1 0)), (6, .one (.l (.sl (a0.marks.map TMark.c)))), (7, .one (.l (.int .i64 (a0.marks.length : Int)))), (8, .one (.l (.int .i64 x1))), (49, .one (.l (.bool i)))], [(1, [.l (.int .i64 a0.w), .l (.int .i64 a0.h), .l (.sl (a0.marks.map TMark.c))])], []⟩) (fun i => i = e18) ?_ ?_
      · intro K21 hK21
        have hM := hU20; clear hU20
        by_cases h22 : (decide (x2.x < 0)) = true
        · rw [if_pos h22] at hM
          have h22' := h22; try simp at h22'
          have h22'' : ¬ (0 ≤ x2.x) := by have := h22; simp at this; omega
          refine AW_region ?_
          simp (maxSteps := 10000000) [go_sem, h10, h10', h10'', p14, q15, g17, h22, h22', h22'']
          obtain rfl := Option.some.inj hM
          exact hK21 true _ rfl (Lift.into (by constructor <;> simp [go_sem, h10, h10', h10'', p14, q15, g17, h22, h22', h22'']))
        · rw [if_neg h22] at hM
          have h22 := Bool.eq_false_iff.2 h22
          have h22' := h22; try simp at h22'
          have h22'' : ¬ (x2.x < 0) := by have := h22; simp at this; omega
          by_cases h23 : (decide (x2.y < 0)) = true
          · rw [if_pos h23] at hM
            have h23' := h23; try simp at h23'
            have h23'' : ¬ (0 ≤ x2.y) := by have := h23; simp at this; omega
            refine AW_region ?_
            simp (maxSteps := 10000000) [go_sem, h10, h10', h10'', p14, q15, g17, h22, h22', h22'', h23, h23', h23'']
            obtain rfl := Option.some.inj hM
            exact hK21 true _ rfl (Lift.into (by constructor <;> simp [go_sem, h10, h10', h10'', p14, q15, g17, h22, h22', h22'', h23, h23', h23'']))
          · rw [if_neg h23] at hM
            have h23 := Bool.eq_false_iff.2 h23
            have h23' := h23; try simp at h23'
            have h23'' : ¬ (x2.y < 0) := by have := h23; simp at this; omega
            by_cases h24 : (decide (x2.w < 0)) = true
            · rw [if_pos h24] at hM
              have h24' := h24; try simp at h24'
              have h24'' : ¬ (0 ≤ x2.w) := by have := h24; simp at this; omega
              refine AW_region ?_
              simp (maxSteps := 10000000) [go_sem, h10, h10', h10'', p14, q15, g17, h22, h22', h22'', h23, h23', h23'', h24, h24', h24'']
              obtain rfl := Option.some.inj hM
              exact hK21 true _ rfl (Lift.into (by constructor <;> simp [go_sem, h10, h10', h10'', p14, q15, g17, h22, h22', h22'', h23, h23', h23'', h24, h24', h24'']))
            · rw [if_neg h24] at hM
              have h24 := Bool.eq_false_iff.2 h24
              have h24' := h24; try simp at h24'
              have h24'' : ¬ (x2.w < 0) := by have := h24; simp at this; omega
              by_cases h25 : (decide (x2.h < 0)) = true
              · rw [if_pos h25] at hM
                have h25' := h25; try simp at h25'
                have h25'' : ¬ (0 ≤ x2.h) := by have := h25; simp at this; omega
                refine AW_region ?_
                simp (maxSteps := 10000000) [go_sem, h10, h10', h10'', p14, q15, g17, h22, h22', h22'', h23, h23', h23'', h24, h24', h24'', h25, h25', h25'']
                obtain rfl := Option.some.inj hM
                exact hK21 true _ rfl (Lift.into (by constructor <;> simp [go_sem, h10, h10', h10'', p14, q15, g17, h22, h22', h22'', h23, h23', h23'', h24, h24', h24'', h25, h25', h25'']))
              · rw [if_neg h25] at hM
                have h25 := Bool.eq_false_iff.2 h25
                have h25' := h25; try simp at h25'
                have h25'' : ¬ (x2.h < 0) := by have := h25; simp at this; omega
                by_cases h26 : (decide (a0.w < (IntKind.i64.wrap (x2.x + x2.w)))) = true
                · rw [if_pos h26] at hM
                  have h26' := h26; try simp at h26'
                  have h26'' : ¬ ((IntKind.i64.wrap (x2.x + x2.w)) ≤ a0.w) := by have := h26; simp at this; omega
                  refine AW_region ?_
                  simp (maxSteps := 10000000) [go_sem, h10, h10', h10'', p14, q15, g17, h22, h22', h22'', h23, h23', h23'', h24, h24', h24'', h25, h25', h25'', h26, h26', h26'']
                  obtain rfl := Option.some.inj hM
                  exact hK21 true _ rfl (Lift.into (by constructor <;> simp [go_sem, h10, h10', h10'', p14, q15, g17, h22, h22', h22'', h23, h23', h23'', h24, h24', h24'', h25, h25', h25'', h26, h26', h26'']))
                · rw [if_neg h26] at hM
                  have h26 := Bool.eq_false_iff.2 h26
                  have h26' := h26; try simp at h26'
                  have h26'' : ¬ (a0.w < (IntKind.i64.wrap (x2.x + x2.w))) := by have := h26; simp at this; omega
                  refine AW_region ?_
                  simp (maxSteps := 10000000) [go_sem, h10, h10', h10'', p14, q15, g17, h22, h22', h22'', h23, h23', h23'', h24, h24', h24'', h25, h25', h25'', h26, h26', h26'']
                  obtain rfl := Option.some.inj hM
                  exact hK21 (decide (a0.h < (IntKind.i64.wrap (x2.y + x2.h)))) _ rfl (Lift.into (by constructor <;> simp [go_sem, h10, h10', h10'', p14, q15, g17, h22, h22', h22'', h23, h23', h23'', h24, h24', h24'', h25, h25', h25'', h26, h26', h26'']))
      · rintro x3 rfl
        have hM := hR19
        try dsimp only at hM
        refine AW_cond (b := x3) (by simp (maxSteps := 10000000) [go_sem, h10, h10', h10'', p14, q15, g17]) (fun h27 => ?_) (fun h27 => ?_)
        · rw [if_pos h27] at hM
          have h27' := h27; try simp at h27'
          refine AW_seq fun K28 hK28 => ?_
          refine AW_region ?_
          simp (maxSteps := 10000000) [go_sem, h10, h10', h10'', p14, q15, g17, h27, h27']
          refine hK28 _ ?_
          obtain rfl := Option.some.inj hM
          have hM := hR3; dsimp only at hM
          obtain rfl := Option.some.inj hM
          refine AW_ret ?_
          simp (maxSteps := 10000000) [go_sem, h10, h10', h10'', p14, q15, g17, h27, h27']
        · rw [if_neg (ne_true h27)] at hM
          have h27' := h27; try simp at h27'
          refine AW_skip ?_
          refine hK11 _ ?_
          refine AW_region ?_
          simp (maxSteps := 10000000) [go_sem, h10, h10', h10'', p14, q15, g17, h27, h27']
          exact hL7 (IntKind.i64.wrap (x1 + 1)) _ hM (Lift.into (by constructor <;> simp [go_sem, h10, h10', h10'', p14, q15, g17, h27, h27']))
    · rw [if_neg (ne_true h10)] at hM
      have h10' := h10; try simp at h10'
      have h10'' : ¬ (x1 < (a0.marks.length : Int)) := by have := h10; simp at this; omega
      refine AW_exit ?_
      obtain rfl := Option.some.inj hM
      exact hK5 () _ rfl (Lift.into (by constructor <;> simp [go_sem, h10, h10', h10'']))
  · rintro _ rfl
    have hM := hR3
    dsimp only at hM
    obtain ⟨e29, hU31, hR30⟩ := bind_some hM; clear hM
    refine AW_mid (ι := Bool) (fun i => ⟨59, [(2, .one (.l (.bool i)))], [], []⟩) (fun i => i = e29) ?_ ?_
    · intro K32 hK32
      have hM := hU31; clear hU31
      by_cases h33 : (decide (0 ≤ a0.w)) = true
      · rw [if_pos h33] at hM
        have h33' := h33; try simp at h33'
        have h33'' : ¬ (a0.w < 0) := by have := h33; simp at this; omega
        refine AW_region ?_
        simp (maxSteps := 10000000) [go_sem, h33, h33', h33'']
        obtain rfl := Option.some.inj hM
        exact hK32 (decide (0 ≤ a0.h)) _ rfl (Lift.into (by constructor <;> simp [go_sem, h33, h33', h33'']))
      · rw [if_neg h33] at hM
        have h33 := Bool.eq_false_iff.2 h33
        have h33' := h33; try simp at h33'
        have h33'' : ¬ (0 ≤ a0.w) := by have := h33; simp at this; omega
        refine AW_region ?_
        simp (maxSteps := 10000000) [go_sem, h33, h33', h33'']
        obtain rfl := Option.some.inj hM
        exact hK32 false _ rfl (Lift.into (by constructor <;> simp [go_sem, h33, h33', h33'']))
    · rintro x4 rfl
      have hM := hR30
      try dsimp only at hM
      obtain rfl := Option.some.inj hM
      refine AW_ret ?_
      simp (maxSteps := 10000000) [go_sem]
set_option maxHeartbeats 4000000 in
set_option maxRecDepth 100000 in
theorem w_eqMark_ctr (a0 : TMark) (a1 : TMark) (r : Bool) (hM : w_eqMark a0 a1 = some r) : Ctr Try.prog 106 [.agg (TMark.c a0), .agg (TMark.c a1)] true [.one (.bool r)] := by
  unfold w_eqMark at hM
  refine Ctr.of_walk (by kernel_rfl) Try.func106 rfl Try.ntmps106 Try.results106 (by simp) ?_; intro N w0 hbad
  refine AW_seq fun K1 hK1 => ?_
  refine AW_region ?_
  simp (maxSteps := 10000000) [go_sem]
  refine hK1 _ ?_
  refine AW_seq fun K2 hK2 => ?_
  refine AW_seq fun K3 hK3 => ?_
  refine AW_region ?_
  simp (maxSteps := 10000000) [go_sem]
  refine hK3 _ ?_
  refine AW_cond (b := (!decide (a0.x = a1.x))) (by simp (maxSteps := 10000000) [go_sem]) (fun h4 => ?_) (fun h4 => ?_)
  · rw [if_pos h4] at hM
    have h4' := h4; try simp at h4'
    refine AW_seq fun K5 hK5 => ?_
    refine AW_region ?_
    simp (maxSteps := 10000000) [go_sem, h4, h4']
    refine hK5 _ ?_
    obtain rfl := Option.some.inj hM
    refine AW_ret ?_
    simp (maxSteps := 10000000) [go_sem, h4, h4']
  · rw [if_neg (ne_true h4)] at hM
    have h4' := h4; try simp at h4'
    refine AW_skip ?_
    refine hK2 _ ?_
    refine AW_seq fun K6 hK6 => ?_
    refine AW_seq fun K7 hK7 => ?_
    refine AW_region ?_
    simp (maxSteps := 10000000) [go_sem, h4, h4']
    refine hK7 _ ?_
    refine AW_cond (b := (!decide (a0.y = a1.y))) (by simp (maxSteps := 10000000) [go_sem, h4, h4']) (fun h8 => ?_) (fun h8 => ?_)
    · rw [if_pos h8] at hM
      have h8' := h8; try simp at h8'
      refine AW_seq fun K9 hK9 => ?_
      refine AW_region ?_
      simp (maxSteps := 10000000) [go_sem, h4, h4', h8, h8']
      refine hK9 _ ?_
      obtain rfl := Option.some.inj hM
      refine AW_ret ?_
      simp (maxSteps := 10000000) [go_sem, h4, h4', h8, h8']
    · rw [if_neg (ne_true h8)] at hM
      have h8' := h8; try simp at h8'
      refine AW_skip ?_
      refine hK6 _ ?_
      refine AW_seq fun K10 hK10 => ?_
      refine AW_seq fun K11 hK11 => ?_
      refine AW_region ?_
      simp (maxSteps := 10000000) [go_sem, h4, h4', h8, h8']
      refine hK11 _ ?_
      refine AW_cond (b := (!decide (a0.w = a1.w))) (by simp (maxSteps := 10000000) [go_sem, h4, h4', h8, h8']) (fun h12 => ?_) (fun h12 => ?_)
      · rw [if_pos h12] at hM
        have h12' := h12; try simp at h12'
        refine AW_seq fun K13 hK13 => ?_
        refine AW_region ?_
        simp (maxSteps := 10000000) [go_sem, h4, h4', h8, h8', h12, h12']
        refine hK13 _ ?_
        obtain rfl := Option.some.inj hM
        refine AW_ret ?_
        simp (maxSteps := 10000000) [go_sem, h4, h4', h8, h8', h12, h12']
      · rw [if_neg (ne_true h12)] at hM
        have h12' := h12; try simp at h12'
        refine AW_skip ?_
        refine hK10 _ ?_
        refine AW_seq fun K14 hK14 => ?_
        refine AW_seq fun K15 hK15 => ?_
        refine AW_region ?_
        simp (maxSteps := 10000000) [go_sem, h4, h4', h8, h8', h12, h12']
        refine hK15 _ ?_
        refine AW_cond (b := (!decide (a0.h = a1.h))) (by simp (maxSteps := 10000000) [go_sem, h4, h4', h8, h8', h12, h12']) (fun h16 => ?_) (fun h16 => ?_)
        · rw [if_pos h16] at hM
          have h16' := h16; try simp at h16'
          refine AW_seq fun K17 hK17 => ?_
          refine AW_region ?_
          simp (maxSteps := 10000000) [go_sem, h4, h4', h8, h8', h12, h12', h16, h16']
          refine hK17 _ ?_
          obtain rfl := Option.some.inj hM
          refine AW_ret ?_
          simp (maxSteps := 10000000) [go_sem, h4, h4', h8, h8', h12, h12', h16, h16']
        · rw [if_neg (ne_true h16)] at hM
          have h16' := h16; try simp at h16'
          refine AW_skip ?_
          refine hK14 _ ?_
          refine AW_seq fun K18 hK18 => ?_
          refine AW_region ?_
          simp (maxSteps := 10000000) [go_sem, h4, h4', h8, h8', h12, h12', h16, h16']
          refine hK18 _ ?_
          obtain rfl := Option.some.inj hM
          refine AW_ret ?_
          simp (maxSteps := 10000000) [go_sem, h4, h4', h8, h8', h12, h12', h16, h16']
set_option maxHeartbeats 4000000 in
set_option maxRecDepth 100000 in
theorem w_eqMarkS_ctr (k : Nat) (a0 : List TMark) (a1 : List TMark) (r : Bool) (hM : w_eqMarkS k a0 a1 = some r) : Ctr Try.prog 65 [.one (.sl (a0.map TMark.c)), .one (.sl (a1.map TMark.c))] true [.one (.bool r)] := by
  unfold w_eqMarkS at hM
  refine Ctr.of_walk (by kernel_rfl) Try.func65 rfl Try.ntmps65 Try.results65 (by simp) ?_; intro N w0 hbad
  refine AW_seq fun K1 hK1 => ?_
  refine AW_region ?_
  simp (maxSteps := 10000000) [go_sem]
  refine hK1 _ ?_
  refine AW_seq fun K2 hK2 => ?_
  refine AW_seq fun K3 hK3 => ?_
  refine AW_region ?_
  simp (maxSteps := 10000000) [go_sem]
  refine hK3 _ ?_
  refine AW_cond (b := (!decide ((a0.length : Int) = (a1.length : Int)))) (by simp (maxSteps := 10000000) [go_sem]) (fun h4 => ?_) (fun h4 => ?_)
  · rw [if_pos h4] at hM
    have h4' := h4; try simp at h4'
    refine AW_seq fun K5 hK5 => ?_
    refine AW_region ?_
    simp (maxSteps := 10000000) [go_sem, h4, h4']
    refine hK5 _ ?_
    obtain rfl := Option.some.inj hM
    refine AW_ret ?_
    simp (maxSteps := 10000000) [go_sem, h4, h4']
  · rw [if_neg (ne_true h4)] at hM
    have h4' := h4; try simp at h4'
    refine AW_skip ?_
    refine hK2 _ ?_
    obtain ⟨e6, hU8, hR7⟩ := bind_some hM; clear hM
    refine AW_mid (ι := Unit) (fun i => ⟨27, [], [], []⟩) (fun i => (.inl i) = e6) ?_ ?_
    · intro K9 hK9
      have hM := hU8; clear hU8
      refine AW_seq fun K10 hK10 => ?_
      refine AW_region ?_
      simp (maxSteps := 10000000) [go_sem, h4, h4']
      refine hK10 _ ?_
      refine AW_block ?_
      refine AW_go (ι := Int) (fun i => ⟨27, [(0, .one (.l (.sl (a0.map TMark.c)))), (1, .one (.l (.sl (a1.map TMark.c)))), (5, .one (.l (.int .i64 i)))], [], []⟩) (fun n i => w_eqMarkS_u1 a0 a1 n i = some e6) k 0 hM (Lift.into (by constructor <;> simp [go_sem, h4, h4'])) (fun _ h => by simp [w_eqMarkS_u1] at h) ?_
      intro KL11 n x1 hL11 hM
      have hM : w_eqMarkS_u1 a0 a1 (n + 1) x1 = some e6 := hM; rw [w_eqMarkS_u1] at hM
      refine AW_seq fun K12 hK12 => ?_
      refine AW_seq fun K13 hK13 => ?_
      refine AW_region ?_
      simp (maxSteps := 10000000) [go_sem]
      refine hK13 _ ?_
      refine AW_cond (b := (decide (x1 < (a0.length : Int)))) (by simp (maxSteps := 10000000) [go_sem]) (fun h14 => ?_) (fun h14 => ?_)
      · rw [if_pos h14] at hM
        have h14' := h14; try simp at h14'
        have h14'' : ¬ ((a0.length : Int) ≤ x1) := by have := h14; simp at this; omega
        refine AW_skip ?_
        refine hK12 _ ?_
        refine AW_seq fun K15 hK15 => ?_
        refine AW_block ?_
        refine AW_seq fun K16 hK16 => ?_
        obtain ⟨x2, e17, hM⟩ := bind_some hM
        obtain ⟨p18, q19, l20, g21⟩ := at_spec e17
        obtain ⟨x3, e22, hM⟩ := bind_some hM
        obtain ⟨p23, q24, l25, g26⟩ := at_spec e22
        obtain ⟨x4, e27, hM⟩ := bind_some hM
        refine AW_quick [[], [], [0, 1], [0, 1, 2], [], [], [4, 5], [4, 5, 6], [0, 1, 2, 3, 4, 5, 6, 7], [0, 1, 2, 3, 4, 5, 6, 7, 8]] 8 mixed (by kernel_rfl) (by kernel_rfl) ?_
        simp (maxSteps := 10000000) [go_sem, h14, h14', h14'', p18, q19, g21, p23, q24, g26]
        refine by_ctr false (w_eqMark_ctr x2 x3 x4 e27) (by simp (maxSteps := 10000000) [go_sem, h14, h14', h14'', p18, q19, g21, p23, q24, g26]) (by simp) ?_
        simp (maxSteps := 10000000) [go_sem, h14, h14', h14'', p18, q19, g21, p23, q24, g26]
        refine hK16 _ ?_
        refine AW_cond (b := (!x4)) (by simp (maxSteps := 10000000) [go_sem, h14, h14', h14'', p18, q19, g21, p23, q24, g26]) (fun h28 => ?_) (fun h28 => ?_)
        · rw [if_pos h28] at hM
          have h28' := h28; try simp at h28'
          refine AW_seq fun K29 hK29 => ?_
          refine AW_region ?_
          simp (maxSteps := 10000000) [go_sem, h14, h14', h14'', p18, q19, g21, p23, q24, g26, h28, h28']
          refine hK29 _ ?_
          obtain rfl := Option.some.inj hM
          have hM := hR7; dsimp only at hM
          obtain rfl := Option.some.inj hM
          refine AW_ret ?_
          simp (maxSteps := 10000000) [go_sem, h14, h14', h14'', p18, q19, g21, p23, q24, g26, h28, h28']
        · rw [if_neg (ne_true h28)] at hM
          have h28' := h28; try simp at h28'
          refine AW_skip ?_
          refine hK15 _ ?_
          refine AW_region ?_
          simp (maxSteps := 10000000) [go_sem, h14, h14', h14'', p18, q19, g21, p23, q24, g26, h28, h28']
          exact hL11 (IntKind.i64.wrap (x1 + 1)) _ hM (Lift.into (by constructor <;> simp [go_sem, h14, h14', h14'', p18, q19, g21, p23, q24, g26, h28, h28']))
      · rw [if_neg (ne_true h14)] at hM
        have h14' := h14; try simp at h14'
        have h14'' : ¬ (x1 < (a0.length : Int)) := by have := h14; simp at this; omega
        refine AW_exit ?_
        obtain rfl := Option.some.inj hM
        exact hK9 () _ rfl (Lift.into (by constructor <;> simp [go_sem, h14, h14', h14'']))
    · rintro _ rfl
      have hM := hR7
      dsimp only at hM
      refine AW_seq fun K30 hK30 => ?_
      refine AW_region ?_
      simp (maxSteps := 10000000) [go_sem, h4, h4']
      refine hK30 _ ?_
      obtain rfl := Option.some.inj hM
      refine AW_ret ?_
      simp (maxSteps := 10000000) [go_sem, h4, h4']
set_option maxHeartbeats 4000000 in
set_option maxRecDepth 100000 in
theorem w_eqScene_ctr (k : Nat) (a0 : TScene) (a1 : TScene) (r : Bool) (hM : w_eqScene k a0 a1 = some r) : Ctr Try.prog 21 [.agg (TScene.c a0), .agg (TScene.c a1)] true [.one (.bool r)] := by
  unfold w_eqScene at hM
  refine Ctr.of_walk (by kernel_rfl) Try.func21 rfl Try.ntmps21 Try.results21 (by simp) ?_; intro N w0 hbad
  refine AW_seq fun K1 hK1 => ?_
  refine AW_region ?_
  simp (maxSteps := 10000000) [go_sem]
  refine hK1 _ ?_
  refine AW_seq fun K2 hK2 => ?_
  refine AW_seq fun K3 hK3 => ?_
  refine AW_region ?_
  simp (maxSteps := 10000000) [go_sem]
  refine hK3 _ ?_
  refine AW_cond (b := (!decide (a0.w = a1.w))) (by simp (maxSteps := 10000000) [go_sem]) (fun h4 => ?_) (fun h4 => ?_)
  · rw [if_pos h4] at hM
    have h4' := h4; try simp at h4'
    refine AW_seq fun K5 hK5 => ?_
    refine AW_region ?_
    simp (maxSteps := 10000000) [go_sem, h4, h4']
    refine hK5 _ ?_
    obtain rfl := Option.some.inj hM
    refine AW_ret ?_
    simp (maxSteps := 10000000) [go_sem, h4, h4']
  · rw [if_neg (ne_true h4)] at hM
    have h4' := h4; try simp at h4'
    refine AW_skip ?_
    refine hK2 _ ?_
    refine AW_seq fun K6 hK6 => ?_
    refine AW_seq fun K7 hK7 => ?_
    refine AW_region ?_
    simp (maxSteps := 10000000) [go_sem, h4, h4']
    refine hK7 _ ?_
    refine AW_cond (b := (!decide (a0.h = a1.h))) (by simp (maxSteps := 10000000) [go_sem, h4, h4']) (fun h8 => ?_) (fun h8 => ?_)
    · rw [if_pos h8] at hM
      have h8' := h8; try simp at h8'
      refine AW_seq fun K9 hK9 => ?_
      refine AW_region ?_
      simp (maxSteps := 10000000) [go_sem, h4, h4', h8, h8']
      refine hK9 _ ?_
      obtain rfl := Option.some.inj hM
      refine AW_ret ?_
      simp (maxSteps := 10000000) [go_sem, h4, h4', h8, h8']
    · rw [if_neg (ne_true h8)] at hM
      have h8' := h8; try simp at h8'
      refine AW_skip ?_
      refine hK6 _ ?_
      refine AW_seq fun K10 hK10 => ?_
      refine AW_seq fun K11 hK11 => ?_
      obtain ⟨x1, e12, hM⟩ := bind_some hM
      refine AW_region ?_
      simp (maxSteps := 10000000) [go_sem, h4, h4', h8, h8']
      refine by_ctr false (w_eqMarkS_ctr k a0.marks a1.marks x1 e12) (by simp (maxSteps := 10000000) [go_sem, h4, h4', h8, h8']) (by simp) ?_
      simp (maxSteps := 10000000) [go_sem, h4, h4', h8, h8']
      refine hK11 _ ?_
      refine AW_cond (b := (!x1)) (by simp (maxSteps := 10000000) [go_sem, h4, h4', h8, h8']) (fun h13 => ?_) (fun h13 => ?_)
      · rw [if_pos h13] at hM
        have h13' := h13; try simp at h13'
        refine AW_seq fun K14 hK14 => ?_
        refine AW_region ?_
        simp (maxSteps := 10000000) [go_sem, h4, h4', h8, h8', h13, h13']
        refine hK14 _ ?_
        obtain rfl := Option.some.inj hM
        refine AW_ret ?_
        simp (maxSteps := 10000000) [go_sem, h4, h4', h8, h8', h13, h13']
      · rw [if_neg (ne_true h13)] at hM
        have h13' := h13; try simp at h13'
        refine AW_skip ?_
        refine hK10 _ ?_
        refine AW_seq fun K15 hK15 => ?_
        refine AW_region ?_
        simp (maxSteps := 10000000) [go_sem, h4, h4', h8, h8', h13, h13']
        refine hK15 _ ?_
        obtain rfl := Option.some.inj hM
        refine AW_ret ?_
        simp (maxSteps := 10000000) [go_sem, h4, h4', h8, h8', h13, h13']
set_option maxHeartbeats 4000000 in
set_option maxRecDepth 100000 in
theorem w_FnExactIsInside_ctr (k : Nat) (a0 : TScene) (r : Bool) (hM : w_FnExactIsInside k a0 = some r) : Ctr Try.prog 4 [.agg (TScene.c a0)] true [.one (.bool r)] := by
  unfold w_FnExactIsInside at hM
  refine Ctr.of_walk (by kernel_rfl) Try.func4 rfl Try.ntmps4 Try.results4 (by simp) ?_; intro N w0 hbad
  refine AW_seq fun K1 hK1 => ?_
  refine AW_region ?_
  simp (maxSteps := 10000000) [go_sem]
  refine hK1 _ ?_
  refine AW_seq fun K2 hK2 => ?_
  refine AW_region ?_
  simp (maxSteps := 10000000) [go_sem]
  refine hK2 _ ?_
  refine AW_seq fun K3 hK3 => ?_
  obtain ⟨x1, e4, hM⟩ := bind_some hM
  refine AW_region ?_
  simp (maxSteps := 10000000) [go_sem]
  refine by_ctr false (w_szScene_ctr a0 1048576 x1 e4) (by simp (maxSteps := 10000000) [go_sem]) (by simp) ?_
  simp (maxSteps := 10000000) [go_sem]
  refine hK3 _ ?_
  refine AW_seq fun K5 hK5 => ?_
  refine AW_seq fun K6 hK6 => ?_
  refine AW_region ?_
  simp (maxSteps := 10000000) [go_sem]
  refine hK6 _ ?_
  refine AW_cond (b := (decide (x1 < 0))) (by simp (maxSteps := 10000000) [go_sem]) (fun h7 => ?_) (fun h7 => ?_)
  · rw [if_pos h7] at hM
    have h7' := h7; try simp at h7'
    have h7'' : ¬ (0 ≤ x1) := by have := h7; simp at this; omega
    refine AW_seq fun K8 hK8 => ?_
    refine AW_region ?_
    simp (maxSteps := 10000000) [go_sem, h7, h7', h7'']
    refine hK8 _ ?_
    obtain rfl := Option.some.inj hM
    refine AW_ret ?_
    simp (maxSteps := 10000000) [go_sem, h7, h7', h7'']
  · rw [if_neg (ne_true h7)] at hM
    have h7' := h7; try simp at h7'
    have h7'' : ¬ (x1 < 0) := by have := h7; simp at this; omega
    refine AW_skip ?_
    refine hK5 _ ?_
    refine AW_seq fun K9 hK9 => ?_
    obtain ⟨x2, e10, hM⟩ := bind_some hM
    obtain ⟨x3, e11, hM⟩ := bind_some hM
    refine AW_region ?_
    simp (maxSteps := 10000000) [go_sem, h7, h7', h7'']
    refine by_ctr false (w_toScene_ctr k a0 x2 e10) (by simp (maxSteps := 10000000) [go_sem, h7, h7', h7'']) (by simp) ?_
    simp (maxSteps := 10000000) [go_sem, h7, h7', h7'']
    refine by_ctr false (s_IsInside_ctr k x2 x3 e11) (by simp (maxSteps := 10000000) [go_sem, h7, h7', h7'']) (by simp) ?_
    simp (maxSteps := 10000000) [go_sem, h7, h7', h7'']
    refine hK9 _ ?_
    refine AW_seq fun K12 hK12 => ?_
    obtain ⟨x4, e13, hM⟩ := bind_some hM
    refine AW_region ?_
    simp (maxSteps := 10000000) [go_sem, h7, h7', h7'']
    refine by_ctr false (w_toScene_ctr k a0 x4 e13) (by simp (maxSteps := 10000000) [go_sem, h7, h7', h7'']) (by simp) ?_
    simp (maxSteps := 10000000) [go_sem, h7, h7', h7'']
    refine hK12 _ ?_
    refine AW_seq fun K14 hK14 => ?_
    obtain ⟨x5, e15, hM⟩ := bind_some hM
    refine AW_region ?_
    simp (maxSteps := 10000000) [go_sem, h7, h7', h7'']
    refine by_ctr false (i_IsInside_ctr k x4 x5 e15) (by simp (maxSteps := 10000000) [go_sem, h7, h7', h7'']) (by simp) ?_
    simp (maxSteps := 10000000) [go_sem, h7, h7', h7'']
    refine hK14 _ ?_
    refine AW_seq fun K16 hK16 => ?_
    refine AW_seq fun K17 hK17 => ?_
    refine AW_region ?_
    simp (maxSteps := 10000000) [go_sem, h7, h7', h7'']
    refine hK17 _ ?_
    refine AW_cond (b := (!(x5 == x3))) (by simp (maxSteps := 10000000) [go_sem, h7, h7', h7'']) (fun h18 => ?_) (fun h18 => ?_)
    · rw [if_pos h18] at hM
      have h18' := h18; try simp at h18'
      refine AW_seq fun K19 hK19 => ?_
      refine AW_region ?_
      simp (maxSteps := 10000000) [go_sem, h7, h7', h7'', h18, h18']
      refine hK19 _ ?_
      obtain rfl := Option.some.inj hM
      refine AW_ret ?_
      simp (maxSteps := 10000000) [go_sem, h7, h7', h7'', h18, h18']
    · rw [if_neg (ne_true h18)] at hM
      have h18' := h18; try simp at h18'
      refine AW_skip ?_
      refine hK16 _ ?_
      refine AW_seq fun K20 hK20 => ?_
      refine AW_seq fun K21 hK21 => ?_
      obtain ⟨x6, e22, hM⟩ := bind_some hM
      obtain ⟨x7, e23, hM⟩ := bind_some hM
      refine AW_open [[], [], [1], [0, 1, 2], [0, 1, 2, 3]] mixed (by kernel_rfl) ?_
      simp (maxSteps := 10000000) [go_sem, h7, h7', h7'', h18, h18']
      refine by_ctr false (w_toScene_ctr k a0 x6 e22) (by simp (maxSteps := 10000000) [go_sem, h7, h7', h7'', h18, h18']) (by simp) ?_
      simp (maxSteps := 10000000) [go_sem, h7, h7', h7'', h18, h18']
      refine by_ctr false (w_eqScene_ctr k x4 x6 x7 e23) (by simp (maxSteps := 10000000) [go_sem, h7, h7', h7'', h18, h18']) (by simp) ?_
      simp (maxSteps := 10000000) [go_sem, h7, h7', h7'', h18, h18']
      refine hK21 _ ?_
      refine AW_cond (b := (!x7)) (by simp (maxSteps := 10000000) [go_sem, h7, h7', h7'', h18, h18']) (fun h24 => ?_) (fun h24 => ?_)
      · rw [if_pos h24] at hM
        have h24' := h24; try simp at h24'
        refine AW_seq fun K25 hK25 => ?_
        refine AW_region ?_
        simp (maxSteps := 10000000) [go_sem, h7, h7', h7'', h18, h18', h24, h24']
        refine hK25 _ ?_
        obtain rfl := Option.some.inj hM
        refine AW_ret ?_
        simp (maxSteps := 10000000) [go_sem, h7, h7', h7'', h18, h18', h24, h24']
      · rw [if_neg (ne_true h24)] at hM
        have h24' := h24; try simp at h24'
        refine AW_skip ?_
        refine hK20 _ ?_
        refine AW_seq fun K26 hK26 => ?_
        refine AW_region ?_
        simp (maxSteps := 10000000) [go_sem, h7, h7', h7'', h18, h18', h24, h24']
        refine hK26 _ ?_
        obtain rfl := Option.some.inj hM
        refine AW_ret ?_
        simp (maxSteps := 10000000) [go_sem, h7, h7', h7'', h18, h18', h24, h24']
set_option maxHeartbeats 4000000 in
set_option maxRecDepth 100000 in
theorem w_szChange_ctr (a0 : TChange) (a1 : Int) (r : Int) (hM : w_szChange a0 a1 = some r) : Ctr Try.prog 107 [.agg (TChange.c a0), .one (.int .i64 a1)] true [.one (.int .i64 r)] := by
  unfold w_szChange at hM
  refine Ctr.of_walk (by kernel_rfl) Try.func107 rfl Try.ntmps107 Try.results107 (by simp) ?_; intro N w0 hbad
  refine AW_seq fun K1 hK1 => ?_
  refine AW_region ?_
  simp (maxSteps := 10000000) [go_sem]
  refine hK1 _ ?_
  refine AW_seq fun K2 hK2 => ?_
  obtain ⟨x1, e3, hM⟩ := bind_some hM
  refine AW_region ?_
  simp (maxSteps := 10000000) [go_sem]
  refine by_ctr false (w_szLine_ctr a0.line a1 x1 e3) (by simp (maxSteps := 10000000) [go_sem]) (by simp) ?_
  simp (maxSteps := 10000000) [go_sem]
  refine hK2 _ ?_
  refine AW_seq fun K4 hK4 => ?_
  refine AW_seq fun K5 hK5 => ?_
  refine AW_region ?_
  simp (maxSteps := 10000000) [go_sem]
  refine hK5 _ ?_
  refine AW_cond (b := (decide (x1 < 0))) (by simp (maxSteps := 10000000) [go_sem]) (fun h6 => ?_) (fun h6 => ?_)
  · rw [if_pos h6] at hM
    have h6' := h6; try simp at h6'
    have h6'' : ¬ (0 ≤ x1) := by have := h6; simp at this; omega
    refine AW_seq fun K7 hK7 => ?_
    refine AW_region ?_
    simp (maxSteps := 10000000) [go_sem, h6, h6', h6'']
    refine hK7 _ ?_
    obtain rfl := Option.some.inj hM
    refine AW_ret ?_
    simp (maxSteps := 10000000) [go_sem, h6, h6', h6'']
  · rw [if_neg (ne_true h6)] at hM
    have h6' := h6; try simp at h6'
    have h6'' : ¬ (x1 < 0) := by have := h6; simp at this; omega
    refine AW_skip ?_
    refine hK4 _ ?_
    refine AW_seq fun K8 hK8 => ?_
    refine AW_region ?_
    simp (maxSteps := 10000000) [go_sem, h6, h6', h6'']
    refine hK8 _ ?_
    obtain rfl := Option.some.inj hM
    refine AW_ret ?_
    simp (maxSteps := 10000000) [go_sem, h6, h6', h6'']
set_option maxHeartbeats 4000000 in
set_option maxRecDepth 100000 in
theorem w_szChangeS_ctr (k : Nat) (a0 : List TChange) (a1 : Int) (r : Int) (hM : w_szChangeS k a0 a1 = some r) : Ctr Try.prog 66 [.one (.sl (a0.map TChange.c)), .one (.int .i64 a1)] true [.one (.int .i64 r)] := by
  unfold w_szChangeS at hM
  refine Ctr.of_walk (by kernel_rfl) Try.func66 rfl Try.ntmps66 Try.results66 (by simp) ?_; intro N w0 hbad
  refine AW_seq fun K1 hK1 => ?_
  refine AW_region ?_
  simp (maxSteps := 10000000) [go_sem]
  refine hK1 _ ?_
  refine AW_seq fun K2 hK2 => ?_
  refine AW_region ?_
  simp (maxSteps := 10000000) [go_sem]
  refine hK2 _ ?_
  refine AW_seq fun K3 hK3 => ?_
  refine AW_seq fun K4 hK4 => ?_
  refine AW_region ?_
  simp (maxSteps := 10000000) [go_sem]
  refine hK4 _ ?_
  refine AW_cond (b := (decide ((IntKind.i64.wrap (a1 - (a0.length : Int))) < 0))) (by simp (maxSteps := 10000000) [go_sem]) (fun h5 => ?_) (fun h5 => ?_)
  · rw [if_pos h5] at hM
    have h5' := h5; try simp at h5'
    have h5'' : ¬ (0 ≤ (IntKind.i64.wrap (a1 - (a0.length : Int)))) := by have := h5; simp at this; omega
    refine AW_seq fun K6 hK6 => ?_
    refine AW_region ?_
    simp (maxSteps := 10000000) [go_sem, h5, h5', h5'']
    refine hK6 _ ?_
    obtain rfl := Option.some.inj hM
    refine AW_ret ?_
    simp (maxSteps := 10000000) [go_sem, h5, h5', h5'']
  · rw [if_neg (ne_true h5)] at hM
    have h5' := h5; try simp at h5'
    have h5'' : ¬ ((IntKind.i64.wrap (a1 - (a0.length : Int))) < 0) := by have := h5; simp at this; omega
    refine AW_skip ?_
    refine hK3 _ ?_
    obtain ⟨e7, hU9, hR8⟩ := bind_some hM; clear hM
    refine AW_mid (ι := Int) (fun i => ⟨27, [(1, .one (.l (.int .i64 i)))], [], []⟩) (fun i => (.inl i) = e7) ?_ ?_
    · intro K10 hK10
      have hM := hU9; clear hU9
      refine AW_seq fun K11 hK11 => ?_
      refine AW_region ?_
      simp (maxSteps := 10000000) [go_sem, h5, h5', h5'']
      refine hK11 _ ?_
      refine AW_block ?_
      refine AW_go (ι := Int × Int) (fun i => ⟨27, [(0, .one (.l (.sl (a0.map TChange.c)))), (1, .one (.l (.int .i64 i.1))), (5, .one (.l (.int .i64 i.2)))], [], []⟩) (fun n i => w_szChangeS_u1 a0 n i.1 i.2 = some e7) k ((IntKind.i64.wrap (a1 - (a0.length : Int))), 0) hM (Lift.into (by constructor <;> simp [go_sem, h5, h5', h5''])) (fun _ h => by simp [w_szChangeS_u1] at h) ?_
      intro KL12 n ⟨x2, x3⟩ hL12 hM
      have hM : w_szChangeS_u1 a0 (n + 1) x2 x3 = some e7 := hM; rw [w_szChangeS_u1] at hM
      refine AW_seq fun K13 hK13 => ?_
      refine AW_seq fun K14 hK14 => ?_
      refine AW_region ?_
      simp (maxSteps := 10000000) [go_sem]
      refine hK14 _ ?_
      refine AW_cond (b := (decide (x3 < (a0.length : Int)))) (by simp (maxSteps := 10000000) [go_sem]) (fun h15 => ?_) (fun h15 => ?_)
      · rw [if_pos h15] at hM
        have h15' := h15; try simp at h15'
        have h15'' : ¬ ((a0.length : Int) ≤ x3) := by have := h15; simp at this; omega
        refine AW_skip ?_
        refine hK13 _ ?_
        refine AW_seq fun K16 hK16 => ?_
        refine AW_block ?_
        refine AW_seq fun K17 hK17 => ?_
        obtain ⟨x4, e18, hM⟩ := bind_some hM
        obtain ⟨p19, q20, l21, g22⟩ := at_spec e18
        obtain ⟨x5, e23, hM⟩ := bind_some hM
        refine AW_region ?_
        simp (maxSteps := 10000000) [go_sem, h15, h15', h15'', p19, q20, g22]
        refine by_ctr false (w_szChange_ctr x4 x2 x5 e23) (by simp (maxSteps := 10000000) [go_sem, h15, h15', h15'', p19, q20, g22]) (by simp) ?_
        simp (maxSteps := 10000000) [go_sem, h15, h15', h15'', p19, q20, g22]
        refine hK17 _ ?_
        refine AW_seq fun K24 hK24 => ?_
        refine AW_region ?_
        simp (maxSteps := 10000000) [go_sem, h15, h15', h15'', p19, q20, g22]
        refine hK24 _ ?_
        refine AW_cond (b := (decide (x5 < 0))) (by simp (maxSteps := 10000000) [go_sem, h15, h15', h15'', p19, q20, g22]) (fun h25 => ?_) (fun h25 => ?_)
        · rw [if_pos h25] at hM
          have h25' := h25; try simp at h25'
          have h25'' : ¬ (0 ≤ x5) := by have := h25; simp at this; omega
          refine AW_seq fun K26 hK26 => ?_
          refine AW_region ?_
          simp (maxSteps := 10000000) [go_sem, h15, h15', h15'', p19, q20, g22, h25, h25', h25'']
          refine hK26 _ ?_
          obtain rfl := Option.some.inj hM
          have hM := hR8; dsimp only at hM
          obtain rfl := Option.some.inj hM
          refine AW_ret ?_
          simp (maxSteps := 10000000) [go_sem, h15, h15', h15'', p19, q20, g22, h25, h25', h25'']
        · rw [if_neg (ne_true h25)] at hM
          have h25' := h25; try simp at h25'
          have h25'' : ¬ (x5 < 0) := by have := h25; simp at this; omega
          refine AW_skip ?_
          refine hK16 _ ?_
          refine AW_region ?_
          simp (maxSteps := 10000000) [go_sem, h15, h15', h15'', p19, q20, g22, h25, h25', h25'']
          exact hL12 (x5, (IntKind.i64.wrap (x3 + 1))) _ hM (Lift.into (by constructor <;> simp [go_sem, h15, h15', h15'', p19, q20, g22, h25, h25', h25'']))
      · rw [if_neg (ne_true h15)] at hM
        have h15' := h15; try simp at h15'
        have h15'' : ¬ (x3 < (a0.length : Int)) := by have := h15; simp at this; omega
        refine AW_exit ?_
        obtain rfl := Option.some.inj hM
        exact hK10 x2 _ rfl (Lift.into (by constructor <;> simp [go_sem, h15, h15', h15'']))
    · rintro x1 rfl
      have hM := hR8
      dsimp only at hM
      refine AW_seq fun K27 hK27 => ?_
      refine AW_region ?_
      simp (maxSteps := 10000000) [go_sem, h5, h5', h5'']
      refine hK27 _ ?_
      obtain rfl := Option.some.inj hM
      refine AW_ret ?_
      simp (maxSteps := 10000000) [go_sem, h5, h5', h5'']
set_option maxHeartbeats 4000000 in
set_option maxRecDepth 100000 in
theorem w_szDiff_ctr (k : Nat) (a0 : TDiff) (a1 : Int) (r : Int) (hM : w_szDiff k a0 a1 = some r) : Ctr Try.prog 22 [.agg (TDiff.c a0), .one (.int .i64 a1)] true [.one (.int .i64 r)] := by
  unfold w_szDiff at hM
  refine Ctr.of_walk (by kernel_rfl) Try.func22 rfl Try.ntmps22 Try.results22 (by simp) ?_; intro N w0 hbad
  refine AW_seq fun K1 hK1 => ?_
  refine AW_region ?_
  simp (maxSteps := 10000000) [go_sem]
  refine hK1 _ ?_
  refine AW_seq fun K2 hK2 => ?_
  obtain ⟨x1, e3, hM⟩ := bind_some hM
  refine AW_region ?_
  simp (maxSteps := 10000000) [go_sem]
  refine by_ctr false (w_szChangeS_ctr k a0.changes a1 x1 e3) (by simp (maxSteps := 10000000) [go_sem]) (by simp) ?_
  simp (maxSteps := 10000000) [go_sem]
  refine hK2 _ ?_
  refine AW_seq fun K4 hK4 => ?_
  refine AW_seq fun K5 hK5 => ?_
  refine AW_region ?_
  simp (maxSteps := 10000000) [go_sem]
  refine hK5 _ ?_
  refine AW_cond (b := (decide (x1 < 0))) (by simp (maxSteps := 10000000) [go_sem]) (fun h6 => ?_) (fun h6 => ?_)
  · rw [if_pos h6] at hM
    have h6' := h6; try simp at h6'
    have h6'' : ¬ (0 ≤ x1) := by have := h6; simp at this; omega
    refine AW_seq fun K7 hK7 => ?_
    refine AW_region ?_
    simp (maxSteps := 10000000) [go_sem, h6, h6', h6'']
    refine hK7 _ ?_
    obtain rfl := Option.some.inj hM
    refine AW_ret ?_
    simp (maxSteps := 10000000) [go_sem, h6, h6', h6'']
  · rw [if_neg (ne_true h6)] at hM
    have h6' := h6; try simp at h6'
    have h6'' : ¬ (x1 < 0) := by have := h6; simp at this; omega
    refine AW_skip ?_
    refine hK4 _ ?_
    refine AW_seq fun K8 hK8 => ?_
    refine AW_region ?_
    simp (maxSteps := 10000000) [go_sem, h6, h6', h6'']
    refine hK8 _ ?_
    obtain rfl := Option.some.inj hM
    refine AW_ret ?_
    simp (maxSteps := 10000000) [go_sem, h6, h6', h6'']
end Go.Proofs.Ytopjlbifglacpaa
