/- Contracts of the program's functions: where the mirrored function answers, the program's function returns this answer. Written by a program of mine. -/
import Derived.Test.YtopjlbifglacpaaWn
import Derived.Test.YtopjlbifglacpaaMd
import Derived.Test.YtopjlbifglacpaaCt2
import Derived.Test.YtopjlbifglacpaaCt4
import Derived.Test.YtopjlbifglacpaaCt5
set_option linter.unusedSimpArgs false
set_option linter.unusedVariables false
namespace Go.Proofs.Ytopjlbifglacpaa
open Go.RowKit Am

set_option maxHeartbeats 4000000 in
set_option maxRecDepth 100000 in
theorem i_same_Origin_ctr (k : Nat) (a0 : List TOrigin) (a1 : List TOrigin) (r : Bool) (hM : i_same_Origin k a0 a1 = some r) : Ctr Try.prog 93 [.one (.sl (a0.map TOrigin.c)), .one (.sl (a1.map TOrigin.c))] true [.one (.bool r)] := by
  unfold i_same_Origin at hM
  refine Ctr.of_walk (by kernel_rfl) Try.func93 rfl Try.ntmps93 Try.results93 (by simp) ?_; intro N w0 hbad
  refine AW_seq fun K1 hK1 => ?_
  refine AW_region ?_
  simp (maxSteps := 10000000) [go_sem]
  refine hK1 _ ?_
  refine AW_seq fun K2 hK2 => ?_
  refine AW_seq fun K3 hK3 => ?_
  refine AW_region ?_
  simp (maxSteps := 10000000) [go_sem]
  refine hK3 _ ?_
  refine AW_cond (b := (!decide ((a0.length : Int) = (a1.length : Int)))) (by simp (maxSteps := 10000000) [go_sem]) (fun h4 => ?_) (fun h4 => ?_)
  · rw [if_pos h4] at hM
    have h4' := h4; try simp at h4'
    refine AW_seq fun K5 hK5 => ?_
    refine AW_region ?_
    simp (maxSteps := 10000000) [go_sem, h4, h4']
    refine hK5 _ ?_
    obtain rfl := Option.some.inj hM
    refine AW_ret ?_
    simp (maxSteps := 10000000) [go_sem, h4, h4']
  · rw [if_neg (ne_true h4)] at hM
    have h4' := h4; try simp at h4'
    refine AW_skip ?_
    refine hK2 _ ?_
    obtain ⟨e6, hU8, hR7⟩ := bind_some hM; clear hM
    refine AW_mid (ι := Unit) (fun i => ⟨26, [], [], []⟩) (fun i => (.inl i) = e6) ?_ ?_
    · intro K9 hK9
      have hM := hU8; clear hU8
      refine AW_seq fun K10 hK10 => ?_
      refine AW_region ?_
      simp (maxSteps := 10000000) [go_sem, h4, h4']
      refine hK10 _ ?_
      refine AW_block ?_
      refine AW_go (ι := Int) (fun i => ⟨26, [(0, .one (.l (.sl (a0.map TOrigin.c)))), (1, .one (.l (.sl (a1.map TOrigin.c)))), (12, .one (.l (.int .i64 (a0.length : Int)))), (13, .one (.l (.int .i64 i)))], [], []⟩) (fun n i => i_same_Origin_u1 a0 a1 n i = some e6) k 0 hM (Lift.into (by constructor <;> simp [go_sem, h4, h4'])) (fun _ h => by simp [i_same_Origin_u1] at h) ?_
      intro KL11 n x1 hL11 hM
      have hM : i_same_Origin_u1 a0 a1 (n + 1) x1 = some e6 := hM; rw [i_same_Origin_u1] at hM
      refine AW_seq fun K12 hK12 => ?_
      refine AW_region ?_
      simp (maxSteps := 10000000) [go_sem]
      refine hK12 _ ?_
      refine AW_seq fun K13 hK13 => ?_
      refine AW_cond (b := (decide (x1 < (a0.length : Int)))) (by simp (maxSteps := 10000000) [go_sem]) (fun h14 => ?_) (fun h14 => ?_)
      · rw [if_pos h14] at hM
        have h14' := h14; try simp at h14'
        have h14'' : ¬ ((a0.length : Int) ≤ x1) := by have := h14; simp at this; omega
        refine AW_skip ?_
        refine hK13 _ ?_
        refine AW_seq fun K15 hK15 => ?_
        refine AW_block ?_
        refine AW_seq fun K16 hK16 => ?_
        refine AW_region ?_
        simp (maxSteps := 10000000) [go_sem, h14, h14', h14'']
        refine hK16 _ ?_
        refine AW_seq fun K17 hK17 => ?_
        obtain ⟨x2, e18, hM⟩ := bind_some hM
        obtain ⟨p19, q20, l21, g22⟩ := at_spec e18
        obtain ⟨x3, e23, hM⟩ := bind_some hM
        obtain ⟨p24, q25, l26, g27⟩ := at_spec e23
        refine AW_quick [[], [], [0, 1], [0, 1, 2], [], [], [4, 5], [4, 5, 6], [0, 1, 2, 3, 4, 5, 6, 7]] 8 mixed (by kernel_rfl) (by kernel_rfl) ?_
        simp (maxSteps := 10000000) [go_sem, h14, h14', h14'', p19, q20, g22, p24, q25, g27]
        refine hK17 _ ?_
        refine AW_cond (b := (!(decide (x2.cell = x3.cell) && decide (x2.row = x3.row)))) (by simp (maxSteps := 10000000) [go_sem, h14, h14', h14'', p19, q20, g22, p24, q25, g27]) (fun h28 => ?_) (fun h28 => ?_)
        · rw [if_pos h28] at hM
          have h28' := h28; try simp at h28'
          refine AW_seq fun K29 hK29 => ?_
          refine AW_region ?_
          simp (maxSteps := 10000000) [go_sem, h14, h14', h14'', p19, q20, g22, p24, q25, g27, h28, h28']
          refine hK29 _ ?_
          obtain rfl := Option.some.inj hM
          have hM := hR7; dsimp only at hM
          obtain rfl := Option.some.inj hM
          refine AW_ret ?_
          simp (maxSteps := 10000000) [go_sem, h14, h14', h14'', p19, q20, g22, p24, q25, g27, h28, h28']
        · rw [if_neg (ne_true h28)] at hM
          have h28' := h28; try simp at h28'
          refine AW_skip ?_
          refine hK15 _ ?_
          refine AW_region ?_
          simp (maxSteps := 10000000) [go_sem, h14, h14', h14'', p19, q20, g22, p24, q25, g27, h28, h28']
          exact hL11 (IntKind.i64.wrap (x1 + 1)) _ hM (Lift.into (by constructor <;> simp [go_sem, h14, h14', h14'', p19, q20, g22, p24, q25, g27, h28, h28']))
      · rw [if_neg (ne_true h14)] at hM
        have h14' := h14; try simp at h14'
        have h14'' : ¬ (x1 < (a0.length : Int)) := by have := h14; simp at this; omega
        refine AW_exit ?_
        obtain rfl := Option.some.inj hM
        exact hK9 () _ rfl (Lift.into (by constructor <;> simp [go_sem, h14, h14', h14'']))
    · rintro _ rfl
      have hM := hR7
      dsimp only at hM
      refine AW_seq fun K30 hK30 => ?_
      refine AW_region ?_
      simp (maxSteps := 10000000) [go_sem, h4, h4']
      refine hK30 _ ?_
      obtain rfl := Option.some.inj hM
      refine AW_ret ?_
      simp (maxSteps := 10000000) [go_sem, h4, h4']
set_option maxHeartbeats 4000000 in
set_option maxRecDepth 100000 in
theorem i_HasRow_ctr (k : Nat) (a0 : TValue) (a1 : TRow) (r : Bool) (hM : i_HasRow k a0 a1 = some r) : Ctr Try.prog 51 [.agg (TValue.c a0), .agg (TRow.c a1)] true [.one (.bool r)] := by
  unfold i_HasRow at hM
  refine Ctr.of_walk (by kernel_rfl) Try.func51 rfl Try.ntmps51 Try.results51 (by simp) ?_; intro N w0 hbad
  refine AW_seq fun K1 hK1 => ?_
  refine AW_region ?_
  simp (maxSteps := 10000000) [go_sem]
  refine hK1 _ ?_
  obtain ⟨e2, hU4, hR3⟩ := bind_some hM; clear hM
  refine AW_mid (ι := Unit) (fun i => ⟨27, [], [], []⟩) (fun i => (.inl i) = e2) ?_ ?_
  · intro K5 hK5
    have hM := hU4; clear hU4
    refine AW_seq fun K6 hK6 => ?_
    refine AW_region ?_
    simp (maxSteps := 10000000) [go_sem]
    refine hK6 _ ?_
    refine AW_block ?_
    refine AW_go (ι := Int) (fun i => ⟨27, [(3, .one (.box 3 0)), (8, .one (.l (.sl (a0.rows.map TRow.c)))), (9, .one (.l (.int .i64 (a0.rows.length : Int)))), (10, .one (.l (.int .i64 i)))], [(3, [.l (.sl (a1.cells.map iC)), .l (.sl (a1.from_.map TOrigin.c))])], []⟩) (fun n i => i_HasRow_u1 k a0 a1 n i = some e2) k 0 hM (Lift.into (by constructor <;> simp [go_sem])) (fun _ h => by simp [i_HasRow_u1] at h) ?_
    intro KL7 n x1 hL7 hM
    have hM : i_HasRow_u1 k a0 a1 (n + 1) x1 = some e2 := hM; rw [i_HasRow_u1] at hM
    refine AW_seq fun K8 hK8 => ?_
    refine AW_region ?_
    simp (maxSteps := 10000000) [go_sem]
    refine hK8 _ ?_
    refine AW_seq fun K9 hK9 => ?_
    refine AW_cond (b := (decide (x1 < (a0.rows.length : Int)))) (by simp (maxSteps := 10000000) [go_sem]) (fun h10 => ?_) (fun h10 => ?_)
    · rw [if_pos h10] at hM
      have h10' := h10; try simp at h10'
      have h10'' : ¬ ((a0.rows.length : Int) ≤ x1) := by have := h10; simp at this; omega
      refine AW_skip ?_
      refine hK9 _ ?_
      refine AW_seq fun K11 hK11 => ?_
      refine AW_block ?_
      refine AW_seq fun K12 hK12 => ?_
      obtain ⟨x2, e13, hM⟩ := bind_some hM
      obtain ⟨p14, q15, l16, g17⟩ := at_spec e13
      refine AW_region ?_
      simp (maxSteps := 10000000) [go_sem, h10, h10', h10'', p14, q15, g17]
      refine hK12 _ ?_
      obtain ⟨e18, hU20, hR19⟩ := bind_some hM; clear hM
      refine AW_mid (ι := Bool) (fun i => ⟨27, [(3, .one (.box 3 0)), (8, .one (.l (.sl (a0.rows.map TRow.c)))), (9, .one (.l (.int .i64 (a0.rows.length : Int)))), (10, .one (.l (.int .i64 x1))), (25, .one (.l (.bool i)))], [(3, [.l (.sl (a1.cells.map iC)), .l (.sl (a1.from_.map TOrigin.c))])], []⟩) (fun i => i = e18) ?_ ?_
      · intro K21 hK21
        have hM := hU20; clear hU20
        obtain ⟨x4, e22, hM⟩ := bind_some hM
        by_cases h23 : x4 = true
        · rw [if_pos h23] at hM
          have h23' := h23; try simp at h23'
          obtain ⟨x5, e24, hM⟩ := bind_some hM
          refine AW_region ?_
          simp (maxSteps := 10000000) [go_sem, h10, h10', h10'', p14, q15, g17, h23, h23']
          refine by_ctr false (i_same_int_ctr k x2.cells a1.cells x4 e22) (by simp (maxSteps := 10000000) [go_sem, h10, h10', h10'', p14, q15, g17, h23, h23']) (by simp) ?_
          simp (maxSteps := 10000000) [go_sem, h10, h10', h10'', p14, q15, g17, h23, h23']
          refine by_ctr false (i_same_Origin_ctr k x2.from_ a1.from_ x5 e24) (by simp (maxSteps := 10000000) [go_sem, h10, h10', h10'', p14, q15, g17, h23, h23']) (by simp) ?_
          simp (maxSteps := 10000000) [go_sem, h10, h10', h10'', p14, q15, g17, h23, h23']
          obtain rfl := Option.some.inj hM
          exact hK21 x5 _ rfl (Lift.into (by constructor <;> simp [go_sem, h10, h10', h10'', p14, q15, g17, h23, h23']))
        · rw [if_neg h23] at hM
          have h23 := Bool.eq_false_iff.2 h23
          have h23' := h23; try simp at h23'
          refine AW_region ?_
          simp (maxSteps := 10000000) [go_sem, h10, h10', h10'', p14, q15, g17, h23, h23']
          refine by_ctr false (i_same_int_ctr k x2.cells a1.cells x4 e22) (by simp (maxSteps := 10000000) [go_sem, h10, h10', h10'', p14, q15, g17, h23, h23']) (by simp) ?_
          simp (maxSteps := 10000000) [go_sem, h10, h10', h10'', p14, q15, g17, h23, h23']
          obtain rfl := Option.some.inj hM
          exact hK21 false _ rfl (Lift.into (by constructor <;> simp [go_sem, h10, h10', h10'', p14, q15, g17, h23, h23']))
      · rintro x3 rfl
        have hM := hR19
        try dsimp only at hM
        refine AW_cond (b := x3) (by simp (maxSteps := 10000000) [go_sem, h10, h10', h10'', p14, q15, g17]) (fun h25 => ?_) (fun h25 => ?_)
        · rw [if_pos h25] at hM
          have h25' := h25; try simp at h25'
          refine AW_seq fun K26 hK26 => ?_
          refine AW_region ?_
          simp (maxSteps := 10000000) [go_sem, h10, h10', h10'', p14, q15, g17, h25, h25']
          refine hK26 _ ?_
          obtain rfl := Option.some.inj hM
          have hM := hR3; dsimp only at hM
          obtain rfl := Option.some.inj hM
          refine AW_ret ?_
          simp (maxSteps := 10000000) [go_sem, h10, h10', h10'', p14, q15, g17, h25, h25']
        · rw [if_neg (ne_true h25)] at hM
          have h25' := h25; try simp at h25'
          refine AW_skip ?_
          refine hK11 _ ?_
          refine AW_region ?_
          simp (maxSteps := 10000000) [go_sem, h10, h10', h10'', p14, q15, g17, h25, h25']
          exact hL7 (IntKind.i64.wrap (x1 + 1)) _ hM (Lift.into (by constructor <;> simp [go_sem, h10, h10', h10'', p14, q15, g17, h25, h25']))
    · rw [if_neg (ne_true h10)] at hM
      have h10' := h10; try simp at h10'
      have h10'' : ¬ (x1 < (a0.rows.length : Int)) := by have := h10; simp at this; omega
      refine AW_exit ?_
      obtain rfl := Option.some.inj hM
      exact hK5 () _ rfl (Lift.into (by constructor <;> simp [go_sem, h10, h10', h10'']))
  · rintro _ rfl
    have hM := hR3
    dsimp only at hM
    refine AW_seq fun K27 hK27 => ?_
    refine AW_region ?_
    simp (maxSteps := 10000000) [go_sem]
    refine hK27 _ ?_
    obtain rfl := Option.some.inj hM
    refine AW_ret ?_
    simp (maxSteps := 10000000) [go_sem]
set_option maxHeartbeats 4000000 in
set_option maxRecDepth 100000 in
theorem w_eqStringS_ctr (k : Nat) (a0 : List ByteArray) (a1 : List ByteArray) (r : Bool) (hM : w_eqStringS k a0 a1 = some r) : Ctr Try.prog 95 [.one (.sl (a0.map sC)), .one (.sl (a1.map sC))] true [.one (.bool r)] := by
  unfold w_eqStringS at hM
  refine Ctr.of_walk (by kernel_rfl) Try.func95 rfl Try.ntmps95 Try.results95 (by simp) ?_; intro N w0 hbad
  refine AW_seq fun K1 hK1 => ?_
  refine AW_region ?_
  simp (maxSteps := 10000000) [go_sem]
  refine hK1 _ ?_
  refine AW_seq fun K2 hK2 => ?_
  refine AW_seq fun K3 hK3 => ?_
  refine AW_region ?_
  simp (maxSteps := 10000000) [go_sem]
  refine hK3 _ ?_
  refine AW_cond (b := (!decide ((a0.length : Int) = (a1.length : Int)))) (by simp (maxSteps := 10000000) [go_sem]) (fun h4 => ?_) (fun h4 => ?_)
  · rw [if_pos h4] at hM
    have h4' := h4; try simp at h4'
    refine AW_seq fun K5 hK5 => ?_
    refine AW_region ?_
    simp (maxSteps := 10000000) [go_sem, h4, h4']
    refine hK5 _ ?_
    obtain rfl := Option.some.inj hM
    refine AW_ret ?_
    simp (maxSteps := 10000000) [go_sem, h4, h4']
  · rw [if_neg (ne_true h4)] at hM
    have h4' := h4; try simp at h4'
    refine AW_skip ?_
    refine hK2 _ ?_
    obtain ⟨e6, hU8, hR7⟩ := bind_some hM; clear hM
    refine AW_mid (ι := Unit) (fun i => ⟨26, [], [], []⟩) (fun i => (.inl i) = e6) ?_ ?_
    · intro K9 hK9
      have hM := hU8; clear hU8
      refine AW_seq fun K10 hK10 => ?_
      refine AW_region ?_
      simp (maxSteps := 10000000) [go_sem, h4, h4']
      refine hK10 _ ?_
      refine AW_block ?_
      refine AW_go (ι := Int) (fun i => ⟨26, [(0, .one (.l (.sl (a0.map sC)))), (1, .one (.l (.sl (a1.map sC)))), (5, .one (.l (.int .i64 i)))], [], []⟩) (fun n i => w_eqStringS_u1 a0 a1 n i = some e6) k 0 hM (Lift.into (by constructor <;> simp [go_sem, h4, h4'])) (fun _ h => by simp [w_eqStringS_u1] at h) ?_
      intro KL11 n x1 hL11 hM
      have hM : w_eqStringS_u1 a0 a1 (n + 1) x1 = some e6 := hM; rw [w_eqStringS_u1] at hM
      refine AW_seq fun K12 hK12 => ?_
      refine AW_seq fun K13 hK13 => ?_
      refine AW_region ?_
      simp (maxSteps := 10000000) [go_sem]
      refine hK13 _ ?_
      refine AW_cond (b := (decide (x1 < (a0.length : Int)))) (by simp (maxSteps := 10000000) [go_sem]) (fun h14 => ?_) (fun h14 => ?_)
      · rw [if_pos h14] at hM
        have h14' := h14; try simp at h14'
        have h14'' : ¬ ((a0.length : Int) ≤ x1) := by have := h14; simp at this; omega
        refine AW_skip ?_
        refine hK12 _ ?_
        refine AW_seq fun K15 hK15 => ?_
        refine AW_block ?_
        refine AW_seq fun K16 hK16 => ?_
        obtain ⟨x2, e17, hM⟩ := bind_some hM
        obtain ⟨p18, q19, l20, g21⟩ := at_spec e17
        obtain ⟨x3, e22, hM⟩ := bind_some hM
        obtain ⟨p23, q24, l25, g26⟩ := at_spec e22
        refine AW_quick [[], [], [0, 1], [0, 1, 2], [], [], [4, 5], [4, 5, 6], [0, 1, 2, 3, 4, 5, 6, 7]] 8 mixed (by kernel_rfl) (by kernel_rfl) ?_
        simp (maxSteps := 10000000) [go_sem, h14, h14', h14'', p18, q19, g21, p23, q24, g26]
        refine hK16 _ ?_
        refine AW_cond (b := (!decide (x2 = x3))) (by simp (maxSteps := 10000000) [go_sem, h14, h14', h14'', p18, q19, g21, p23, q24, g26]) (fun h27 => ?_) (fun h27 => ?_)
        · rw [if_pos h27] at hM
          have h27' := h27; try simp at h27'
          refine AW_seq fun K28 hK28 => ?_
          refine AW_region ?_
          simp (maxSteps := 10000000) [go_sem, h14, h14', h14'', p18, q19, g21, p23, q24, g26, h27, h27']
          refine hK28 _ ?_
          obtain rfl := Option.some.inj hM
          have hM := hR7; dsimp only at hM
          obtain rfl := Option.some.inj hM
          refine AW_ret ?_
          simp (maxSteps := 10000000) [go_sem, h14, h14', h14'', p18, q19, g21, p23, q24, g26, h27, h27']
        · rw [if_neg (ne_true h27)] at hM
          have h27' := h27; try simp at h27'
          refine AW_skip ?_
          refine hK15 _ ?_
          refine AW_region ?_
          simp (maxSteps := 10000000) [go_sem, h14, h14', h14'', p18, q19, g21, p23, q24, g26, h27, h27']
          exact hL11 (IntKind.i64.wrap (x1 + 1)) _ hM (Lift.into (by constructor <;> simp [go_sem, h14, h14', h14'', p18, q19, g21, p23, q24, g26, h27, h27']))
      · rw [if_neg (ne_true h14)] at hM
        have h14' := h14; try simp at h14'
        have h14'' : ¬ (x1 < (a0.length : Int)) := by have := h14; simp at this; omega
        refine AW_exit ?_
        obtain rfl := Option.some.inj hM
        exact hK9 () _ rfl (Lift.into (by constructor <;> simp [go_sem, h14, h14', h14'']))
    · rintro _ rfl
      have hM := hR7
      dsimp only at hM
      refine AW_seq fun K29 hK29 => ?_
      refine AW_region ?_
      simp (maxSteps := 10000000) [go_sem, h4, h4']
      refine hK29 _ ?_
      obtain rfl := Option.some.inj hM
      refine AW_ret ?_
      simp (maxSteps := 10000000) [go_sem, h4, h4']
set_option maxHeartbeats 4000000 in
set_option maxRecDepth 100000 in
theorem w_eqOrigin_ctr (a0 : TOrigin) (a1 : TOrigin) (r : Bool) (hM : w_eqOrigin a0 a1 = some r) : Ctr Try.prog 114 [.agg (TOrigin.c a0), .agg (TOrigin.c a1)] true [.one (.bool r)] := by
  unfold w_eqOrigin at hM
  refine Ctr.of_walk (by kernel_rfl) Try.func114 rfl Try.ntmps114 Try.results114 (by simp) ?_; intro N w0 hbad
  refine AW_seq fun K1 hK1 => ?_
  refine AW_region ?_
  simp (maxSteps := 10000000) [go_sem]
  refine hK1 _ ?_
  refine AW_seq fun K2 hK2 => ?_
  refine AW_seq fun K3 hK3 => ?_
  refine AW_region ?_
  simp (maxSteps := 10000000) [go_sem]
  refine hK3 _ ?_
  refine AW_cond (b := (!decide (a0.cell = a1.cell))) (by simp (maxSteps := 10000000) [go_sem]) (fun h4 => ?_) (fun h4 => ?_)
  · rw [if_pos h4] at hM
    have h4' := h4; try simp at h4'
    refine AW_seq fun K5 hK5 => ?_
    refine AW_region ?_
    simp (maxSteps := 10000000) [go_sem, h4, h4']
    refine hK5 _ ?_
    obtain rfl := Option.some.inj hM
    refine AW_ret ?_
    simp (maxSteps := 10000000) [go_sem, h4, h4']
  · rw [if_neg (ne_true h4)] at hM
    have h4' := h4; try simp at h4'
    refine AW_skip ?_
    refine hK2 _ ?_
    refine AW_seq fun K6 hK6 => ?_
    refine AW_seq fun K7 hK7 => ?_
    refine AW_region ?_
    simp (maxSteps := 10000000) [go_sem, h4, h4']
    refine hK7 _ ?_
    refine AW_cond (b := (!decide (a0.row = a1.row))) (by simp (maxSteps := 10000000) [go_sem, h4, h4']) (fun h8 => ?_) (fun h8 => ?_)
    · rw [if_pos h8] at hM
      have h8' := h8; try simp at h8'
      refine AW_seq fun K9 hK9 => ?_
      refine AW_region ?_
      simp (maxSteps := 10000000) [go_sem, h4, h4', h8, h8']
      refine hK9 _ ?_
      obtain rfl := Option.some.inj hM
      refine AW_ret ?_
      simp (maxSteps := 10000000) [go_sem, h4, h4', h8, h8']
    · rw [if_neg (ne_true h8)] at hM
      have h8' := h8; try simp at h8'
      refine AW_skip ?_
      refine hK6 _ ?_
      refine AW_seq fun K10 hK10 => ?_
      refine AW_region ?_
      simp (maxSteps := 10000000) [go_sem, h4, h4', h8, h8']
      refine hK10 _ ?_
      obtain rfl := Option.some.inj hM
      refine AW_ret ?_
      simp (maxSteps := 10000000) [go_sem, h4, h4', h8, h8']
set_option maxHeartbeats 4000000 in
set_option maxRecDepth 100000 in
theorem w_eqOriginS_ctr (k : Nat) (a0 : List TOrigin) (a1 : List TOrigin) (r : Bool) (hM : w_eqOriginS k a0 a1 = some r) : Ctr Try.prog 97 [.one (.sl (a0.map TOrigin.c)), .one (.sl (a1.map TOrigin.c))] true [.one (.bool r)] := by
  unfold w_eqOriginS at hM
  refine Ctr.of_walk (by kernel_rfl) Try.func97 rfl Try.ntmps97 Try.results97 (by simp) ?_; intro N w0 hbad
  refine AW_seq fun K1 hK1 => ?_
  refine AW_region ?_
  simp (maxSteps := 10000000) [go_sem]
  refine hK1 _ ?_
  refine AW_seq fun K2 hK2 => ?_
  refine AW_seq fun K3 hK3 => ?_
  refine AW_region ?_
  simp (maxSteps := 10000000) [go_sem]
  refine hK3 _ ?_
  refine AW_cond (b := (!decide ((a0.length : Int) = (a1.length : Int)))) (by simp (maxSteps := 10000000) [go_sem]) (fun h4 => ?_) (fun h4 => ?_)
  · rw [if_pos h4] at hM
    have h4' := h4; try simp at h4'
    refine AW_seq fun K5 hK5 => ?_
    refine AW_region ?_
    simp (maxSteps := 10000000) [go_sem, h4, h4']
    refine hK5 _ ?_
    obtain rfl := Option.some.inj hM
    refine AW_ret ?_
    simp (maxSteps := 10000000) [go_sem, h4, h4']
  · rw [if_neg (ne_true h4)] at hM
    have h4' := h4; try simp at h4'
    refine AW_skip ?_
    refine hK2 _ ?_
    obtain ⟨e6, hU8, hR7⟩ := bind_some hM; clear hM
    refine AW_mid (ι := Unit) (fun i => ⟨27, [], [], []⟩) (fun i => (.inl i) = e6) ?_ ?_
    · intro K9 hK9
      have hM := hU8; clear hU8
      refine AW_seq fun K10 hK10 => ?_
      refine AW_region ?_
      simp (maxSteps := 10000000) [go_sem, h4, h4']
      refine hK10 _ ?_
      refine AW_block ?_
      refine AW_go (ι := Int) (fun i => ⟨27, [(0, .one (.l (.sl (a0.map TOrigin.c)))), (1, .one (.l (.sl (a1.map TOrigin.c)))), (5, .one (.l (.int .i64 i)))], [], []⟩) (fun n i => w_eqOriginS_u1 a0 a1 n i = some e6) k 0 hM (Lift.into (by constructor <;> simp [go_sem, h4, h4'])) (fun _ h => by simp [w_eqOriginS_u1] at h) ?_
      intro KL11 n x1 hL11 hM
      have hM : w_eqOriginS_u1 a0 a1 (n + 1) x1 = some e6 := hM; rw [w_eqOriginS_u1] at hM
      refine AW_seq fun K12 hK12 => ?_
      refine AW_seq fun K13 hK13 => ?_
      refine AW_region ?_
      simp (maxSteps := 10000000) [go_sem]
      refine hK13 _ ?_
      refine AW_cond (b := (decide (x1 < (a0.length : Int)))) (by simp (maxSteps := 10000000) [go_sem]) (fun h14 => ?_) (fun h14 => ?_)
      · rw [if_pos h14] at hM
        have h14' := h14; try simp at h14'
        have h14'' : ¬ ((a0.length : Int) ≤ x1) := by have := h14; simp at this; omega
        refine AW_skip ?_
        refine hK12 _ ?_
        refine AW_seq fun K15 hK15 => ?_
        refine AW_block ?_
        refine AW_seq fun K16 hK16 => ?_
        obtain ⟨x2, e17, hM⟩ := bind_some hM
        obtain ⟨p18, q19, l20, g21⟩ := at_spec e17
        obtain ⟨x3, e22, hM⟩ := bind_some hM
        obtain ⟨p23, q24, l25, g26⟩ := at_spec e22
        obtain ⟨x4, e27, hM⟩ := bind_some hM
        refine AW_quick [[], [], [0, 1], [0, 1, 2], [], [], [4, 5], [4, 5, 6], [0, 1, 2, 3, 4, 5, 6, 7], [0, 1, 2, 3, 4, 5, 6, 7, 8]] 8 mixed (by kernel_rfl) (by kernel_rfl) ?_
        simp (maxSteps := 10000000) [go_sem, h14, h14', h14'', p18, q19, g21, p23, q24, g26]
        refine by_ctr false (w_eqOrigin_ctr x2 x3 x4 e27) (by simp (maxSteps := 10000000) [go_sem, h14, h14', h14'', p18, q19, g21, p23, q24, g26]) (by simp) ?_
        simp (maxSteps := 10000000) [go_sem, h14, h14', h14'', p18, q19, g21, p23, q24, g26]
        refine hK16 _ ?_
        refine AW_cond (b := (!x4)) (by simp (maxSteps := 10000000) [go_sem, h14, h14', h14'', p18, q19, g21, p23, q24, g26]) (fun h28 => ?_) (fun h28 => ?_)
        · rw [if_pos h28] at hM
          have h28' := h28; try simp at h28'
          refine AW_seq fun K29 hK29 => ?_
          refine AW_region ?_
          simp (maxSteps := 10000000) [go_sem, h14, h14', h14'', p18, q19, g21, p23, q24, g26, h28, h28']
          refine hK29 _ ?_
          obtain rfl := Option.some.inj hM
          have hM := hR7; dsimp only at hM
          obtain rfl := Option.some.inj hM
          refine AW_ret ?_
          simp (maxSteps := 10000000) [go_sem, h14, h14', h14'', p18, q19, g21, p23, q24, g26, h28, h28']
        · rw [if_neg (ne_true h28)] at hM
          have h28' := h28; try simp at h28'
          refine AW_skip ?_
          refine hK15 _ ?_
          refine AW_region ?_
          simp (maxSteps := 10000000) [go_sem, h14, h14', h14'', p18, q19, g21, p23, q24, g26, h28, h28']
          exact hL11 (IntKind.i64.wrap (x1 + 1)) _ hM (Lift.into (by constructor <;> simp [go_sem, h14, h14', h14'', p18, q19, g21, p23, q24, g26, h28, h28']))
      · rw [if_neg (ne_true h14)] at hM
        have h14' := h14; try simp at h14'
        have h14'' : ¬ (x1 < (a0.length : Int)) := by have := h14; simp at this; omega
        refine AW_exit ?_
        obtain rfl := Option.some.inj hM
        exact hK9 () _ rfl (Lift.into (by constructor <;> simp [go_sem, h14, h14', h14'']))
    · rintro _ rfl
      have hM := hR7
      dsimp only at hM
      refine AW_seq fun K30 hK30 => ?_
      refine AW_region ?_
      simp (maxSteps := 10000000) [go_sem, h4, h4']
      refine hK30 _ ?_
      obtain rfl := Option.some.inj hM
      refine AW_ret ?_
      simp (maxSteps := 10000000) [go_sem, h4, h4']
set_option maxHeartbeats 4000000 in
set_option maxRecDepth 100000 in
theorem w_eqRow_ctr (k : Nat) (a0 : TRow) (a1 : TRow) (r : Bool) (hM : w_eqRow k a0 a1 = some r) : Ctr Try.prog 53 [.agg (TRow.c a0), .agg (TRow.c a1)] true [.one (.bool r)] := by
  unfold w_eqRow at hM
  refine Ctr.of_walk (by kernel_rfl) Try.func53 rfl Try.ntmps53 Try.results53 (by simp) ?_; intro N w0 hbad
  refine AW_seq fun K1 hK1 => ?_
  refine AW_region ?_
  simp (maxSteps := 10000000) [go_sem]
  refine hK1 _ ?_
  refine AW_seq fun K2 hK2 => ?_
  refine AW_seq fun K3 hK3 => ?_
  obtain ⟨x1, e4, hM⟩ := bind_some hM
  refine AW_region ?_
  simp (maxSteps := 10000000) [go_sem]
  refine by_ctr false (w_eqIntS_ctr k a0.cells a1.cells x1 e4) (by simp (maxSteps := 10000000) [go_sem]) (by simp) ?_
  simp (maxSteps := 10000000) [go_sem]
  refine hK3 _ ?_
  refine AW_cond (b := (!x1)) (by simp (maxSteps := 10000000) [go_sem]) (fun h5 => ?_) (fun h5 => ?_)
  · rw [if_pos h5] at hM
    have h5' := h5; try simp at h5'
    refine AW_seq fun K6 hK6 => ?_
    refine AW_region ?_
    simp (maxSteps := 10000000) [go_sem, h5, h5']
    refine hK6 _ ?_
    obtain rfl := Option.some.inj hM
    refine AW_ret ?_
    simp (maxSteps := 10000000) [go_sem, h5, h5']
  · rw [if_neg (ne_true h5)] at hM
    have h5' := h5; try simp at h5'
    refine AW_skip ?_
    refine hK2 _ ?_
    refine AW_seq fun K7 hK7 => ?_
    refine AW_seq fun K8 hK8 => ?_
    obtain ⟨x2, e9, hM⟩ := bind_some hM
    refine AW_region ?_
    simp (maxSteps := 10000000) [go_sem, h5, h5']
    refine by_ctr false (w_eqOriginS_ctr k a0.from_ a1.from_ x2 e9) (by simp (maxSteps := 10000000) [go_sem, h5, h5']) (by simp) ?_
    simp (maxSteps := 10000000) [go_sem, h5, h5']
    refine hK8 _ ?_
    refine AW_cond (b := (!x2)) (by simp (maxSteps := 10000000) [go_sem, h5, h5']) (fun h10 => ?_) (fun h10 => ?_)
    · rw [if_pos h10] at hM
      have h10' := h10; try simp at h10'
      refine AW_seq fun K11 hK11 => ?_
      refine AW_region ?_
      simp (maxSteps := 10000000) [go_sem, h5, h5', h10, h10']
      refine hK11 _ ?_
      obtain rfl := Option.some.inj hM
      refine AW_ret ?_
      simp (maxSteps := 10000000) [go_sem, h5, h5', h10, h10']
    · rw [if_neg (ne_true h10)] at hM
      have h10' := h10; try simp at h10'
      refine AW_skip ?_
      refine hK7 _ ?_
      refine AW_seq fun K12 hK12 => ?_
      refine AW_region ?_
      simp (maxSteps := 10000000) [go_sem, h5, h5', h10, h10']
      refine hK12 _ ?_
      obtain rfl := Option.some.inj hM
      refine AW_ret ?_
      simp (maxSteps := 10000000) [go_sem, h5, h5', h10, h10']
set_option maxHeartbeats 4000000 in
set_option maxRecDepth 100000 in
theorem w_eqRowS_ctr (k : Nat) (a0 : List TRow) (a1 : List TRow) (r : Bool) (hM : w_eqRowS k a0 a1 = some r) : Ctr Try.prog 96 [.one (.sl (a0.map TRow.c)), .one (.sl (a1.map TRow.c))] true [.one (.bool r)] := by
  unfold w_eqRowS at hM
  refine Ctr.of_walk (by kernel_rfl) Try.func96 rfl Try.ntmps96 Try.results96 (by simp) ?_; intro N w0 hbad
  refine AW_seq fun K1 hK1 => ?_
  refine AW_region ?_
  simp (maxSteps := 10000000) [go_sem]
  refine hK1 _ ?_
  refine AW_seq fun K2 hK2 => ?_
  refine AW_seq fun K3 hK3 => ?_
  refine AW_region ?_
  simp (maxSteps := 10000000) [go_sem]
  refine hK3 _ ?_
  refine AW_cond (b := (!decide ((a0.length : Int) = (a1.length : Int)))) (by simp (maxSteps := 10000000) [go_sem]) (fun h4 => ?_) (fun h4 => ?_)
  · rw [if_pos h4] at hM
    have h4' := h4; try simp at h4'
    refine AW_seq fun K5 hK5 => ?_
    refine AW_region ?_
    simp (maxSteps := 10000000) [go_sem, h4, h4']
    refine hK5 _ ?_
    obtain rfl := Option.some.inj hM
    refine AW_ret ?_
    simp (maxSteps := 10000000) [go_sem, h4, h4']
  · rw [if_neg (ne_true h4)] at hM
    have h4' := h4; try simp at h4'
    refine AW_skip ?_
    refine hK2 _ ?_
    obtain ⟨e6, hU8, hR7⟩ := bind_some hM; clear hM
    refine AW_mid (ι := Unit) (fun i => ⟨27, [], [], []⟩) (fun i => (.inl i) = e6) ?_ ?_
    · intro K9 hK9
      have hM := hU8; clear hU8
      refine AW_seq fun K10 hK10 => ?_
      refine AW_region ?_
      simp (maxSteps := 10000000) [go_sem, h4, h4']
      refine hK10 _ ?_
      refine AW_block ?_
      refine AW_go (ι := Int) (fun i => ⟨27, [(0, .one (.l (.sl (a0.map TRow.c)))), (1, .one (.l (.sl (a1.map TRow.c)))), (5, .one (.l (.int .i64 i)))], [], []⟩) (fun n i => w_eqRowS_u1 k a0 a1 n i = some e6) k 0 hM (Lift.into (by constructor <;> simp [go_sem, h4, h4'])) (fun _ h => by simp [w_eqRowS_u1] at h) ?_
      intro KL11 n x1 hL11 hM
      have hM : w_eqRowS_u1 k a0 a1 (n + 1) x1 = some e6 := hM; rw [w_eqRowS_u1] at hM
      refine AW_seq fun K12 hK12 => ?_
      refine AW_seq fun K13 hK13 => ?_
      refine AW_region ?_
      simp (maxSteps := 10000000) [go_sem]
      refine hK13 _ ?_
      refine AW_cond (b := (decide (x1 < (a0.length : Int)))) (by simp (maxSteps := 10000000) [go_sem]) (fun h14 => ?_) (fun h14 => ?_)
      · rw [if_pos h14] at hM
        have h14' := h14; try simp at h14'
        have h14'' : ¬ ((a0.length : Int) ≤ x1) := by have := h14; simp at this; omega
        refine AW_skip ?_
        refine hK12 _ ?_
        refine AW_seq fun K15 hK15 => ?_
        refine AW_block ?_
        refine AW_seq fun K16 hK16 => ?_
        obtain ⟨x2, e17, hM⟩ := bind_some hM
        obtain ⟨p18, q19, l20, g21⟩ := at_spec e17
        obtain ⟨x3, e22, hM⟩ := bind_some hM
        obtain ⟨p23, q24, l25, g26⟩ := at_spec e22
        obtain ⟨x4, e27, hM⟩ := bind_some hM
        refine AW_quick [[], [], [0, 1], [0, 1, 2], [], [], [4, 5], [4, 5, 6], [0, 1, 2, 3, 4, 5, 6, 7], [0, 1, 2, 3, 4, 5, 6, 7, 8]] 8 mixed (by kernel_rfl) (by kernel_rfl) ?_
        simp (maxSteps := 10000000) [go_sem, h14, h14', h14'', p18, q19, g21, p23, q24, g26]
        refine by_ctr false (w_eqRow_ctr k x2 x3 x4 e27) (by simp (maxSteps := 10000000) [go_sem, h14, h14', h14'', p18, q19, g21, p23, q24, g26]) (by simp) ?_
        simp (maxSteps := 10000000) [go_sem, h14, h14', h14'', p18, q19, g21, p23, q24, g26]
        refine hK16 _ ?_
        refine AW_cond (b := (!x4)) (by simp (maxSteps := 10000000) [go_sem, h14, h14', h14'', p18, q19, g21, p23, q24, g26]) (fun h28 => ?_) (fun h28 => ?_)
        · rw [if_pos h28] at hM
          have h28' := h28; try simp at h28'
          refine AW_seq fun K29 hK29 => ?_
          refine AW_region ?_
          simp (maxSteps := 10000000) [go_sem, h14, h14', h14'', p18, q19, g21, p23, q24, g26, h28, h28']
          refine hK29 _ ?_
          obtain rfl := Option.some.inj hM
          have hM := hR7; dsimp only at hM
          obtain rfl := Option.some.inj hM
          refine AW_ret ?_
          simp (maxSteps := 10000000) [go_sem, h14, h14', h14'', p18, q19, g21, p23, q24, g26, h28, h28']
        · rw [if_neg (ne_true h28)] at hM
          have h28' := h28; try simp at h28'
          refine AW_skip ?_
          refine hK15 _ ?_
          refine AW_region ?_
          simp (maxSteps := 10000000) [go_sem, h14, h14', h14'', p18, q19, g21, p23, q24, g26, h28, h28']
          exact hL11 (IntKind.i64.wrap (x1 + 1)) _ hM (Lift.into (by constructor <;> simp [go_sem, h14, h14', h14'', p18, q19, g21, p23, q24, g26, h28, h28']))
      · rw [if_neg (ne_true h14)] at hM
        have h14' := h14; try simp at h14'
        have h14'' : ¬ (x1 < (a0.length : Int)) := by have := h14; simp at this; omega
        refine AW_exit ?_
        obtain rfl := Option.some.inj hM
        exact hK9 () _ rfl (Lift.into (by constructor <;> simp [go_sem, h14, h14', h14'']))
    · rintro _ rfl
      have hM := hR7
      dsimp only at hM
      refine AW_seq fun K30 hK30 => ?_
      refine AW_region ?_
      simp (maxSteps := 10000000) [go_sem, h4, h4']
      refine hK30 _ ?_
      obtain rfl := Option.some.inj hM
      refine AW_ret ?_
      simp (maxSteps := 10000000) [go_sem, h4, h4']
set_option maxHeartbeats 4000000 in
set_option maxRecDepth 100000 in
theorem w_eqValueS_all : ∀ (k : Nat), (∀ (a0 : List TValue) (a1 : List TValue) (r : Bool) (hM : w_eqValueS k a0 a1 = some r), Ctr Try.prog 94 [.one (.sl (a0.map TValue.c)), .one (.sl (a1.map TValue.c))] true [.one (.bool r)]) ∧
    (∀ (a0 : TValue) (a1 : TValue) (r : Bool) (hM : w_eqValue k a0 a1 = some r), Ctr Try.prog 52 [.agg (TValue.c a0), .agg (TValue.c a1)] true [.one (.bool r)]) := by
  intro k
  induction k with
  | zero => exact ⟨by intro a0 a1 r hM; simp [w_eqValueS] at hM, by intro a0 a1 r hM; simp [w_eqValue] at hM⟩
  | succ k ih =>
    obtain ⟨ih_w_eqValueS, ih_w_eqValue⟩ := ih
    refine ⟨?_, ?_⟩
    · intro a0 a1 r hM
      rw [w_eqValueS] at hM
      refine Ctr.of_walk (by kernel_rfl) Try.func94 rfl Try.ntmps94 Try.results94 (by simp) ?_; intro N w0 hbad
      refine AW_seq fun K1 hK1 => ?_
      refine AW_region ?_
      simp (maxSteps := 10000000) [go_sem]
      refine hK1 _ ?_
      refine AW_seq fun K2 hK2 => ?_
      refine AW_seq fun K3 hK3 => ?_
      refine AW_region ?_
      simp (maxSteps := 10000000) [go_sem]
      refine hK3 _ ?_
      refine AW_cond (b := (!decide ((a0.length : Int) = (a1.length : Int)))) (by simp (maxSteps := 10000000) [go_sem]) (fun h4 => ?_) (fun h4 => ?_)
      · rw [if_pos h4] at hM
        have h4' := h4; try simp at h4'
        refine AW_seq fun K5 hK5 => ?_
        refine AW_region ?_
        simp (maxSteps := 10000000) [go_sem, h4, h4']
        refine hK5 _ ?_
        obtain rfl := Option.some.inj hM
        refine AW_ret ?_
        simp (maxSteps := 10000000) [go_sem, h4, h4']
      · rw [if_neg (ne_true h4)] at hM
        have h4' := h4; try simp at h4'
        refine AW_skip ?_
        refine hK2 _ ?_
        obtain ⟨e6, hU8, hR7⟩ := bind_some hM; clear hM
        refine AW_mid (ι := Unit) (fun i => ⟨27, [], [], []⟩) (fun i => (.inl i) = e6) ?_ ?_
        · intro K9 hK9
          have hM := hU8; clear hU8
          refine AW_seq fun K10 hK10 => ?_
          refine AW_region ?_
          simp (maxSteps := 10000000) [go_sem, h4, h4']
          refine hK10 _ ?_
          refine AW_block ?_
          refine AW_go (ι := Int) (fun i => ⟨27, [(0, .one (.l (.sl (a0.map TValue.c)))), (1, .one (.l (.sl (a1.map TValue.c)))), (5, .one (.l (.int .i64 i)))], [], []⟩) (fun n i => w_eqValueS_u1 (w_eqValue k) a0 a1 n i = some e6) k 0 hM (Lift.into (by constructor <;> simp [go_sem, h4, h4'])) (fun _ h => by simp [w_eqValueS_u1] at h) ?_
          intro KL11 n x1 hL11 hM
          have hM : w_eqValueS_u1 (w_eqValue k) a0 a1 (n + 1) x1 = some e6 := hM; rw [w_eqValueS_u1] at hM
          refine AW_seq fun K12 hK12 => ?_
          refine AW_seq fun K13 hK13 => ?_
          refine AW_region ?_
          simp (maxSteps := 10000000) [go_sem]
          refine hK13 _ ?_
          refine AW_cond (b := (decide (x1 < (a0.length : Int)))) (by simp (maxSteps := 10000000) [go_sem]) (fun h14 => ?_) (fun h14 => ?_)
          · rw [if_pos h14] at hM
            have h14' := h14; try simp at h14'
            have h14'' : ¬ ((a0.length : Int) ≤ x1) := by have := h14; simp at this; omega
            refine AW_skip ?_
            refine hK12 _ ?_
            refine AW_seq fun K15 hK15 => ?_
            refine AW_block ?_
            refine AW_seq fun K16 hK16 => ?_
            obtain ⟨x2, e17, hM⟩ := bind_some hM
            obtain ⟨p18, q19, l20, g21⟩ := at_spec e17
            obtain ⟨x3, e22, hM⟩ := bind_some hM
            obtain ⟨p23, q24, l25, g26⟩ := at_spec e22
            obtain ⟨x4, e27, hM⟩ := bind_some hM
            refine AW_quick [[], [], [0, 1], [0, 1, 2], [], [], [4, 5], [4, 5, 6], [0, 1, 2, 3, 4, 5, 6, 7], [0, 1, 2, 3, 4, 5, 6, 7, 8]] 8 mixed (by kernel_rfl) (by kernel_rfl) ?_
            simp (maxSteps := 10000000) [go_sem, h14, h14', h14'', p18, q19, g21, p23, q24, g26]
            refine by_ctr false (ih_w_eqValue x2 x3 x4 e27) (by simp (maxSteps := 10000000) [go_sem, h14, h14', h14'', p18, q19, g21, p23, q24, g26]) (by simp) ?_
            simp (maxSteps := 10000000) [go_sem, h14, h14', h14'', p18, q19, g21, p23, q24, g26]
            refine hK16 _ ?_
            refine AW_cond (b := (!x4)) (by simp (maxSteps := 10000000) [go_sem, h14, h14', h14'', p18, q19, g21, p23, q24, g26]) (fun h28 => ?_) (fun h28 => ?_)
            · rw [if_pos h28] at hM
              have h28' := h28; try simp at h28'
              refine AW_seq fun K29 hK29 => ?_
              refine AW_region ?_
              simp (maxSteps := 10000000) [go_sem, h14, h14', h14'', p18, q19, g21, p23, q24, g26, h28, h28']
              refine hK29 _ ?_
              obtain rfl := Option.some.inj hM
              have hM := hR7; dsimp only at hM
              obtain rfl := Option.some.inj hM
              refine AW_ret ?_
              simp (maxSteps := 10000000) [go_sem, h14, h14', h14'', p18, q19, g21, p23, q24, g26, h28, h28']
            · rw [if_neg (ne_true h28)] at hM
              have h28' := h28; try simp at h28'
              refine AW_skip ?_
              refine hK15 _ ?_
              refine AW_region ?_
              simp (maxSteps := 10000000) [go_sem, h14, h14', h14'', p18, q19, g21, p23, q24, g26, h28, h28']
              exact hL11 (IntKind.i64.wrap (x1 + 1)) _ hM (Lift.into (by constructor <;> simp [go_sem, h14, h14', h14'', p18, q19, g21, p23, q24, g26, h28, h28']))
          · rw [if_neg (ne_true h14)] at hM
            have h14' := h14; try simp at h14'
            have h14'' : ¬ (x1 < (a0.length : Int)) := by have := h14; simp at this; omega
            refine AW_exit ?_
            obtain rfl := Option.some.inj hM
            exact hK9 () _ rfl (Lift.into (by constructor <;> simp [go_sem, h14, h14', h14'']))
        · rintro _ rfl
          have hM := hR7
          dsimp only at hM
          refine AW_seq fun K30 hK30 => ?_
          refine AW_region ?_
          simp (maxSteps := 10000000) [go_sem, h4, h4']
          refine hK30 _ ?_
          obtain rfl := Option.some.inj hM
          refine AW_ret ?_
          simp (maxSteps := 10000000) [go_sem, h4, h4']
    · intro a0 a1 r hM
      rw [w_eqValue] at hM
      refine Ctr.of_walk (by kernel_rfl) Try.func52 rfl Try.ntmps52 Try.results52 (by simp) ?_; intro N w0 hbad
      refine AW_seq fun K1 hK1 => ?_
      refine AW_region ?_
      simp (maxSteps := 10000000) [go_sem]
      refine hK1 _ ?_
      refine AW_seq fun K2 hK2 => ?_
      refine AW_seq fun K3 hK3 => ?_
      refine AW_region ?_
      simp (maxSteps := 10000000) [go_sem]
      refine hK3 _ ?_
      refine AW_cond (b := (!decide (a0.kind = a1.kind))) (by simp (maxSteps := 10000000) [go_sem]) (fun h4 => ?_) (fun h4 => ?_)
      · rw [if_pos h4] at hM
        have h4' := h4; try simp at h4'
        refine AW_seq fun K5 hK5 => ?_
        refine AW_region ?_
        simp (maxSteps := 10000000) [go_sem, h4, h4']
        refine hK5 _ ?_
        obtain rfl := Option.some.inj hM
        refine AW_ret ?_
        simp (maxSteps := 10000000) [go_sem, h4, h4']
      · rw [if_neg (ne_true h4)] at hM
        have h4' := h4; try simp at h4'
        refine AW_skip ?_
        refine hK2 _ ?_
        refine AW_seq fun K6 hK6 => ?_
        refine AW_seq fun K7 hK7 => ?_
        refine AW_region ?_
        simp (maxSteps := 10000000) [go_sem, h4, h4']
        refine hK7 _ ?_
        refine AW_cond (b := (!decide (a0.n = a1.n))) (by simp (maxSteps := 10000000) [go_sem, h4, h4']) (fun h8 => ?_) (fun h8 => ?_)
        · rw [if_pos h8] at hM
          have h8' := h8; try simp at h8'
          refine AW_seq fun K9 hK9 => ?_
          refine AW_region ?_
          simp (maxSteps := 10000000) [go_sem, h4, h4', h8, h8']
          refine hK9 _ ?_
          obtain rfl := Option.some.inj hM
          refine AW_ret ?_
          simp (maxSteps := 10000000) [go_sem, h4, h4', h8, h8']
        · rw [if_neg (ne_true h8)] at hM
          have h8' := h8; try simp at h8'
          refine AW_skip ?_
          refine hK6 _ ?_
          refine AW_seq fun K10 hK10 => ?_
          refine AW_seq fun K11 hK11 => ?_
          refine AW_region ?_
          simp (maxSteps := 10000000) [go_sem, h4, h4', h8, h8']
          refine hK11 _ ?_
          refine AW_cond (b := (!decide (a0.step = a1.step))) (by simp (maxSteps := 10000000) [go_sem, h4, h4', h8, h8']) (fun h12 => ?_) (fun h12 => ?_)
          · rw [if_pos h12] at hM
            have h12' := h12; try simp at h12'
            refine AW_seq fun K13 hK13 => ?_
            refine AW_region ?_
            simp (maxSteps := 10000000) [go_sem, h4, h4', h8, h8', h12, h12']
            refine hK13 _ ?_
            obtain rfl := Option.some.inj hM
            refine AW_ret ?_
            simp (maxSteps := 10000000) [go_sem, h4, h4', h8, h8', h12, h12']
          · rw [if_neg (ne_true h12)] at hM
            have h12' := h12; try simp at h12'
            refine AW_skip ?_
            refine hK10 _ ?_
            refine AW_seq fun K14 hK14 => ?_
            refine AW_seq fun K15 hK15 => ?_
            refine AW_region ?_
            simp (maxSteps := 10000000) [go_sem, h4, h4', h8, h8', h12, h12']
            refine hK15 _ ?_
            refine AW_cond (b := (!decide (a0.text = a1.text))) (by simp (maxSteps := 10000000) [go_sem, h4, h4', h8, h8', h12, h12']) (fun h16 => ?_) (fun h16 => ?_)
            · rw [if_pos h16] at hM
              have h16' := h16; try simp at h16'
              refine AW_seq fun K17 hK17 => ?_
              refine AW_region ?_
              simp (maxSteps := 10000000) [go_sem, h4, h4', h8, h8', h12, h12', h16, h16']
              refine hK17 _ ?_
              obtain rfl := Option.some.inj hM
              refine AW_ret ?_
              simp (maxSteps := 10000000) [go_sem, h4, h4', h8, h8', h12, h12', h16, h16']
            · rw [if_neg (ne_true h16)] at hM
              have h16' := h16; try simp at h16'
              refine AW_skip ?_
              refine hK14 _ ?_
              refine AW_seq fun K18 hK18 => ?_
              refine AW_seq fun K19 hK19 => ?_
              obtain ⟨x1, e20, hM⟩ := bind_some hM
              refine AW_region ?_
              simp (maxSteps := 10000000) [go_sem, h4, h4', h8, h8', h12, h12', h16, h16']
              refine by_ctr false (ih_w_eqValueS a0.list a1.list x1 e20) (by simp (maxSteps := 10000000) [go_sem, h4, h4', h8, h8', h12, h12', h16, h16']) (by simp) ?_
              simp (maxSteps := 10000000) [go_sem, h4, h4', h8, h8', h12, h12', h16, h16']
              refine hK19 _ ?_
              refine AW_cond (b := (!x1)) (by simp (maxSteps := 10000000) [go_sem, h4, h4', h8, h8', h12, h12', h16, h16']) (fun h21 => ?_) (fun h21 => ?_)
              · rw [if_pos h21] at hM
                have h21' := h21; try simp at h21'
                refine AW_seq fun K22 hK22 => ?_
                refine AW_region ?_
                simp (maxSteps := 10000000) [go_sem, h4, h4', h8, h8', h12, h12', h16, h16', h21, h21']
                refine hK22 _ ?_
                obtain rfl := Option.some.inj hM
                refine AW_ret ?_
                simp (maxSteps := 10000000) [go_sem, h4, h4', h8, h8', h12, h12', h16, h16', h21, h21']
              · rw [if_neg (ne_true h21)] at hM
                have h21' := h21; try simp at h21'
                refine AW_skip ?_
                refine hK18 _ ?_
                refine AW_seq fun K23 hK23 => ?_
                refine AW_seq fun K24 hK24 => ?_
                obtain ⟨x2, e25, hM⟩ := bind_some hM
                refine AW_region ?_
                simp (maxSteps := 10000000) [go_sem, h4, h4', h8, h8', h12, h12', h16, h16', h21, h21']
                refine by_ctr false (w_eqStringS_ctr k a0.columns a1.columns x2 e25) (by simp (maxSteps := 10000000) [go_sem, h4, h4', h8, h8', h12, h12', h16, h16', h21, h21']) (by simp) ?_
                simp (maxSteps := 10000000) [go_sem, h4, h4', h8, h8', h12, h12', h16, h16', h21, h21']
                refine hK24 _ ?_
                refine AW_cond (b := (!x2)) (by simp (maxSteps := 10000000) [go_sem, h4, h4', h8, h8', h12, h12', h16, h16', h21, h21']) (fun h26 => ?_) (fun h26 => ?_)
                · rw [if_pos h26] at hM
                  have h26' := h26; try simp at h26'
                  refine AW_seq fun K27 hK27 => ?_
                  refine AW_region ?_
                  simp (maxSteps := 10000000) [go_sem, h4, h4', h8, h8', h12, h12', h16, h16', h21, h21', h26, h26']
                  refine hK27 _ ?_
                  obtain rfl := Option.some.inj hM
                  refine AW_ret ?_
                  simp (maxSteps := 10000000) [go_sem, h4, h4', h8, h8', h12, h12', h16, h16', h21, h21', h26, h26']
                · rw [if_neg (ne_true h26)] at hM
                  have h26' := h26; try simp at h26'
                  refine AW_skip ?_
                  refine hK23 _ ?_
                  refine AW_seq fun K28 hK28 => ?_
                  refine AW_seq fun K29 hK29 => ?_
                  obtain ⟨x3, e30, hM⟩ := bind_some hM
                  refine AW_region ?_
                  simp (maxSteps := 10000000) [go_sem, h4, h4', h8, h8', h12, h12', h16, h16', h21, h21', h26, h26']
                  refine by_ctr false (w_eqRowS_ctr k a0.rows a1.rows x3 e30) (by simp (maxSteps := 10000000) [go_sem, h4, h4', h8, h8', h12, h12', h16, h16', h21, h21', h26, h26']) (by simp) ?_
                  simp (maxSteps := 10000000) [go_sem, h4, h4', h8, h8', h12, h12', h16, h16', h21, h21', h26, h26']
                  refine hK29 _ ?_
                  refine AW_cond (b := (!x3)) (by simp (maxSteps := 10000000) [go_sem, h4, h4', h8, h8', h12, h12', h16, h16', h21, h21', h26, h26']) (fun h31 => ?_) (fun h31 => ?_)
                  · rw [if_pos h31] at hM
                    have h31' := h31; try simp at h31'
                    refine AW_seq fun K32 hK32 => ?_
                    refine AW_region ?_
                    simp (maxSteps := 10000000) [go_sem, h4, h4', h8, h8', h12, h12', h16, h16', h21, h21', h26, h26', h31, h31']
                    refine hK32 _ ?_
                    obtain rfl := Option.some.inj hM
                    refine AW_ret ?_
                    simp (maxSteps := 10000000) [go_sem, h4, h4', h8, h8', h12, h12', h16, h16', h21, h21', h26, h26', h31, h31']
                  · rw [if_neg (ne_true h31)] at hM
                    have h31' := h31; try simp at h31'
                    refine AW_skip ?_
                    refine hK28 _ ?_
                    refine AW_seq fun K33 hK33 => ?_
                    refine AW_region ?_
                    simp (maxSteps := 10000000) [go_sem, h4, h4', h8, h8', h12, h12', h16, h16', h21, h21', h26, h26', h31, h31']
                    refine hK33 _ ?_
                    obtain rfl := Option.some.inj hM
                    refine AW_ret ?_
                    simp (maxSteps := 10000000) [go_sem, h4, h4', h8, h8', h12, h12', h16, h16', h21, h21', h26, h26', h31, h31']
theorem w_eqValueS_ctr (k : Nat) : ∀ (a0 : List TValue) (a1 : List TValue) (r : Bool) (hM : w_eqValueS k a0 a1 = some r), Ctr Try.prog 94 [.one (.sl (a0.map TValue.c)), .one (.sl (a1.map TValue.c))] true [.one (.bool r)] := (w_eqValueS_all k).1
theorem w_eqValue_ctr (k : Nat) : ∀ (a0 : TValue) (a1 : TValue) (r : Bool) (hM : w_eqValue k a0 a1 = some r), Ctr Try.prog 52 [.agg (TValue.c a0), .agg (TValue.c a1)] true [.one (.bool r)] := (w_eqValueS_all k).2

set_option maxHeartbeats 4000000 in
set_option maxRecDepth 100000 in
theorem w_FnExactHasRow_ctr (k : Nat) (a0 : TValue) (a1 : TRow) (r : Bool) (hM : w_FnExactHasRow k a0 a1 = some r) : Ctr Try.prog 10 [.agg (TValue.c a0), .agg (TRow.c a1)] true [.one (.bool r)] := by
  unfold w_FnExactHasRow at hM
  refine Ctr.of_walk (by kernel_rfl) Try.func10 rfl Try.ntmps10 Try.results10 (by simp) ?_; intro N w0 hbad
  refine AW_seq fun K1 hK1 => ?_
  refine AW_region ?_
  simp (maxSteps := 10000000) [go_sem]
  refine hK1 _ ?_
  refine AW_seq fun K2 hK2 => ?_
  refine AW_region ?_
  simp (maxSteps := 10000000) [go_sem]
  refine hK2 _ ?_
  refine AW_seq fun K3 hK3 => ?_
  obtain ⟨x1, e4, hM⟩ := bind_some hM
  refine AW_region ?_
  simp (maxSteps := 10000000) [go_sem]
  refine by_ctr false (w_szValue_ctr k a0 1048576 x1 e4) (by simp (maxSteps := 10000000) [go_sem]) (by simp) ?_
  simp (maxSteps := 10000000) [go_sem]
  refine hK3 _ ?_
  refine AW_seq fun K5 hK5 => ?_
  refine AW_seq fun K6 hK6 => ?_
  refine AW_region ?_
  simp (maxSteps := 10000000) [go_sem]
  refine hK6 _ ?_
  refine AW_cond (b := (decide (x1 < 0))) (by simp (maxSteps := 10000000) [go_sem]) (fun h7 => ?_) (fun h7 => ?_)
  · rw [if_pos h7] at hM
    have h7' := h7; try simp at h7'
    have h7'' : ¬ (0 ≤ x1) := by have := h7; simp at this; omega
    refine AW_seq fun K8 hK8 => ?_
    refine AW_region ?_
    simp (maxSteps := 10000000) [go_sem, h7, h7', h7'']
    refine hK8 _ ?_
    obtain rfl := Option.some.inj hM
    refine AW_ret ?_
    simp (maxSteps := 10000000) [go_sem, h7, h7', h7'']
  · rw [if_neg (ne_true h7)] at hM
    have h7' := h7; try simp at h7'
    have h7'' : ¬ (x1 < 0) := by have := h7; simp at this; omega
    refine AW_skip ?_
    refine hK5 _ ?_
    refine AW_seq fun K9 hK9 => ?_
    obtain ⟨x2, e10, hM⟩ := bind_some hM
    refine AW_region ?_
    simp (maxSteps := 10000000) [go_sem, h7, h7', h7'']
    refine by_ctr false (w_szRow_ctr a1 x1 x2 e10) (by simp (maxSteps := 10000000) [go_sem, h7, h7', h7'']) (by simp) ?_
    simp (maxSteps := 10000000) [go_sem, h7, h7', h7'']
    refine hK9 _ ?_
    refine AW_seq fun K11 hK11 => ?_
    refine AW_seq fun K12 hK12 => ?_
    refine AW_region ?_
    simp (maxSteps := 10000000) [go_sem, h7, h7', h7'']
    refine hK12 _ ?_
    refine AW_cond (b := (decide (x2 < 0))) (by simp (maxSteps := 10000000) [go_sem, h7, h7', h7'']) (fun h13 => ?_) (fun h13 => ?_)
    · rw [if_pos h13] at hM
      have h13' := h13; try simp at h13'
      have h13'' : ¬ (0 ≤ x2) := by have := h13; simp at this; omega
      refine AW_seq fun K14 hK14 => ?_
      refine AW_region ?_
      simp (maxSteps := 10000000) [go_sem, h7, h7', h7'', h13, h13', h13'']
      refine hK14 _ ?_
      obtain rfl := Option.some.inj hM
      refine AW_ret ?_
      simp (maxSteps := 10000000) [go_sem, h7, h7', h7'', h13, h13', h13'']
    · rw [if_neg (ne_true h13)] at hM
      have h13' := h13; try simp at h13'
      have h13'' : ¬ (x2 < 0) := by have := h13; simp at this; omega
      refine AW_skip ?_
      refine hK11 _ ?_
      refine AW_seq fun K15 hK15 => ?_
      obtain ⟨x3, e16, hM⟩ := bind_some hM
      obtain ⟨x4, e17, hM⟩ := bind_some hM
      obtain ⟨x5, e18, hM⟩ := bind_some hM
      refine AW_open [[], [0], [], [0, 1, 2], [0, 1, 2, 3], [0, 1, 2, 3, 4]] mixed (by kernel_rfl) ?_
      simp (maxSteps := 10000000) [go_sem, h7, h7', h7'', h13, h13', h13'']
      refine by_ctr false (w_toValue_ctr k a0 x3 e16) (by simp (maxSteps := 10000000) [go_sem, h7, h7', h7'', h13, h13', h13'']) (by simp) ?_
      simp (maxSteps := 10000000) [go_sem, h7, h7', h7'', h13, h13', h13'']
      refine by_ctr false (w_toRow_ctr k a1 x4 e17) (by simp (maxSteps := 10000000) [go_sem, h7, h7', h7'', h13, h13', h13'']) (by simp) ?_
      simp (maxSteps := 10000000) [go_sem, h7, h7', h7'', h13, h13', h13'']
      refine by_ctr false (s_HasRow_ctr k x3 x4 x5 e18) (by simp (maxSteps := 10000000) [go_sem, h7, h7', h7'', h13, h13', h13'']) (by simp) ?_
      simp (maxSteps := 10000000) [go_sem, h7, h7', h7'', h13, h13', h13'']
      refine hK15 _ ?_
      refine AW_seq fun K19 hK19 => ?_
      obtain ⟨x6, e20, hM⟩ := bind_some hM
      refine AW_region ?_
      simp (maxSteps := 10000000) [go_sem, h7, h7', h7'', h13, h13', h13'']
      refine by_ctr false (w_toValue_ctr k a0 x6 e20) (by simp (maxSteps := 10000000) [go_sem, h7, h7', h7'', h13, h13', h13'']) (by simp) ?_
      simp (maxSteps := 10000000) [go_sem, h7, h7', h7'', h13, h13', h13'']
      refine hK19 _ ?_
      refine AW_seq fun K21 hK21 => ?_
      obtain ⟨x7, e22, hM⟩ := bind_some hM
      refine AW_region ?_
      simp (maxSteps := 10000000) [go_sem, h7, h7', h7'', h13, h13', h13'']
      refine by_ctr false (w_toRow_ctr k a1 x7 e22) (by simp (maxSteps := 10000000) [go_sem, h7, h7', h7'', h13, h13', h13'']) (by simp) ?_
      simp (maxSteps := 10000000) [go_sem, h7, h7', h7'', h13, h13', h13'']
      refine hK21 _ ?_
      refine AW_seq fun K23 hK23 => ?_
      obtain ⟨x8, e24, hM⟩ := bind_some hM
      refine AW_region ?_
      simp (maxSteps := 10000000) [go_sem, h7, h7', h7'', h13, h13', h13'']
      refine by_ctr false (i_HasRow_ctr k x6 x7 x8 e24) (by simp (maxSteps := 10000000) [go_sem, h7, h7', h7'', h13, h13', h13'']) (by simp) ?_
      simp (maxSteps := 10000000) [go_sem, h7, h7', h7'', h13, h13', h13'']
      refine hK23 _ ?_
      refine AW_seq fun K25 hK25 => ?_
      refine AW_seq fun K26 hK26 => ?_
      refine AW_region ?_
      simp (maxSteps := 10000000) [go_sem, h7, h7', h7'', h13, h13', h13'']
      refine hK26 _ ?_
      refine AW_cond (b := (!(x8 == x5))) (by simp (maxSteps := 10000000) [go_sem, h7, h7', h7'', h13, h13', h13'']) (fun h27 => ?_) (fun h27 => ?_)
      · rw [if_pos h27] at hM
        have h27' := h27; try simp at h27'
        refine AW_seq fun K28 hK28 => ?_
        refine AW_region ?_
        simp (maxSteps := 10000000) [go_sem, h7, h7', h7'', h13, h13', h13'', h27, h27']
        refine hK28 _ ?_
        obtain rfl := Option.some.inj hM
        refine AW_ret ?_
        simp (maxSteps := 10000000) [go_sem, h7, h7', h7'', h13, h13', h13'', h27, h27']
      · rw [if_neg (ne_true h27)] at hM
        have h27' := h27; try simp at h27'
        refine AW_skip ?_
        refine hK25 _ ?_
        refine AW_seq fun K29 hK29 => ?_
        refine AW_seq fun K30 hK30 => ?_
        obtain ⟨x9, e31, hM⟩ := bind_some hM
        obtain ⟨x10, e32, hM⟩ := bind_some hM
        refine AW_open [[], [], [1], [0, 1, 2], [0, 1, 2, 3]] mixed (by kernel_rfl) ?_
        simp (maxSteps := 10000000) [go_sem, h7, h7', h7'', h13, h13', h13'', h27, h27']
        refine by_ctr false (w_toValue_ctr k a0 x9 e31) (by simp (maxSteps := 10000000) [go_sem, h7, h7', h7'', h13, h13', h13'', h27, h27']) (by simp) ?_
        simp (maxSteps := 10000000) [go_sem, h7, h7', h7'', h13, h13', h13'', h27, h27']
        refine by_ctr false (w_eqValue_ctr k x6 x9 x10 e32) (by simp (maxSteps := 10000000) [go_sem, h7, h7', h7'', h13, h13', h13'', h27, h27']) (by simp) ?_
        simp (maxSteps := 10000000) [go_sem, h7, h7', h7'', h13, h13', h13'', h27, h27']
        refine hK30 _ ?_
        refine AW_cond (b := (!x10)) (by simp (maxSteps := 10000000) [go_sem, h7, h7', h7'', h13, h13', h13'', h27, h27']) (fun h33 => ?_) (fun h33 => ?_)
        · rw [if_pos h33] at hM
          have h33' := h33; try simp at h33'
          refine AW_seq fun K34 hK34 => ?_
          refine AW_region ?_
          simp (maxSteps := 10000000) [go_sem, h7, h7', h7'', h13, h13', h13'', h27, h27', h33, h33']
          refine hK34 _ ?_
          obtain rfl := Option.some.inj hM
          refine AW_ret ?_
          simp (maxSteps := 10000000) [go_sem, h7, h7', h7'', h13, h13', h13'', h27, h27', h33, h33']
        · rw [if_neg (ne_true h33)] at hM
          have h33' := h33; try simp at h33'
          refine AW_skip ?_
          refine hK29 _ ?_
          refine AW_seq fun K35 hK35 => ?_
          refine AW_seq fun K36 hK36 => ?_
          obtain ⟨x11, e37, hM⟩ := bind_some hM
          obtain ⟨x12, e38, hM⟩ := bind_some hM
          refine AW_open [[], [], [1], [0, 1, 2], [0, 1, 2, 3]] mixed (by kernel_rfl) ?_
          simp (maxSteps := 10000000) [go_sem, h7, h7', h7'', h13, h13', h13'', h27, h27', h33, h33']
          refine by_ctr false (w_toRow_ctr k a1 x11 e37) (by simp (maxSteps := 10000000) [go_sem, h7, h7', h7'', h13, h13', h13'', h27, h27', h33, h33']) (by simp) ?_
          simp (maxSteps := 10000000) [go_sem, h7, h7', h7'', h13, h13', h13'', h27, h27', h33, h33']
          refine by_ctr false (w_eqRow_ctr k x7 x11 x12 e38) (by simp (maxSteps := 10000000) [go_sem, h7, h7', h7'', h13, h13', h13'', h27, h27', h33, h33']) (by simp) ?_
          simp (maxSteps := 10000000) [go_sem, h7, h7', h7'', h13, h13', h13'', h27, h27', h33, h33']
          refine hK36 _ ?_
          refine AW_cond (b := (!x12)) (by simp (maxSteps := 10000000) [go_sem, h7, h7', h7'', h13, h13', h13'', h27, h27', h33, h33']) (fun h39 => ?_) (fun h39 => ?_)
          · rw [if_pos h39] at hM
            have h39' := h39; try simp at h39'
            refine AW_seq fun K40 hK40 => ?_
            refine AW_region ?_
            simp (maxSteps := 10000000) [go_sem, h7, h7', h7'', h13, h13', h13'', h27, h27', h33, h33', h39, h39']
            refine hK40 _ ?_
            obtain rfl := Option.some.inj hM
            refine AW_ret ?_
            simp (maxSteps := 10000000) [go_sem, h7, h7', h7'', h13, h13', h13'', h27, h27', h33, h33', h39, h39']
          · rw [if_neg (ne_true h39)] at hM
            have h39' := h39; try simp at h39'
            refine AW_skip ?_
            refine hK35 _ ?_
            refine AW_seq fun K41 hK41 => ?_
            refine AW_region ?_
            simp (maxSteps := 10000000) [go_sem, h7, h7', h7'', h13, h13', h13'', h27, h27', h33, h33', h39, h39']
            refine hK41 _ ?_
            obtain rfl := Option.some.inj hM
            refine AW_ret ?_
            simp (maxSteps := 10000000) [go_sem, h7, h7', h7'', h13, h13', h13'', h27, h27', h33, h33', h39, h39']
set_option maxHeartbeats 4000000 in
set_option maxRecDepth 100000 in
theorem w_szExprS_all : ∀ (k : Nat), (∀ (a0 : List TExpr) (a1 : Int) (r : Int) (hM : w_szExprS k a0 a1 = some r), Ctr Try.prog 98 [.one (.sl (a0.map TExpr.c)), .one (.int .i64 a1)] true [.one (.int .i64 r)]) ∧
    (∀ (a0 : TExpr) (a1 : Int) (r : Int) (hM : w_szExpr k a0 a1 = some r), Ctr Try.prog 54 [.agg (TExpr.c a0), .one (.int .i64 a1)] true [.one (.int .i64 r)]) := by
  intro k
  induction k with
  | zero => exact ⟨by intro a0 a1 r hM; simp [w_szExprS] at hM, by intro a0 a1 r hM; simp [w_szExpr] at hM⟩
  | succ k ih =>
    obtain ⟨ih_w_szExprS, ih_w_szExpr⟩ := ih
    refine ⟨?_, ?_⟩
    · intro a0 a1 r hM
      rw [w_szExprS] at hM
      refine Ctr.of_walk (by kernel_rfl) Try.func98 rfl Try.ntmps98 Try.results98 (by simp) ?_; intro N w0 hbad
      refine AW_seq fun K1 hK1 => ?_
      refine AW_region ?_
      simp (maxSteps := 10000000) [go_sem]
      refine hK1 _ ?_
      refine AW_seq fun K2 hK2 => ?_
      refine AW_region ?_
      simp (maxSteps := 10000000) [go_sem]
      refine hK2 _ ?_
      refine AW_seq fun K3 hK3 => ?_
      refine AW_seq fun K4 hK4 => ?_
      refine AW_region ?_
      simp (maxSteps := 10000000) [go_sem]
      refine hK4 _ ?_
      refine AW_cond (b := (decide ((IntKind.i64.wrap (a1 - (a0.length : Int))) < 0))) (by simp (maxSteps := 10000000) [go_sem]) (fun h5 => ?_) (fun h5 => ?_)
      · rw [if_pos h5] at hM
        have h5' := h5; try simp at h5'
        have h5'' : ¬ (0 ≤ (IntKind.i64.wrap (a1 - (a0.length : Int)))) := by have := h5; simp at this; omega
        refine AW_seq fun K6 hK6 => ?_
        refine AW_region ?_
        simp (maxSteps := 10000000) [go_sem, h5, h5', h5'']
        refine hK6 _ ?_
        obtain rfl := Option.some.inj hM
        refine AW_ret ?_
        simp (maxSteps := 10000000) [go_sem, h5, h5', h5'']
      · rw [if_neg (ne_true h5)] at hM
        have h5' := h5; try simp at h5'
        have h5'' : ¬ ((IntKind.i64.wrap (a1 - (a0.length : Int))) < 0) := by have := h5; simp at this; omega
        refine AW_skip ?_
        refine hK3 _ ?_
        obtain ⟨e7, hU9, hR8⟩ := bind_some hM; clear hM
        refine AW_mid (ι := Int) (fun i => ⟨27, [(1, .one (.l (.int .i64 i)))], [], []⟩) (fun i => (.inl i) = e7) ?_ ?_
        · intro K10 hK10
          have hM := hU9; clear hU9
          refine AW_seq fun K11 hK11 => ?_
          refine AW_region ?_
          simp (maxSteps := 10000000) [go_sem, h5, h5', h5'']
          refine hK11 _ ?_
          refine AW_block ?_
          refine AW_go (ι := Int × Int) (fun i => ⟨27, [(0, .one (.l (.sl (a0.map TExpr.c)))), (1, .one (.l (.int .i64 i.1))), (5, .one (.l (.int .i64 i.2)))], [], []⟩) (fun n i => w_szExprS_u1 (w_szExpr k) a0 n i.1 i.2 = some e7) k ((IntKind.i64.wrap (a1 - (a0.length : Int))), 0) hM (Lift.into (by constructor <;> simp [go_sem, h5, h5', h5''])) (fun _ h => by simp [w_szExprS_u1] at h) ?_
          intro KL12 n ⟨x2, x3⟩ hL12 hM
          have hM : w_szExprS_u1 (w_szExpr k) a0 (n + 1) x2 x3 = some e7 := hM; rw [w_szExprS_u1] at hM
          refine AW_seq fun K13 hK13 => ?_
          refine AW_seq fun K14 hK14 => ?_
          refine AW_region ?_
          simp (maxSteps := 10000000) [go_sem]
          refine hK14 _ ?_
          refine AW_cond (b := (decide (x3 < (a0.length : Int)))) (by simp (maxSteps := 10000000) [go_sem]) (fun h15 => ?_) (fun h15 => ?_)
          · rw [if_pos h15] at hM
            have h15' := h15; try simp at h15'
            have h15'' : ¬ ((a0.length : Int) ≤ x3) := by have := h15; simp at this; omega
            refine AW_skip ?_
            refine hK13 _ ?_
            refine AW_seq fun K16 hK16 => ?_
            refine AW_block ?_
            refine AW_seq fun K17 hK17 => ?_
            obtain ⟨x4, e18, hM⟩ := bind_some hM
            obtain ⟨p19, q20, l21, g22⟩ := at_spec e18
            obtain ⟨x5, e23, hM⟩ := bind_some hM
            refine AW_region ?_
            simp (maxSteps := 10000000) [go_sem, h15, h15', h15'', p19, q20, g22]
            refine by_ctr false (ih_w_szExpr x4 x2 x5 e23) (by simp (maxSteps := 10000000) [go_sem, h15, h15', h15'', p19, q20, g22]) (by simp) ?_
            simp (maxSteps := 10000000) [go_sem, h15, h15', h15'', p19, q20, g22]
            refine hK17 _ ?_
            refine AW_seq fun K24 hK24 => ?_
            refine AW_region ?_
            simp (maxSteps := 10000000) [go_sem, h15, h15', h15'', p19, q20, g22]
            refine hK24 _ ?_
            refine AW_cond (b := (decide (x5 < 0))) (by simp (maxSteps := 10000000) [go_sem, h15, h15', h15'', p19, q20, g22]) (fun h25 => ?_) (fun h25 => ?_)
            · rw [if_pos h25] at hM
              have h25' := h25; try simp at h25'
              have h25'' : ¬ (0 ≤ x5) := by have := h25; simp at this; omega
              refine AW_seq fun K26 hK26 => ?_
              refine AW_region ?_
              simp (maxSteps := 10000000) [go_sem, h15, h15', h15'', p19, q20, g22, h25, h25', h25'']
              refine hK26 _ ?_
              obtain rfl := Option.some.inj hM
              have hM := hR8; dsimp only at hM
              obtain rfl := Option.some.inj hM
              refine AW_ret ?_
              simp (maxSteps := 10000000) [go_sem, h15, h15', h15'', p19, q20, g22, h25, h25', h25'']
            · rw [if_neg (ne_true h25)] at hM
              have h25' := h25; try simp at h25'
              have h25'' : ¬ (x5 < 0) := by have := h25; simp at this; omega
              refine AW_skip ?_
              refine hK16 _ ?_
              refine AW_region ?_
              simp (maxSteps := 10000000) [go_sem, h15, h15', h15'', p19, q20, g22, h25, h25', h25'']
              exact hL12 (x5, (IntKind.i64.wrap (x3 + 1))) _ hM (Lift.into (by constructor <;> simp [go_sem, h15, h15', h15'', p19, q20, g22, h25, h25', h25'']))
          · rw [if_neg (ne_true h15)] at hM
            have h15' := h15; try simp at h15'
            have h15'' : ¬ (x3 < (a0.length : Int)) := by have := h15; simp at this; omega
            refine AW_exit ?_
            obtain rfl := Option.some.inj hM
            exact hK10 x2 _ rfl (Lift.into (by constructor <;> simp [go_sem, h15, h15', h15'']))
        · rintro x1 rfl
          have hM := hR8
          dsimp only at hM
          refine AW_seq fun K27 hK27 => ?_
          refine AW_region ?_
          simp (maxSteps := 10000000) [go_sem, h5, h5', h5'']
          refine hK27 _ ?_
          obtain rfl := Option.some.inj hM
          refine AW_ret ?_
          simp (maxSteps := 10000000) [go_sem, h5, h5', h5'']
    · intro a0 a1 r hM
      rw [w_szExpr] at hM
      refine Ctr.of_walk (by kernel_rfl) Try.func54 rfl Try.ntmps54 Try.results54 (by simp) ?_; intro N w0 hbad
      refine AW_seq fun K1 hK1 => ?_
      refine AW_region ?_
      simp (maxSteps := 10000000) [go_sem]
      refine hK1 _ ?_
      refine AW_seq fun K2 hK2 => ?_
      refine AW_region ?_
      simp (maxSteps := 10000000) [go_sem]
      refine hK2 _ ?_
      refine AW_seq fun K3 hK3 => ?_
      refine AW_seq fun K4 hK4 => ?_
      refine AW_region ?_
      simp (maxSteps := 10000000) [go_sem]
      refine hK4 _ ?_
      refine AW_cond (b := (decide ((IntKind.i64.wrap (a1 - (a0.text.size : Int))) < 0))) (by simp (maxSteps := 10000000) [go_sem]) (fun h5 => ?_) (fun h5 => ?_)
      · rw [if_pos h5] at hM
        have h5' := h5; try simp at h5'
        have h5'' : ¬ (0 ≤ (IntKind.i64.wrap (a1 - (a0.text.size : Int)))) := by have := h5; simp at this; omega
        refine AW_seq fun K6 hK6 => ?_
        refine AW_region ?_
        simp (maxSteps := 10000000) [go_sem, h5, h5', h5'']
        refine hK6 _ ?_
        obtain rfl := Option.some.inj hM
        refine AW_ret ?_
        simp (maxSteps := 10000000) [go_sem, h5, h5', h5'']
      · rw [if_neg (ne_true h5)] at hM
        have h5' := h5; try simp at h5'
        have h5'' : ¬ ((IntKind.i64.wrap (a1 - (a0.text.size : Int))) < 0) := by have := h5; simp at this; omega
        refine AW_skip ?_
        refine hK3 _ ?_
        refine AW_seq fun K7 hK7 => ?_
        obtain ⟨x1, e8, hM⟩ := bind_some hM
        refine AW_region ?_
        simp (maxSteps := 10000000) [go_sem, h5, h5', h5'']
        refine by_ctr false (ih_w_szExprS a0.args (IntKind.i64.wrap (a1 - (a0.text.size : Int))) x1 e8) (by simp (maxSteps := 10000000) [go_sem, h5, h5', h5'']) (by simp) ?_
        simp (maxSteps := 10000000) [go_sem, h5, h5', h5'']
        refine hK7 _ ?_
        refine AW_seq fun K9 hK9 => ?_
        refine AW_seq fun K10 hK10 => ?_
        refine AW_region ?_
        simp (maxSteps := 10000000) [go_sem, h5, h5', h5'']
        refine hK10 _ ?_
        refine AW_cond (b := (decide (x1 < 0))) (by simp (maxSteps := 10000000) [go_sem, h5, h5', h5'']) (fun h11 => ?_) (fun h11 => ?_)
        · rw [if_pos h11] at hM
          have h11' := h11; try simp at h11'
          have h11'' : ¬ (0 ≤ x1) := by have := h11; simp at this; omega
          refine AW_seq fun K12 hK12 => ?_
          refine AW_region ?_
          simp (maxSteps := 10000000) [go_sem, h5, h5', h5'', h11, h11', h11'']
          refine hK12 _ ?_
          obtain rfl := Option.some.inj hM
          refine AW_ret ?_
          simp (maxSteps := 10000000) [go_sem, h5, h5', h5'', h11, h11', h11'']
        · rw [if_neg (ne_true h11)] at hM
          have h11' := h11; try simp at h11'
          have h11'' : ¬ (x1 < 0) := by have := h11; simp at this; omega
          refine AW_skip ?_
          refine hK9 _ ?_
          refine AW_seq fun K13 hK13 => ?_
          refine AW_region ?_
          simp (maxSteps := 10000000) [go_sem, h5, h5', h5'', h11, h11', h11'']
          refine hK13 _ ?_
          obtain rfl := Option.some.inj hM
          refine AW_ret ?_
          simp (maxSteps := 10000000) [go_sem, h5, h5', h5'', h11, h11', h11'']
theorem w_szExprS_ctr (k : Nat) : ∀ (a0 : List TExpr) (a1 : Int) (r : Int) (hM : w_szExprS k a0 a1 = some r), Ctr Try.prog 98 [.one (.sl (a0.map TExpr.c)), .one (.int .i64 a1)] true [.one (.int .i64 r)] := (w_szExprS_all k).1
theorem w_szExpr_ctr (k : Nat) : ∀ (a0 : TExpr) (a1 : Int) (r : Int) (hM : w_szExpr k a0 a1 = some r), Ctr Try.prog 54 [.agg (TExpr.c a0), .one (.int .i64 a1)] true [.one (.int .i64 r)] := (w_szExprS_all k).2

end Go.Proofs.Ytopjlbifglacpaa
