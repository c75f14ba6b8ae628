/- Contracts of the program's functions: where the mirrored function answers, the program's function returns this answer. Written by a program of mine. -/
import Derived.Test.YtmiboaogfjgkjaaGreatWn
import Derived.Test.YtmiboaogfjgkjaaGreatMdA2
import Derived.Test.YtmiboaogfjgkjaaGreatCtA1
set_option linter.unusedSimpArgs false
set_option linter.unusedVariables false
namespace Go.Proofs.YtmiboaogfjgkjaaGreat
open Go.RowKit Am

set_option maxHeartbeats 4000000 in
set_option maxRecDepth 100000 in
theorem w_toOrigin_ctr (a0 : TOrigin) (r : TOrigin) (hM : w_toOrigin a0 = some r) : Ctr Tryz.prog 126 [.agg (TOrigin.c a0)] true [.agg (TOrigin.c r)] := by
  unfold w_toOrigin at hM
  refine Ctr.of_walk (by kernel_rfl) Tryz.func126 rfl Tryz.ntmps126 Tryz.results126 (by simp) ?_; intro N w0 hbad
  refine AW_seq fun K1 hK1 => ?_
  refine AW_region ?_
  simp (maxSteps := 10000000) [go_sem]
  refine hK1 _ ?_
  refine AW_seq fun K2 hK2 => ?_
  refine AW_region ?_
  simp (maxSteps := 10000000) [go_sem]
  refine hK2 _ ?_
  refine AW_seq fun K3 hK3 => ?_
  refine AW_region ?_
  simp (maxSteps := 10000000) [go_sem]
  refine hK3 _ ?_
  refine AW_seq fun K4 hK4 => ?_
  refine AW_region ?_
  simp (maxSteps := 10000000) [go_sem]
  refine hK4 _ ?_
  refine AW_seq fun K5 hK5 => ?_
  refine AW_region ?_
  simp (maxSteps := 10000000) [go_sem]
  refine hK5 _ ?_
  obtain rfl := Option.some.inj hM
  refine AW_ret ?_
  simp (maxSteps := 10000000) [go_sem]
set_option maxHeartbeats 4000000 in
set_option maxRecDepth 100000 in
theorem w_toOriginS_ctr (k : Nat) (a0 : List TOrigin) (r : List TOrigin) (hM : w_toOriginS k a0 = some r) : Ctr Tryz.prog 124 [.one (.sl (a0.map TOrigin.c))] true [.one (.sl (r.map TOrigin.c))] := by
  unfold w_toOriginS at hM
  refine Ctr.of_walk (by kernel_rfl) Tryz.func124 rfl Tryz.ntmps124 Tryz.results124 (by simp) ?_; intro N w0 hbad
  refine AW_seq fun K1 hK1 => ?_
  refine AW_region ?_
  simp (maxSteps := 10000000) [go_sem]
  refine hK1 _ ?_
  refine AW_seq fun K2 hK2 => ?_
  obtain ⟨x1, e3, hM⟩ := bind_some hM
  obtain ⟨c4, s5, s6, s7⟩ := mk_spec e3
  replace c4 := c4.symm; subst c4
  try simp at s5
  try simp at s6
  try simp at s7
  refine AW_region ?_
  simp (maxSteps := 10000000) [go_sem, s5, s6, s7]
  refine hK2 _ ?_
  obtain ⟨e8, hU10, hR9⟩ := bind_some hM; clear hM
  refine AW_mid (ι := List TOrigin) (fun i => ⟨23, [(3, .one (.own 448 i.length))], [], [(448, some ⟨true, i.map TOrigin.c⟩)]⟩) (fun i => i = e8) ?_ ?_
  · intro K11 hK11
    have hM := hU10; clear hU10
    refine AW_seq fun K12 hK12 => ?_
    refine AW_region ?_
    simp (maxSteps := 10000000) [go_sem, s5, s6, s7]
    refine hK12 _ ?_
    refine AW_block ?_
    refine AW_go (ι := (List TOrigin) × Int) (fun i => ⟨23, [(0, .one (.l (.sl (a0.map TOrigin.c)))), (3, .one (.own 448 i.1.length)), (4, .one (.l (.int .i64 i.2)))], [], [(448, some ⟨true, i.1.map TOrigin.c⟩)]⟩) (fun n i => w_toOriginS_u1 a0 n i.1 i.2 = some e8) k ((List.replicate ((a0.length : Int).toNat) (TOrigin.mk 0 0)), 0) hM (Lift.into (by constructor <;> simp [go_sem, s5, s6, s7])) (fun _ h => by simp [w_toOriginS_u1] at h) ?_
    intro KL13 n ⟨x3, x4⟩ hL13 hM
    have hM : w_toOriginS_u1 a0 (n + 1) x3 x4 = some e8 := hM; rw [w_toOriginS_u1] at hM
    refine AW_seq fun K14 hK14 => ?_
    refine AW_seq fun K15 hK15 => ?_
    refine AW_region ?_
    simp (maxSteps := 10000000) [go_sem]
    refine hK15 _ ?_
    refine AW_cond (b := (decide (x4 < (a0.length : Int)))) (by simp (maxSteps := 10000000) [go_sem]) (fun h16 => ?_) (fun h16 => ?_)
    · rw [if_pos h16] at hM
      have h16' := h16; try simp at h16'
      have h16'' : ¬ ((a0.length : Int) ≤ x4) := by first | (have := h16; simp only [decide_eq_true_eq, decide_eq_false_iff_not, Bool.not_eq_true', Bool.not_eq_false', Bool.not_eq_true, Bool.not_eq_false] at this; omega) | (have := h16; simp at this; omega)
      refine AW_skip ?_
      refine hK14 _ ?_
      refine AW_seq fun K17 hK17 => ?_
      refine AW_block ?_
      obtain ⟨x5, e18, hM⟩ := bind_some hM
      obtain ⟨p19, q20, l21, g22⟩ := at_spec e18
      obtain ⟨x6, e23, hM⟩ := bind_some hM
      obtain ⟨x7, e24, hM⟩ := bind_some hM
      obtain ⟨p25, q26, l27, g28⟩ := at_spec e24
      refine AW_region ?_
      simp (maxSteps := 10000000) [go_sem, h16, h16', h16'', p19, q20, g22, p25, q26, g28, l27]
      refine by_ctr false (w_toOrigin_ctr x5 x6 e23) (by simp (maxSteps := 10000000) [go_sem, h16, h16', h16'', p19, q20, g22, p25, q26, g28, l27]) (by simp) ?_
      simp (maxSteps := 10000000) [go_sem, h16, h16', h16'', p19, q20, g22, p25, q26, g28, l27]
      refine hK17 _ ?_
      refine AW_region ?_
      simp (maxSteps := 10000000) [go_sem, h16, h16', h16'', p19, q20, g22, p25, q26, g28, l27]
      exact hL13 ((x3.set x4.toNat x6), (IntKind.i64.wrap (x4 + 1))) _ hM (Lift.into (by constructor <;> simp [go_sem, h16, h16', h16'', p19, q20, g22, p25, q26, g28, l27]))
    · rw [if_neg (ne_true h16)] at hM
      have h16' := h16; try simp at h16'
      have h16'' : ¬ (x4 < (a0.length : Int)) := by first | (have := h16; simp only [decide_eq_true_eq, decide_eq_false_iff_not, Bool.not_eq_true', Bool.not_eq_false', Bool.not_eq_true, Bool.not_eq_false] at this; omega) | (have := h16; simp at this; omega)
      refine AW_exit ?_
      obtain rfl := Option.some.inj hM
      exact hK11 x3 _ rfl (Lift.into (by constructor <;> simp [go_sem, h16, h16', h16'']))
  · rintro x2 rfl
    have hM := hR9
    try dsimp only at hM
    refine AW_seq fun K29 hK29 => ?_
    refine AW_region ?_
    simp (maxSteps := 10000000) [go_sem, s5, s6, s7]
    refine hK29 _ ?_
    obtain rfl := Option.some.inj hM
    refine AW_ret ?_
    simp (maxSteps := 10000000) [go_sem, s5, s6, s7]
set_option maxHeartbeats 4000000 in
set_option maxRecDepth 100000 in
theorem w_toRow_ctr (k : Nat) (a0 : TRow) (r : TRow) (hM : w_toRow k a0 = some r) : Ctr Tryz.prog 121 [.agg (TRow.c a0)] true [.agg (TRow.c r)] := by
  unfold w_toRow at hM
  refine Ctr.of_walk (by kernel_rfl) Tryz.func121 rfl Tryz.ntmps121 Tryz.results121 (by simp) ?_; intro N w0 hbad
  refine AW_seq fun K1 hK1 => ?_
  refine AW_region ?_
  simp (maxSteps := 10000000) [go_sem]
  refine hK1 _ ?_
  refine AW_seq fun K2 hK2 => ?_
  refine AW_region ?_
  simp (maxSteps := 10000000) [go_sem]
  refine hK2 _ ?_
  refine AW_seq fun K3 hK3 => ?_
  obtain ⟨x1, e4, hM⟩ := bind_some hM
  refine AW_region ?_
  simp (maxSteps := 10000000) [go_sem]
  refine by_ctr false (w_toIntS_ctr k a0.cells x1 e4) (by simp (maxSteps := 10000000) [go_sem]) (by simp) ?_
  simp (maxSteps := 10000000) [go_sem]
  refine hK3 _ ?_
  refine AW_seq fun K5 hK5 => ?_
  obtain ⟨x2, e6, hM⟩ := bind_some hM
  refine AW_region ?_
  simp (maxSteps := 10000000) [go_sem]
  refine by_ctr false (w_toOriginS_ctr k a0.from_ x2 e6) (by simp (maxSteps := 10000000) [go_sem]) (by simp) ?_
  simp (maxSteps := 10000000) [go_sem]
  refine hK5 _ ?_
  refine AW_seq fun K7 hK7 => ?_
  refine AW_region ?_
  simp (maxSteps := 10000000) [go_sem]
  refine hK7 _ ?_
  obtain rfl := Option.some.inj hM
  refine AW_ret ?_
  simp (maxSteps := 10000000) [go_sem]
set_option maxHeartbeats 4000000 in
set_option maxRecDepth 100000 in
theorem w_toRowS_ctr (k : Nat) (a0 : List TRow) (r : List TRow) (hM : w_toRowS k a0 = some r) : Ctr Tryz.prog 112 [.one (.sl (a0.map TRow.c))] true [.one (.sl (r.map TRow.c))] := by
  unfold w_toRowS at hM
  refine Ctr.of_walk (by kernel_rfl) Tryz.func112 rfl Tryz.ntmps112 Tryz.results112 (by simp) ?_; intro N w0 hbad
  refine AW_seq fun K1 hK1 => ?_
  refine AW_region ?_
  simp (maxSteps := 10000000) [go_sem]
  refine hK1 _ ?_
  refine AW_seq fun K2 hK2 => ?_
  obtain ⟨x1, e3, hM⟩ := bind_some hM
  obtain ⟨c4, s5, s6, s7⟩ := mk_spec e3
  replace c4 := c4.symm; subst c4
  try simp at s5
  try simp at s6
  try simp at s7
  refine AW_region ?_
  simp (maxSteps := 10000000) [go_sem, s5, s6, s7]
  refine hK2 _ ?_
  obtain ⟨e8, hU10, hR9⟩ := bind_some hM; clear hM
  refine AW_mid (ι := List TRow) (fun i => ⟨23, [(3, .one (.own 448 i.length))], [], [(448, some ⟨true, i.map TRow.c⟩)]⟩) (fun i => i = e8) ?_ ?_
  · intro K11 hK11
    have hM := hU10; clear hU10
    refine AW_seq fun K12 hK12 => ?_
    refine AW_region ?_
    simp (maxSteps := 10000000) [go_sem, s5, s6, s7]
    refine hK12 _ ?_
    refine AW_block ?_
    refine AW_go (ι := (List TRow) × Int) (fun i => ⟨23, [(0, .one (.l (.sl (a0.map TRow.c)))), (3, .one (.own 448 i.1.length)), (4, .one (.l (.int .i64 i.2)))], [], [(448, some ⟨true, i.1.map TRow.c⟩)]⟩) (fun n i => w_toRowS_u1 k a0 n i.1 i.2 = some e8) k ((List.replicate ((a0.length : Int).toNat) (TRow.mk [] [])), 0) hM (Lift.into (by constructor <;> simp [go_sem, s5, s6, s7])) (fun _ h => by simp [w_toRowS_u1] at h) ?_
    intro KL13 n ⟨x3, x4⟩ hL13 hM
    have hM : w_toRowS_u1 k a0 (n + 1) x3 x4 = some e8 := hM; rw [w_toRowS_u1] at hM
    refine AW_seq fun K14 hK14 => ?_
    refine AW_seq fun K15 hK15 => ?_
    refine AW_region ?_
    simp (maxSteps := 10000000) [go_sem]
    refine hK15 _ ?_
    refine AW_cond (b := (decide (x4 < (a0.length : Int)))) (by simp (maxSteps := 10000000) [go_sem]) (fun h16 => ?_) (fun h16 => ?_)
    · rw [if_pos h16] at hM
      have h16' := h16; try simp at h16'
      have h16'' : ¬ ((a0.length : Int) ≤ x4) := by first | (have := h16; simp only [decide_eq_true_eq, decide_eq_false_iff_not, Bool.not_eq_true', Bool.not_eq_false', Bool.not_eq_true, Bool.not_eq_false] at this; omega) | (have := h16; simp at this; omega)
      refine AW_skip ?_
      refine hK14 _ ?_
      refine AW_seq fun K17 hK17 => ?_
      refine AW_block ?_
      obtain ⟨x5, e18, hM⟩ := bind_some hM
      obtain ⟨p19, q20, l21, g22⟩ := at_spec e18
      obtain ⟨x6, e23, hM⟩ := bind_some hM
      obtain ⟨x7, e24, hM⟩ := bind_some hM
      obtain ⟨p25, q26, l27, g28⟩ := at_spec e24
      refine AW_region ?_
      simp (maxSteps := 10000000) [go_sem, h16, h16', h16'', p19, q20, g22, p25, q26, g28, l27]
      refine by_ctr false (w_toRow_ctr k x5 x6 e23) (by simp (maxSteps := 10000000) [go_sem, h16, h16', h16'', p19, q20, g22, p25, q26, g28, l27]) (by simp) ?_
      simp (maxSteps := 10000000) [go_sem, h16, h16', h16'', p19, q20, g22, p25, q26, g28, l27]
      refine hK17 _ ?_
      refine AW_region ?_
      simp (maxSteps := 10000000) [go_sem, h16, h16', h16'', p19, q20, g22, p25, q26, g28, l27]
      exact hL13 ((x3.set x4.toNat x6), (IntKind.i64.wrap (x4 + 1))) _ hM (Lift.into (by constructor <;> simp [go_sem, h16, h16', h16'', p19, q20, g22, p25, q26, g28, l27]))
    · rw [if_neg (ne_true h16)] at hM
      have h16' := h16; try simp at h16'
      have h16'' : ¬ (x4 < (a0.length : Int)) := by first | (have := h16; simp only [decide_eq_true_eq, decide_eq_false_iff_not, Bool.not_eq_true', Bool.not_eq_false', Bool.not_eq_true, Bool.not_eq_false] at this; omega) | (have := h16; simp at this; omega)
      refine AW_exit ?_
      obtain rfl := Option.some.inj hM
      exact hK11 x3 _ rfl (Lift.into (by constructor <;> simp [go_sem, h16, h16', h16'']))
  · rintro x2 rfl
    have hM := hR9
    try dsimp only at hM
    refine AW_seq fun K29 hK29 => ?_
    refine AW_region ?_
    simp (maxSteps := 10000000) [go_sem, s5, s6, s7]
    refine hK29 _ ?_
    obtain rfl := Option.some.inj hM
    refine AW_ret ?_
    simp (maxSteps := 10000000) [go_sem, s5, s6, s7]
set_option maxHeartbeats 4000000 in
set_option maxRecDepth 100000 in
theorem w_toValueS_all : ∀ (k : Nat), (∀ (a0 : List TValue) (r : List TValue) (hM : w_toValueS k a0 = some r), Ctr Tryz.prog 110 [.one (.sl (a0.map TValue.c))] true [.one (.sl (r.map TValue.c))]) ∧
    (∀ (a0 : TValue) (r : TValue) (hM : w_toValue k a0 = some r), Ctr Tryz.prog 89 [.agg (TValue.c a0)] true [.agg (TValue.c r)]) := by
  intro k
  induction k with
  | zero => exact ⟨by intro a0 r hM; simp [w_toValueS] at hM, by intro a0 r hM; simp [w_toValue] at hM⟩
  | succ k ih =>
    obtain ⟨ih_w_toValueS, ih_w_toValue⟩ := ih
    refine ⟨?_, ?_⟩
    · intro a0 r hM
      rw [w_toValueS] at hM
      refine Ctr.of_walk (by kernel_rfl) Tryz.func110 rfl Tryz.ntmps110 Tryz.results110 (by simp) ?_; intro N w0 hbad
      refine AW_seq fun K1 hK1 => ?_
      refine AW_region ?_
      simp (maxSteps := 10000000) [go_sem]
      refine hK1 _ ?_
      refine AW_seq fun K2 hK2 => ?_
      obtain ⟨x1, e3, hM⟩ := bind_some hM
      obtain ⟨c4, s5, s6, s7⟩ := mk_spec e3
      replace c4 := c4.symm; subst c4
      try simp at s5
      try simp at s6
      try simp at s7
      refine AW_region ?_
      simp (maxSteps := 10000000) [go_sem, s5, s6, s7]
      refine hK2 _ ?_
      obtain ⟨e8, hU10, hR9⟩ := bind_some hM; clear hM
      refine AW_mid (ι := List TValue) (fun i => ⟨23, [(3, .one (.own 448 i.length))], [], [(448, some ⟨true, i.map TValue.c⟩)]⟩) (fun i => i = e8) ?_ ?_
      · intro K11 hK11
        have hM := hU10; clear hU10
        refine AW_seq fun K12 hK12 => ?_
        refine AW_region ?_
        simp (maxSteps := 10000000) [go_sem, s5, s6, s7]
        refine hK12 _ ?_
        refine AW_block ?_
        refine AW_go (ι := (List TValue) × Int) (fun i => ⟨23, [(0, .one (.l (.sl (a0.map TValue.c)))), (3, .one (.own 448 i.1.length)), (4, .one (.l (.int .i64 i.2)))], [], [(448, some ⟨true, i.1.map TValue.c⟩)]⟩) (fun n i => w_toValueS_u1 (w_toValue k) a0 n i.1 i.2 = some e8) k ((List.replicate ((a0.length : Int).toNat) (TValue.mk 0 0 0 (⟨#[]⟩ : ByteArray) [] [] [])), 0) hM (Lift.into (by constructor <;> simp [go_sem, s5, s6, s7])) (fun _ h => by simp [w_toValueS_u1] at h) ?_
        intro KL13 n ⟨x3, x4⟩ hL13 hM
        have hM : w_toValueS_u1 (w_toValue k) a0 (n + 1) x3 x4 = some e8 := hM; rw [w_toValueS_u1] at hM
        refine AW_seq fun K14 hK14 => ?_
        refine AW_seq fun K15 hK15 => ?_
        refine AW_region ?_
        simp (maxSteps := 10000000) [go_sem]
        refine hK15 _ ?_
        refine AW_cond (b := (decide (x4 < (a0.length : Int)))) (by simp (maxSteps := 10000000) [go_sem]) (fun h16 => ?_) (fun h16 => ?_)
        · rw [if_pos h16] at hM
          have h16' := h16; try simp at h16'
          have h16'' : ¬ ((a0.length : Int) ≤ x4) := by first | (have := h16; simp only [decide_eq_true_eq, decide_eq_false_iff_not, Bool.not_eq_true', Bool.not_eq_false', Bool.not_eq_true, Bool.not_eq_false] at this; omega) | (have := h16; simp at this; omega)
          refine AW_skip ?_
          refine hK14 _ ?_
          refine AW_seq fun K17 hK17 => ?_
          refine AW_block ?_
          obtain ⟨x5, e18, hM⟩ := bind_some hM
          obtain ⟨p19, q20, l21, g22⟩ := at_spec e18
          obtain ⟨x6, e23, hM⟩ := bind_some hM
          obtain ⟨x7, e24, hM⟩ := bind_some hM
          obtain ⟨p25, q26, l27, g28⟩ := at_spec e24
          refine AW_region ?_
          simp (maxSteps := 10000000) [go_sem, h16, h16', h16'', p19, q20, g22, p25, q26, g28, l27]
          refine by_ctr false (ih_w_toValue x5 x6 e23) (by simp (maxSteps := 10000000) [go_sem, h16, h16', h16'', p19, q20, g22, p25, q26, g28, l27]) (by simp) ?_
          simp (maxSteps := 10000000) [go_sem, h16, h16', h16'', p19, q20, g22, p25, q26, g28, l27]
          refine hK17 _ ?_
          refine AW_region ?_
          simp (maxSteps := 10000000) [go_sem, h16, h16', h16'', p19, q20, g22, p25, q26, g28, l27]
          exact hL13 ((x3.set x4.toNat x6), (IntKind.i64.wrap (x4 + 1))) _ hM (Lift.into (by constructor <;> simp [go_sem, h16, h16', h16'', p19, q20, g22, p25, q26, g28, l27]))
        · rw [if_neg (ne_true h16)] at hM
          have h16' := h16; try simp at h16'
          have h16'' : ¬ (x4 < (a0.length : Int)) := by first | (have := h16; simp only [decide_eq_true_eq, decide_eq_false_iff_not, Bool.not_eq_true', Bool.not_eq_false', Bool.not_eq_true, Bool.not_eq_false] at this; omega) | (have := h16; simp at this; omega)
          refine AW_exit ?_
          obtain rfl := Option.some.inj hM
          exact hK11 x3 _ rfl (Lift.into (by constructor <;> simp [go_sem, h16, h16', h16'']))
      · rintro x2 rfl
        have hM := hR9
        try dsimp only at hM
        refine AW_seq fun K29 hK29 => ?_
        refine AW_region ?_
        simp (maxSteps := 10000000) [go_sem, s5, s6, s7]
        refine hK29 _ ?_
        obtain rfl := Option.some.inj hM
        refine AW_ret ?_
        simp (maxSteps := 10000000) [go_sem, s5, s6, s7]
    · intro a0 r hM
      rw [w_toValue] at hM
      refine Ctr.of_walk (by kernel_rfl) Tryz.func89 rfl Tryz.ntmps89 Tryz.results89 (by simp) ?_; intro N w0 hbad
      refine AW_seq fun K1 hK1 => ?_
      refine AW_region ?_
      simp (maxSteps := 10000000) [go_sem]
      refine hK1 _ ?_
      refine AW_seq fun K2 hK2 => ?_
      refine AW_region ?_
      simp (maxSteps := 10000000) [go_sem]
      refine hK2 _ ?_
      refine AW_seq fun K3 hK3 => ?_
      refine AW_region ?_
      simp (maxSteps := 10000000) [go_sem]
      refine hK3 _ ?_
      refine AW_seq fun K4 hK4 => ?_
      refine AW_region ?_
      simp (maxSteps := 10000000) [go_sem]
      refine hK4 _ ?_
      refine AW_seq fun K5 hK5 => ?_
      refine AW_region ?_
      simp (maxSteps := 10000000) [go_sem]
      refine hK5 _ ?_
      refine AW_seq fun K6 hK6 => ?_
      refine AW_region ?_
      simp (maxSteps := 10000000) [go_sem]
      refine hK6 _ ?_
      refine AW_seq fun K7 hK7 => ?_
      obtain ⟨x1, e8, hM⟩ := bind_some hM
      refine AW_region ?_
      simp (maxSteps := 10000000) [go_sem]
      refine by_ctr false (ih_w_toValueS a0.list x1 e8) (by simp (maxSteps := 10000000) [go_sem]) (by simp) ?_
      simp (maxSteps := 10000000) [go_sem]
      refine hK7 _ ?_
      refine AW_seq fun K9 hK9 => ?_
      obtain ⟨x2, e10, hM⟩ := bind_some hM
      refine AW_region ?_
      simp (maxSteps := 10000000) [go_sem]
      refine by_ctr false (w_toStringS_ctr k a0.columns x2 e10) (by simp (maxSteps := 10000000) [go_sem]) (by simp) ?_
      simp (maxSteps := 10000000) [go_sem]
      refine hK9 _ ?_
      refine AW_seq fun K11 hK11 => ?_
      obtain ⟨x3, e12, hM⟩ := bind_some hM
      refine AW_region ?_
      simp (maxSteps := 10000000) [go_sem]
      refine by_ctr false (w_toRowS_ctr k a0.rows x3 e12) (by simp (maxSteps := 10000000) [go_sem]) (by simp) ?_
      simp (maxSteps := 10000000) [go_sem]
      refine hK11 _ ?_
      refine AW_seq fun K13 hK13 => ?_
      refine AW_region ?_
      simp (maxSteps := 10000000) [go_sem]
      refine hK13 _ ?_
      obtain rfl := Option.some.inj hM
      refine AW_ret ?_
      simp (maxSteps := 10000000) [go_sem]
theorem w_toValueS_ctr (k : Nat) : ∀ (a0 : List TValue) (r : List TValue) (hM : w_toValueS k a0 = some r), Ctr Tryz.prog 110 [.one (.sl (a0.map TValue.c))] true [.one (.sl (r.map TValue.c))] := (w_toValueS_all k).1
theorem w_toValue_ctr (k : Nat) : ∀ (a0 : TValue) (r : TValue) (hM : w_toValue k a0 = some r), Ctr Tryz.prog 89 [.agg (TValue.c a0)] true [.agg (TValue.c r)] := (w_toValueS_all k).2

set_option maxHeartbeats 4000000 in
set_option maxRecDepth 100000 in
theorem w_toRead_ctr (k : Nat) (a0 : TRead) (r : TRead) (hM : w_toRead k a0 = some r) : Ctr Tryz.prog 109 [.agg (TRead.c a0)] true [.agg (TRead.c r)] := by
  unfold w_toRead at hM
  refine Ctr.of_walk (by kernel_rfl) Tryz.func109 rfl Tryz.ntmps109 Tryz.results109 (by simp) ?_; intro N w0 hbad
  refine AW_seq fun K1 hK1 => ?_
  refine AW_region ?_
  simp (maxSteps := 10000000) [go_sem]
  refine hK1 _ ?_
  refine AW_seq fun K2 hK2 => ?_
  refine AW_region ?_
  simp (maxSteps := 10000000) [go_sem]
  refine hK2 _ ?_
  refine AW_seq fun K3 hK3 => ?_
  refine AW_region ?_
  simp (maxSteps := 10000000) [go_sem]
  refine hK3 _ ?_
  refine AW_seq fun K4 hK4 => ?_
  refine AW_region ?_
  simp (maxSteps := 10000000) [go_sem]
  refine hK4 _ ?_
  refine AW_seq fun K5 hK5 => ?_
  refine AW_region ?_
  simp (maxSteps := 10000000) [go_sem]
  refine hK5 _ ?_
  refine AW_seq fun K6 hK6 => ?_
  refine AW_region ?_
  simp (maxSteps := 10000000) [go_sem]
  refine hK6 _ ?_
  refine AW_seq fun K7 hK7 => ?_
  obtain ⟨x1, e8, hM⟩ := bind_some hM
  refine AW_region ?_
  simp (maxSteps := 10000000) [go_sem]
  refine by_ctr false (w_toValue_ctr k a0.result x1 e8) (by simp (maxSteps := 10000000) [go_sem]) (by simp) ?_
  simp (maxSteps := 10000000) [go_sem]
  refine hK7 _ ?_
  refine AW_seq fun K9 hK9 => ?_
  refine AW_region ?_
  simp (maxSteps := 10000000) [go_sem]
  refine hK9 _ ?_
  obtain rfl := Option.some.inj hM
  refine AW_ret ?_
  simp (maxSteps := 10000000) [go_sem]
set_option maxHeartbeats 4000000 in
set_option maxRecDepth 100000 in
theorem w_toReadS_ctr (k : Nat) (a0 : List TRead) (r : List TRead) (hM : w_toReadS k a0 = some r) : Ctr Tryz.prog 87 [.one (.sl (a0.map TRead.c))] true [.one (.sl (r.map TRead.c))] := by
  unfold w_toReadS at hM
  refine Ctr.of_walk (by kernel_rfl) Tryz.func87 rfl Tryz.ntmps87 Tryz.results87 (by simp) ?_; intro N w0 hbad
  refine AW_seq fun K1 hK1 => ?_
  refine AW_region ?_
  simp (maxSteps := 10000000) [go_sem]
  refine hK1 _ ?_
  refine AW_seq fun K2 hK2 => ?_
  obtain ⟨x1, e3, hM⟩ := bind_some hM
  obtain ⟨c4, s5, s6, s7⟩ := mk_spec e3
  replace c4 := c4.symm; subst c4
  try simp at s5
  try simp at s6
  try simp at s7
  refine AW_region ?_
  simp (maxSteps := 10000000) [go_sem, s5, s6, s7]
  refine hK2 _ ?_
  obtain ⟨e8, hU10, hR9⟩ := bind_some hM; clear hM
  refine AW_mid (ι := List TRead) (fun i => ⟨23, [(3, .one (.own 448 i.length))], [], [(448, some ⟨true, i.map TRead.c⟩)]⟩) (fun i => i = e8) ?_ ?_
  · intro K11 hK11
    have hM := hU10; clear hU10
    refine AW_seq fun K12 hK12 => ?_
    refine AW_region ?_
    simp (maxSteps := 10000000) [go_sem, s5, s6, s7]
    refine hK12 _ ?_
    refine AW_block ?_
    refine AW_go (ι := (List TRead) × Int) (fun i => ⟨23, [(0, .one (.l (.sl (a0.map TRead.c)))), (3, .one (.own 448 i.1.length)), (4, .one (.l (.int .i64 i.2)))], [], [(448, some ⟨true, i.1.map TRead.c⟩)]⟩) (fun n i => w_toReadS_u1 k a0 n i.1 i.2 = some e8) k ((List.replicate ((a0.length : Int).toNat) (TRead.mk 0 0 0 (⟨#[]⟩ : ByteArray) (TValue.mk 0 0 0 (⟨#[]⟩ : ByteArray) [] [] []))), 0) hM (Lift.into (by constructor <;> simp [go_sem, s5, s6, s7])) (fun _ h => by simp [w_toReadS_u1] at h) ?_
    intro KL13 n ⟨x3, x4⟩ hL13 hM
    have hM : w_toReadS_u1 k a0 (n + 1) x3 x4 = some e8 := hM; rw [w_toReadS_u1] at hM
    refine AW_seq fun K14 hK14 => ?_
    refine AW_seq fun K15 hK15 => ?_
    refine AW_region ?_
    simp (maxSteps := 10000000) [go_sem]
    refine hK15 _ ?_
    refine AW_cond (b := (decide (x4 < (a0.length : Int)))) (by simp (maxSteps := 10000000) [go_sem]) (fun h16 => ?_) (fun h16 => ?_)
    · rw [if_pos h16] at hM
      have h16' := h16; try simp at h16'
      have h16'' : ¬ ((a0.length : Int) ≤ x4) := by first | (have := h16; simp only [decide_eq_true_eq, decide_eq_false_iff_not, Bool.not_eq_true', Bool.not_eq_false', Bool.not_eq_true, Bool.not_eq_false] at this; omega) | (have := h16; simp at this; omega)
      refine AW_skip ?_
      refine hK14 _ ?_
      refine AW_seq fun K17 hK17 => ?_
      refine AW_block ?_
      obtain ⟨x5, e18, hM⟩ := bind_some hM
      obtain ⟨p19, q20, l21, g22⟩ := at_spec e18
      obtain ⟨x6, e23, hM⟩ := bind_some hM
      obtain ⟨x7, e24, hM⟩ := bind_some hM
      obtain ⟨p25, q26, l27, g28⟩ := at_spec e24
      refine AW_region ?_
      simp (maxSteps := 10000000) [go_sem, h16, h16', h16'', p19, q20, g22, p25, q26, g28, l27]
      refine by_ctr false (w_toRead_ctr k x5 x6 e23) (by simp (maxSteps := 10000000) [go_sem, h16, h16', h16'', p19, q20, g22, p25, q26, g28, l27]) (by simp) ?_
      simp (maxSteps := 10000000) [go_sem, h16, h16', h16'', p19, q20, g22, p25, q26, g28, l27]
      refine hK17 _ ?_
      refine AW_region ?_
      simp (maxSteps := 10000000) [go_sem, h16, h16', h16'', p19, q20, g22, p25, q26, g28, l27]
      exact hL13 ((x3.set x4.toNat x6), (IntKind.i64.wrap (x4 + 1))) _ hM (Lift.into (by constructor <;> simp [go_sem, h16, h16', h16'', p19, q20, g22, p25, q26, g28, l27]))
    · rw [if_neg (ne_true h16)] at hM
      have h16' := h16; try simp at h16'
      have h16'' : ¬ (x4 < (a0.length : Int)) := by first | (have := h16; simp only [decide_eq_true_eq, decide_eq_false_iff_not, Bool.not_eq_true', Bool.not_eq_false', Bool.not_eq_true, Bool.not_eq_false] at this; omega) | (have := h16; simp at this; omega)
      refine AW_exit ?_
      obtain rfl := Option.some.inj hM
      exact hK11 x3 _ rfl (Lift.into (by constructor <;> simp [go_sem, h16, h16', h16'']))
  · rintro x2 rfl
    have hM := hR9
    try dsimp only at hM
    refine AW_seq fun K29 hK29 => ?_
    refine AW_region ?_
    simp (maxSteps := 10000000) [go_sem, s5, s6, s7]
    refine hK29 _ ?_
    obtain rfl := Option.some.inj hM
    refine AW_ret ?_
    simp (maxSteps := 10000000) [go_sem, s5, s6, s7]
set_option maxHeartbeats 4000000 in
set_option maxRecDepth 100000 in
theorem w_toTape_ctr (k : Nat) (a0 : TTape) (r : TTape) (hM : w_toTape k a0 = some r) : Ctr Tryz.prog 51 [.agg (TTape.c a0)] true [.agg (TTape.c r)] := by
  unfold w_toTape at hM
  refine Ctr.of_walk (by kernel_rfl) Tryz.func51 rfl Tryz.ntmps51 Tryz.results51 (by simp) ?_; intro N w0 hbad
  refine AW_seq fun K1 hK1 => ?_
  refine AW_region ?_
  simp (maxSteps := 10000000) [go_sem]
  refine hK1 _ ?_
  refine AW_seq fun K2 hK2 => ?_
  refine AW_region ?_
  simp (maxSteps := 10000000) [go_sem]
  refine hK2 _ ?_
  refine AW_seq fun K3 hK3 => ?_
  refine AW_region ?_
  simp (maxSteps := 10000000) [go_sem]
  refine hK3 _ ?_
  refine AW_seq fun K4 hK4 => ?_
  refine AW_region ?_
  simp (maxSteps := 10000000) [go_sem]
  refine hK4 _ ?_
  refine AW_seq fun K5 hK5 => ?_
  obtain ⟨x1, e6, hM⟩ := bind_some hM
  refine AW_region ?_
  simp (maxSteps := 10000000) [go_sem]
  refine by_ctr false (w_toReadS_ctr k a0.reads x1 e6) (by simp (maxSteps := 10000000) [go_sem]) (by simp) ?_
  simp (maxSteps := 10000000) [go_sem]
  refine hK5 _ ?_
  refine AW_seq fun K7 hK7 => ?_
  refine AW_region ?_
  simp (maxSteps := 10000000) [go_sem]
  refine hK7 _ ?_
  obtain rfl := Option.some.inj hM
  refine AW_ret ?_
  simp (maxSteps := 10000000) [go_sem]
set_option maxHeartbeats 4000000 in
set_option maxRecDepth 100000 in
theorem w_toTapeS_ctr (k : Nat) (a0 : List TTape) (r : List TTape) (hM : w_toTapeS k a0 = some r) : Ctr Tryz.prog 23 [.one (.sl (a0.map TTape.c))] true [.one (.sl (r.map TTape.c))] := by
  unfold w_toTapeS at hM
  refine Ctr.of_walk (by kernel_rfl) Tryz.func23 rfl Tryz.ntmps23 Tryz.results23 (by simp) ?_; intro N w0 hbad
  refine AW_seq fun K1 hK1 => ?_
  refine AW_region ?_
  simp (maxSteps := 10000000) [go_sem]
  refine hK1 _ ?_
  refine AW_seq fun K2 hK2 => ?_
  obtain ⟨x1, e3, hM⟩ := bind_some hM
  obtain ⟨c4, s5, s6, s7⟩ := mk_spec e3
  replace c4 := c4.symm; subst c4
  try simp at s5
  try simp at s6
  try simp at s7
  refine AW_region ?_
  simp (maxSteps := 10000000) [go_sem, s5, s6, s7]
  refine hK2 _ ?_
  obtain ⟨e8, hU10, hR9⟩ := bind_some hM; clear hM
  refine AW_mid (ι := List TTape) (fun i => ⟨23, [(3, .one (.own 448 i.length))], [], [(448, some ⟨true, i.map TTape.c⟩)]⟩) (fun i => i = e8) ?_ ?_
  · intro K11 hK11
    have hM := hU10; clear hU10
    refine AW_seq fun K12 hK12 => ?_
    refine AW_region ?_
    simp (maxSteps := 10000000) [go_sem, s5, s6, s7]
    refine hK12 _ ?_
    refine AW_block ?_
    refine AW_go (ι := (List TTape) × Int) (fun i => ⟨23, [(0, .one (.l (.sl (a0.map TTape.c)))), (3, .one (.own 448 i.1.length)), (4, .one (.l (.int .i64 i.2)))], [], [(448, some ⟨true, i.1.map TTape.c⟩)]⟩) (fun n i => w_toTapeS_u1 k a0 n i.1 i.2 = some e8) k ((List.replicate ((a0.length : Int).toNat) (TTape.mk 0 0 [])), 0) hM (Lift.into (by constructor <;> simp [go_sem, s5, s6, s7])) (fun _ h => by simp [w_toTapeS_u1] at h) ?_
    intro KL13 n ⟨x3, x4⟩ hL13 hM
    have hM : w_toTapeS_u1 k a0 (n + 1) x3 x4 = some e8 := hM; rw [w_toTapeS_u1] at hM
    refine AW_seq fun K14 hK14 => ?_
    refine AW_seq fun K15 hK15 => ?_
    refine AW_region ?_
    simp (maxSteps := 10000000) [go_sem]
    refine hK15 _ ?_
    refine AW_cond (b := (decide (x4 < (a0.length : Int)))) (by simp (maxSteps := 10000000) [go_sem]) (fun h16 => ?_) (fun h16 => ?_)
    · rw [if_pos h16] at hM
      have h16' := h16; try simp at h16'
      have h16'' : ¬ ((a0.length : Int) ≤ x4) := by first | (have := h16; simp only [decide_eq_true_eq, decide_eq_false_iff_not, Bool.not_eq_true', Bool.not_eq_false', Bool.not_eq_true, Bool.not_eq_false] at this; omega) | (have := h16; simp at this; omega)
      refine AW_skip ?_
      refine hK14 _ ?_
      refine AW_seq fun K17 hK17 => ?_
      refine AW_block ?_
      obtain ⟨x5, e18, hM⟩ := bind_some hM
      obtain ⟨p19, q20, l21, g22⟩ := at_spec e18
      obtain ⟨x6, e23, hM⟩ := bind_some hM
      obtain ⟨x7, e24, hM⟩ := bind_some hM
      obtain ⟨p25, q26, l27, g28⟩ := at_spec e24
      refine AW_region ?_
      simp (maxSteps := 10000000) [go_sem, h16, h16', h16'', p19, q20, g22, p25, q26, g28, l27]
      refine by_ctr false (w_toTape_ctr k x5 x6 e23) (by simp (maxSteps := 10000000) [go_sem, h16, h16', h16'', p19, q20, g22, p25, q26, g28, l27]) (by simp) ?_
      simp (maxSteps := 10000000) [go_sem, h16, h16', h16'', p19, q20, g22, p25, q26, g28, l27]
      refine hK17 _ ?_
      refine AW_region ?_
      simp (maxSteps := 10000000) [go_sem, h16, h16', h16'', p19, q20, g22, p25, q26, g28, l27]
      exact hL13 ((x3.set x4.toNat x6), (IntKind.i64.wrap (x4 + 1))) _ hM (Lift.into (by constructor <;> simp [go_sem, h16, h16', h16'', p19, q20, g22, p25, q26, g28, l27]))
    · rw [if_neg (ne_true h16)] at hM
      have h16' := h16; try simp at h16'
      have h16'' : ¬ (x4 < (a0.length : Int)) := by first | (have := h16; simp only [decide_eq_true_eq, decide_eq_false_iff_not, Bool.not_eq_true', Bool.not_eq_false', Bool.not_eq_true, Bool.not_eq_false] at this; omega) | (have := h16; simp at this; omega)
      refine AW_exit ?_
      obtain rfl := Option.some.inj hM
      exact hK11 x3 _ rfl (Lift.into (by constructor <;> simp [go_sem, h16, h16', h16'']))
  · rintro x2 rfl
    have hM := hR9
    try dsimp only at hM
    refine AW_seq fun K29 hK29 => ?_
    refine AW_region ?_
    simp (maxSteps := 10000000) [go_sem, s5, s6, s7]
    refine hK29 _ ?_
    obtain rfl := Option.some.inj hM
    refine AW_ret ?_
    simp (maxSteps := 10000000) [go_sem, s5, s6, s7]
set_option maxHeartbeats 4000000 in
set_option maxRecDepth 100000 in
theorem w_toEntry_ctr (k : Nat) (a0 : TEntry) (r : TEntry) (hM : w_toEntry k a0 = some r) : Ctr Tryz.prog 52 [.agg (TEntry.c a0)] true [.agg (TEntry.c r)] := by
  unfold w_toEntry at hM
  refine Ctr.of_walk (by kernel_rfl) Tryz.func52 rfl Tryz.ntmps52 Tryz.results52 (by simp) ?_; intro N w0 hbad
  refine AW_seq fun K1 hK1 => ?_
  refine AW_region ?_
  simp (maxSteps := 10000000) [go_sem]
  refine hK1 _ ?_
  refine AW_seq fun K2 hK2 => ?_
  refine AW_region ?_
  simp (maxSteps := 10000000) [go_sem]
  refine hK2 _ ?_
  refine AW_seq fun K3 hK3 => ?_
  refine AW_region ?_
  simp (maxSteps := 10000000) [go_sem]
  refine hK3 _ ?_
  refine AW_seq fun K4 hK4 => ?_
  refine AW_region ?_
  simp (maxSteps := 10000000) [go_sem]
  refine hK4 _ ?_
  refine AW_seq fun K5 hK5 => ?_
  refine AW_region ?_
  simp (maxSteps := 10000000) [go_sem]
  refine hK5 _ ?_
  refine AW_seq fun K6 hK6 => ?_
  obtain ⟨x1, e7, hM⟩ := bind_some hM
  refine AW_region ?_
  simp (maxSteps := 10000000) [go_sem]
  refine by_ctr false (w_toIntS_ctr k a0.inputs x1 e7) (by simp (maxSteps := 10000000) [go_sem]) (by simp) ?_
  simp (maxSteps := 10000000) [go_sem]
  refine hK6 _ ?_
  refine AW_seq fun K8 hK8 => ?_
  obtain ⟨x2, e9, hM⟩ := bind_some hM
  refine AW_region ?_
  simp (maxSteps := 10000000) [go_sem]
  refine by_ctr false (w_toValue_ctr k a0.value x2 e9) (by simp (maxSteps := 10000000) [go_sem]) (by simp) ?_
  simp (maxSteps := 10000000) [go_sem]
  refine hK8 _ ?_
  refine AW_seq fun K10 hK10 => ?_
  refine AW_region ?_
  simp (maxSteps := 10000000) [go_sem]
  refine hK10 _ ?_
  refine AW_seq fun K11 hK11 => ?_
  refine AW_region ?_
  simp (maxSteps := 10000000) [go_sem]
  refine hK11 _ ?_
  obtain rfl := Option.some.inj hM
  refine AW_ret ?_
  simp (maxSteps := 10000000) [go_sem]
set_option maxHeartbeats 4000000 in
set_option maxRecDepth 100000 in
theorem w_toEntryS_ctr (k : Nat) (a0 : List TEntry) (r : List TEntry) (hM : w_toEntryS k a0 = some r) : Ctr Tryz.prog 24 [.one (.sl (a0.map TEntry.c))] true [.one (.sl (r.map TEntry.c))] := by
  unfold w_toEntryS at hM
  refine Ctr.of_walk (by kernel_rfl) Tryz.func24 rfl Tryz.ntmps24 Tryz.results24 (by simp) ?_; intro N w0 hbad
  refine AW_seq fun K1 hK1 => ?_
  refine AW_region ?_
  simp (maxSteps := 10000000) [go_sem]
  refine hK1 _ ?_
  refine AW_seq fun K2 hK2 => ?_
  obtain ⟨x1, e3, hM⟩ := bind_some hM
  obtain ⟨c4, s5, s6, s7⟩ := mk_spec e3
  replace c4 := c4.symm; subst c4
  try simp at s5
  try simp at s6
  try simp at s7
  refine AW_region ?_
  simp (maxSteps := 10000000) [go_sem, s5, s6, s7]
  refine hK2 _ ?_
  obtain ⟨e8, hU10, hR9⟩ := bind_some hM; clear hM
  refine AW_mid (ι := List TEntry) (fun i => ⟨23, [(3, .one (.own 448 i.length))], [], [(448, some ⟨true, i.map TEntry.c⟩)]⟩) (fun i => i = e8) ?_ ?_
  · intro K11 hK11
    have hM := hU10; clear hU10
    refine AW_seq fun K12 hK12 => ?_
    refine AW_region ?_
    simp (maxSteps := 10000000) [go_sem, s5, s6, s7]
    refine hK12 _ ?_
    refine AW_block ?_
    refine AW_go (ι := (List TEntry) × Int) (fun i => ⟨23, [(0, .one (.l (.sl (a0.map TEntry.c)))), (3, .one (.own 448 i.1.length)), (4, .one (.l (.int .i64 i.2)))], [], [(448, some ⟨true, i.1.map TEntry.c⟩)]⟩) (fun n i => w_toEntryS_u1 k a0 n i.1 i.2 = some e8) k ((List.replicate ((a0.length : Int).toNat) (TEntry.mk 0 0 0 [] (TValue.mk 0 0 0 (⟨#[]⟩ : ByteArray) [] [] []) false)), 0) hM (Lift.into (by constructor <;> simp [go_sem, s5, s6, s7])) (fun _ h => by simp [w_toEntryS_u1] at h) ?_
    intro KL13 n ⟨x3, x4⟩ hL13 hM
    have hM : w_toEntryS_u1 k a0 (n + 1) x3 x4 = some e8 := hM; rw [w_toEntryS_u1] at hM
    refine AW_seq fun K14 hK14 => ?_
    refine AW_seq fun K15 hK15 => ?_
    refine AW_region ?_
    simp (maxSteps := 10000000) [go_sem]
    refine hK15 _ ?_
    refine AW_cond (b := (decide (x4 < (a0.length : Int)))) (by simp (maxSteps := 10000000) [go_sem]) (fun h16 => ?_) (fun h16 => ?_)
    · rw [if_pos h16] at hM
      have h16' := h16; try simp at h16'
      have h16'' : ¬ ((a0.length : Int) ≤ x4) := by first | (have := h16; simp only [decide_eq_true_eq, decide_eq_false_iff_not, Bool.not_eq_true', Bool.not_eq_false', Bool.not_eq_true, Bool.not_eq_false] at this; omega) | (have := h16; simp at this; omega)
      refine AW_skip ?_
      refine hK14 _ ?_
      refine AW_seq fun K17 hK17 => ?_
      refine AW_block ?_
      obtain ⟨x5, e18, hM⟩ := bind_some hM
      obtain ⟨p19, q20, l21, g22⟩ := at_spec e18
      obtain ⟨x6, e23, hM⟩ := bind_some hM
      obtain ⟨x7, e24, hM⟩ := bind_some hM
      obtain ⟨p25, q26, l27, g28⟩ := at_spec e24
      refine AW_region ?_
      simp (maxSteps := 10000000) [go_sem, h16, h16', h16'', p19, q20, g22, p25, q26, g28, l27]
      refine by_ctr false (w_toEntry_ctr k x5 x6 e23) (by simp (maxSteps := 10000000) [go_sem, h16, h16', h16'', p19, q20, g22, p25, q26, g28, l27]) (by simp) ?_
      simp (maxSteps := 10000000) [go_sem, h16, h16', h16'', p19, q20, g22, p25, q26, g28, l27]
      refine hK17 _ ?_
      refine AW_region ?_
      simp (maxSteps := 10000000) [go_sem, h16, h16', h16'', p19, q20, g22, p25, q26, g28, l27]
      exact hL13 ((x3.set x4.toNat x6), (IntKind.i64.wrap (x4 + 1))) _ hM (Lift.into (by constructor <;> simp [go_sem, h16, h16', h16'', p19, q20, g22, p25, q26, g28, l27]))
    · rw [if_neg (ne_true h16)] at hM
      have h16' := h16; try simp at h16'
      have h16'' : ¬ (x4 < (a0.length : Int)) := by first | (have := h16; simp only [decide_eq_true_eq, decide_eq_false_iff_not, Bool.not_eq_true', Bool.not_eq_false', Bool.not_eq_true, Bool.not_eq_false] at this; omega) | (have := h16; simp at this; omega)
      refine AW_exit ?_
      obtain rfl := Option.some.inj hM
      exact hK11 x3 _ rfl (Lift.into (by constructor <;> simp [go_sem, h16, h16', h16'']))
  · rintro x2 rfl
    have hM := hR9
    try dsimp only at hM
    refine AW_seq fun K29 hK29 => ?_
    refine AW_region ?_
    simp (maxSteps := 10000000) [go_sem, s5, s6, s7]
    refine hK29 _ ?_
    obtain rfl := Option.some.inj hM
    refine AW_ret ?_
    simp (maxSteps := 10000000) [go_sem, s5, s6, s7]
set_option maxHeartbeats 4000000 in
set_option maxRecDepth 100000 in
theorem w_toEngine_ctr (k : Nat) (a0 : TEngine) (r : TEngine) (hM : w_toEngine k a0 = some r) : Ctr Tryz.prog 7 [.agg (TEngine.c a0)] true [.agg (TEngine.c r)] := by
  unfold w_toEngine at hM
  refine Ctr.of_walk (by kernel_rfl) Tryz.func7 rfl Tryz.ntmps7 Tryz.results7 (by simp) ?_; intro N w0 hbad
  refine AW_seq fun K1 hK1 => ?_
  refine AW_region ?_
  simp (maxSteps := 10000000) [go_sem]
  refine hK1 _ ?_
  refine AW_seq fun K2 hK2 => ?_
  refine AW_region ?_
  simp (maxSteps := 10000000) [go_sem]
  refine hK2 _ ?_
  refine AW_seq fun K3 hK3 => ?_
  obtain ⟨x1, e4, hM⟩ := bind_some hM
  refine AW_region ?_
  simp (maxSteps := 10000000) [go_sem]
  refine by_ctr false (w_toNotebook_ctr k a0.notebook x1 e4) (by simp (maxSteps := 10000000) [go_sem]) (by simp) ?_
  simp (maxSteps := 10000000) [go_sem]
  refine hK3 _ ?_
  refine AW_seq fun K5 hK5 => ?_
  obtain ⟨x2, e6, hM⟩ := bind_some hM
  refine AW_region ?_
  simp (maxSteps := 10000000) [go_sem]
  refine by_ctr false (w_toWorld_ctr k a0.world x2 e6) (by simp (maxSteps := 10000000) [go_sem]) (by simp) ?_
  simp (maxSteps := 10000000) [go_sem]
  refine hK5 _ ?_
  refine AW_seq fun K7 hK7 => ?_
  obtain ⟨x3, e8, hM⟩ := bind_some hM
  refine AW_region ?_
  simp (maxSteps := 10000000) [go_sem]
  refine by_ctr false (w_toTapeS_ctr k a0.tapes x3 e8) (by simp (maxSteps := 10000000) [go_sem]) (by simp) ?_
  simp (maxSteps := 10000000) [go_sem]
  refine hK7 _ ?_
  refine AW_seq fun K9 hK9 => ?_
  obtain ⟨x4, e10, hM⟩ := bind_some hM
  refine AW_region ?_
  simp (maxSteps := 10000000) [go_sem]
  refine by_ctr false (w_toEntryS_ctr k a0.entries x4 e10) (by simp (maxSteps := 10000000) [go_sem]) (by simp) ?_
  simp (maxSteps := 10000000) [go_sem]
  refine hK9 _ ?_
  refine AW_seq fun K11 hK11 => ?_
  refine AW_region ?_
  simp (maxSteps := 10000000) [go_sem]
  refine hK11 _ ?_
  refine AW_seq fun K12 hK12 => ?_
  refine AW_region ?_
  simp (maxSteps := 10000000) [go_sem]
  refine hK12 _ ?_
  refine AW_seq fun K13 hK13 => ?_
  refine AW_region ?_
  simp (maxSteps := 10000000) [go_sem]
  refine hK13 _ ?_
  refine AW_seq fun K14 hK14 => ?_
  refine AW_region ?_
  simp (maxSteps := 10000000) [go_sem]
  refine hK14 _ ?_
  obtain rfl := Option.some.inj hM
  refine AW_ret ?_
  simp (maxSteps := 10000000) [go_sem]
set_option maxHeartbeats 4000000 in
set_option maxRecDepth 100000 in
theorem w_eqCell_ctr (a0 : TCell) (a1 : TCell) (r : Bool) (hM : w_eqCell a0 a1 = some r) : Ctr Tryz.prog 95 [.agg (TCell.c a0), .agg (TCell.c a1)] true [.one (.bool r)] := by
  unfold w_eqCell at hM
  refine Ctr.of_walk (by kernel_rfl) Tryz.func95 rfl Tryz.ntmps95 Tryz.results95 (by simp) ?_; intro N w0 hbad
  refine AW_seq fun K1 hK1 => ?_
  refine AW_region ?_
  simp (maxSteps := 10000000) [go_sem]
  refine hK1 _ ?_
  refine AW_seq fun K2 hK2 => ?_
  refine AW_seq fun K3 hK3 => ?_
  refine AW_region ?_
  simp (maxSteps := 10000000) [go_sem]
  refine hK3 _ ?_
  refine AW_cond (b := (!decide (a0.id = a1.id))) (by simp (maxSteps := 10000000) [go_sem]) (fun h4 => ?_) (fun h4 => ?_)
  · rw [if_pos h4] at hM
    have h4' := h4; try simp at h4'
    refine AW_seq fun K5 hK5 => ?_
    refine AW_region ?_
    simp (maxSteps := 10000000) [go_sem, h4, h4']
    refine hK5 _ ?_
    obtain rfl := Option.some.inj hM
    refine AW_ret ?_
    simp (maxSteps := 10000000) [go_sem, h4, h4']
  · rw [if_neg (ne_true h4)] at hM
    have h4' := h4; try simp at h4'
    refine AW_skip ?_
    refine hK2 _ ?_
    refine AW_seq fun K6 hK6 => ?_
    refine AW_seq fun K7 hK7 => ?_
    refine AW_region ?_
    simp (maxSteps := 10000000) [go_sem, h4, h4']
    refine hK7 _ ?_
    refine AW_cond (b := (!decide (a0.version = a1.version))) (by simp (maxSteps := 10000000) [go_sem, h4, h4']) (fun h8 => ?_) (fun h8 => ?_)
    · rw [if_pos h8] at hM
      have h8' := h8; try simp at h8'
      refine AW_seq fun K9 hK9 => ?_
      refine AW_region ?_
      simp (maxSteps := 10000000) [go_sem, h4, h4', h8, h8']
      refine hK9 _ ?_
      obtain rfl := Option.some.inj hM
      refine AW_ret ?_
      simp (maxSteps := 10000000) [go_sem, h4, h4', h8, h8']
    · rw [if_neg (ne_true h8)] at hM
      have h8' := h8; try simp at h8'
      refine AW_skip ?_
      refine hK6 _ ?_
      refine AW_seq fun K10 hK10 => ?_
      refine AW_seq fun K11 hK11 => ?_
      refine AW_region ?_
      simp (maxSteps := 10000000) [go_sem, h4, h4', h8, h8']
      refine hK11 _ ?_
      refine AW_cond (b := (!decide (a0.kind = a1.kind))) (by simp (maxSteps := 10000000) [go_sem, h4, h4', h8, h8']) (fun h12 => ?_) (fun h12 => ?_)
      · rw [if_pos h12] at hM
        have h12' := h12; try simp at h12'
        refine AW_seq fun K13 hK13 => ?_
        refine AW_region ?_
        simp (maxSteps := 10000000) [go_sem, h4, h4', h8, h8', h12, h12']
        refine hK13 _ ?_
        obtain rfl := Option.some.inj hM
        refine AW_ret ?_
        simp (maxSteps := 10000000) [go_sem, h4, h4', h8, h8', h12, h12']
      · rw [if_neg (ne_true h12)] at hM
        have h12' := h12; try simp at h12'
        refine AW_skip ?_
        refine hK10 _ ?_
        refine AW_seq fun K14 hK14 => ?_
        refine AW_seq fun K15 hK15 => ?_
        refine AW_region ?_
        simp (maxSteps := 10000000) [go_sem, h4, h4', h8, h8', h12, h12']
        refine hK15 _ ?_
        refine AW_cond (b := (!decide (a0.name = a1.name))) (by simp (maxSteps := 10000000) [go_sem, h4, h4', h8, h8', h12, h12']) (fun h16 => ?_) (fun h16 => ?_)
        · rw [if_pos h16] at hM
          have h16' := h16; try simp at h16'
          refine AW_seq fun K17 hK17 => ?_
          refine AW_region ?_
          simp (maxSteps := 10000000) [go_sem, h4, h4', h8, h8', h12, h12', h16, h16']
          refine hK17 _ ?_
          obtain rfl := Option.some.inj hM
          refine AW_ret ?_
          simp (maxSteps := 10000000) [go_sem, h4, h4', h8, h8', h12, h12', h16, h16']
        · rw [if_neg (ne_true h16)] at hM
          have h16' := h16; try simp at h16'
          refine AW_skip ?_
          refine hK14 _ ?_
          refine AW_seq fun K18 hK18 => ?_
          refine AW_seq fun K19 hK19 => ?_
          refine AW_region ?_
          simp (maxSteps := 10000000) [go_sem, h4, h4', h8, h8', h12, h12', h16, h16']
          refine hK19 _ ?_
          refine AW_cond (b := (!decide (a0.code = a1.code))) (by simp (maxSteps := 10000000) [go_sem, h4, h4', h8, h8', h12, h12', h16, h16']) (fun h20 => ?_) (fun h20 => ?_)
          · rw [if_pos h20] at hM
            have h20' := h20; try simp at h20'
            refine AW_seq fun K21 hK21 => ?_
            refine AW_region ?_
            simp (maxSteps := 10000000) [go_sem, h4, h4', h8, h8', h12, h12', h16, h16', h20, h20']
            refine hK21 _ ?_
            obtain rfl := Option.some.inj hM
            refine AW_ret ?_
            simp (maxSteps := 10000000) [go_sem, h4, h4', h8, h8', h12, h12', h16, h16', h20, h20']
          · rw [if_neg (ne_true h20)] at hM
            have h20' := h20; try simp at h20'
            refine AW_skip ?_
            refine hK18 _ ?_
            refine AW_seq fun K22 hK22 => ?_
            refine AW_seq fun K23 hK23 => ?_
            refine AW_region ?_
            simp (maxSteps := 10000000) [go_sem, h4, h4', h8, h8', h12, h12', h16, h16', h20, h20']
            refine hK23 _ ?_
            refine AW_cond (b := (!decide (a0.n = a1.n))) (by simp (maxSteps := 10000000) [go_sem, h4, h4', h8, h8', h12, h12', h16, h16', h20, h20']) (fun h24 => ?_) (fun h24 => ?_)
            · rw [if_pos h24] at hM
              have h24' := h24; try simp at h24'
              refine AW_seq fun K25 hK25 => ?_
              refine AW_region ?_
              simp (maxSteps := 10000000) [go_sem, h4, h4', h8, h8', h12, h12', h16, h16', h20, h20', h24, h24']
              refine hK25 _ ?_
              obtain rfl := Option.some.inj hM
              refine AW_ret ?_
              simp (maxSteps := 10000000) [go_sem, h4, h4', h8, h8', h12, h12', h16, h16', h20, h20', h24, h24']
            · rw [if_neg (ne_true h24)] at hM
              have h24' := h24; try simp at h24'
              refine AW_skip ?_
              refine hK22 _ ?_
              refine AW_seq fun K26 hK26 => ?_
              refine AW_region ?_
              simp (maxSteps := 10000000) [go_sem, h4, h4', h8, h8', h12, h12', h16, h16', h20, h20', h24, h24']
              refine hK26 _ ?_
              obtain rfl := Option.some.inj hM
              refine AW_ret ?_
              simp (maxSteps := 10000000) [go_sem, h4, h4', h8, h8', h12, h12', h16, h16', h20, h20', h24, h24']
end Go.Proofs.YtmiboaogfjgkjaaGreat
