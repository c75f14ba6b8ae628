/- Contracts of the program's functions: where the mirrored function answers, the program's function returns this answer. Written by a program of mine. -/
import Derived.Test.YtopjlbifglacpaaWn
import Derived.Test.YtopjlbifglacpaaMd
set_option linter.unusedSimpArgs false
set_option linter.unusedVariables false
namespace Go.Proofs.Ytopjlbifglacpaa
open Go.RowKit Am

set_option maxHeartbeats 4000000 in
set_option maxRecDepth 100000 in
theorem w_toExprS_all : ∀ (k : Nat), (∀ (a0 : List TExpr) (r : List TExpr) (hM : w_toExprS k a0 = some r), Ctr Try.prog 101 [.one (.sl (a0.map TExpr.c))] true [.one (.sl (r.map TExpr.c))]) ∧
    (∀ (a0 : TExpr) (r : TExpr) (hM : w_toExpr k a0 = some r), Ctr Try.prog 56 [.agg (TExpr.c a0)] true [.agg (TExpr.c r)]) := by
  intro k
  induction k with
  | zero => exact ⟨by intro a0 r hM; simp [w_toExprS] at hM, by intro a0 r hM; simp [w_toExpr] at hM⟩
  | succ k ih =>
    obtain ⟨ih_w_toExprS, ih_w_toExpr⟩ := ih
    refine ⟨?_, ?_⟩
    · intro a0 r hM
      rw [w_toExprS] at hM
      refine Ctr.of_walk (by kernel_rfl) Try.func101 rfl Try.ntmps101 Try.results101 (by simp) ?_; intro N w0 hbad
      refine AW_seq fun K1 hK1 => ?_
      refine AW_region ?_
      simp (maxSteps := 10000000) [go_sem]
      refine hK1 _ ?_
      refine AW_seq fun K2 hK2 => ?_
      obtain ⟨x1, e3, hM⟩ := bind_some hM
      obtain ⟨c4, s5, s6, s7⟩ := mk_spec e3
      subst c4
      try simp at s5
      try simp at s6
      try simp at s7
      refine AW_region ?_
      simp (maxSteps := 10000000) [go_sem, s5, s6, s7]
      refine hK2 _ ?_
      obtain ⟨e8, hU10, hR9⟩ := bind_some hM; clear hM
      refine AW_mid (ι := List TExpr) (fun i => ⟨23, [(3, .one (.own 448 i.length))], [], [(448, some ⟨true, i.map TExpr.c⟩)]⟩) (fun i => i = e8) ?_ ?_
      · intro K11 hK11
        have hM := hU10; clear hU10
        refine AW_seq fun K12 hK12 => ?_
        refine AW_region ?_
        simp (maxSteps := 10000000) [go_sem, s5, s6, s7]
        refine hK12 _ ?_
        refine AW_block ?_
        refine AW_go (ι := (List TExpr) × Int) (fun i => ⟨23, [(0, .one (.l (.sl (a0.map TExpr.c)))), (3, .one (.own 448 i.1.length)), (4, .one (.l (.int .i64 i.2)))], [], [(448, some ⟨true, i.1.map TExpr.c⟩)]⟩) (fun n i => w_toExprS_u1 (w_toExpr k) a0 n i.1 i.2 = some e8) k ((List.replicate ((a0.length : Int).toNat) (TExpr.mk 0 0 (⟨#[]⟩ : ByteArray) [])), 0) hM (Lift.into (by constructor <;> simp [go_sem, s5, s6, s7])) (fun _ h => by simp [w_toExprS_u1] at h) ?_
        intro KL13 n ⟨x3, x4⟩ hL13 hM
        have hM : w_toExprS_u1 (w_toExpr k) a0 (n + 1) x3 x4 = some e8 := hM; rw [w_toExprS_u1] at hM
        refine AW_seq fun K14 hK14 => ?_
        refine AW_seq fun K15 hK15 => ?_
        refine AW_region ?_
        simp (maxSteps := 10000000) [go_sem]
        refine hK15 _ ?_
        refine AW_cond (b := (decide (x4 < (a0.length : Int)))) (by simp (maxSteps := 10000000) [go_sem]) (fun h16 => ?_) (fun h16 => ?_)
        · rw [if_pos h16] at hM
          have h16' := h16; try simp at h16'
          have h16'' : ¬ ((a0.length : Int) ≤ x4) := by have := h16; simp at this; omega
          refine AW_skip ?_
          refine hK14 _ ?_
          refine AW_seq fun K17 hK17 => ?_
          refine AW_block ?_
          obtain ⟨x5, e18, hM⟩ := bind_some hM
          obtain ⟨p19, q20, l21, g22⟩ := at_spec e18
          obtain ⟨x6, e23, hM⟩ := bind_some hM
          obtain ⟨x7, e24, hM⟩ := bind_some hM
          obtain ⟨p25, q26, l27, g28⟩ := at_spec e24
          refine AW_region ?_
          simp (maxSteps := 10000000) [go_sem, h16, h16', h16'', p19, q20, g22, p25, q26, g28, l27]
          refine by_ctr false (ih_w_toExpr x5 x6 e23) (by simp (maxSteps := 10000000) [go_sem, h16, h16', h16'', p19, q20, g22, p25, q26, g28, l27]) (by simp) ?_
          simp (maxSteps := 10000000) [go_sem, h16, h16', h16'', p19, q20, g22, p25, q26, g28, l27]
          refine hK17 _ ?_
          refine AW_region ?_
          simp (maxSteps := 10000000) [go_sem, h16, h16', h16'', p19, q20, g22, p25, q26, g28, l27]
          exact hL13 ((x3.set x4.toNat x6), (IntKind.i64.wrap (x4 + 1))) _ hM (Lift.into (by constructor <;> simp [go_sem, h16, h16', h16'', p19, q20, g22, p25, q26, g28, l27]))
        · rw [if_neg (ne_true h16)] at hM
          have h16' := h16; try simp at h16'
          have h16'' : ¬ (x4 < (a0.length : Int)) := by have := h16; simp at this; omega
          refine AW_exit ?_
          obtain rfl := Option.some.inj hM
          exact hK11 x3 _ rfl (Lift.into (by constructor <;> simp [go_sem, h16, h16', h16'']))
      · rintro x2 rfl
        have hM := hR9
        try dsimp only at hM
        refine AW_seq fun K29 hK29 => ?_
        refine AW_region ?_
        simp (maxSteps := 10000000) [go_sem, s5, s6, s7]
        refine hK29 _ ?_
        obtain rfl := Option.some.inj hM
        refine AW_ret ?_
        simp (maxSteps := 10000000) [go_sem, s5, s6, s7]
    · intro a0 r hM
      rw [w_toExpr] at hM
      refine Ctr.of_walk (by kernel_rfl) Try.func56 rfl Try.ntmps56 Try.results56 (by simp) ?_; intro N w0 hbad
      refine AW_seq fun K1 hK1 => ?_
      refine AW_region ?_
      simp (maxSteps := 10000000) [go_sem]
      refine hK1 _ ?_
      refine AW_seq fun K2 hK2 => ?_
      refine AW_region ?_
      simp (maxSteps := 10000000) [go_sem]
      refine hK2 _ ?_
      refine AW_seq fun K3 hK3 => ?_
      refine AW_region ?_
      simp (maxSteps := 10000000) [go_sem]
      refine hK3 _ ?_
      refine AW_seq fun K4 hK4 => ?_
      refine AW_region ?_
      simp (maxSteps := 10000000) [go_sem]
      refine hK4 _ ?_
      refine AW_seq fun K5 hK5 => ?_
      refine AW_region ?_
      simp (maxSteps := 10000000) [go_sem]
      refine hK5 _ ?_
      refine AW_seq fun K6 hK6 => ?_
      obtain ⟨x1, e7, hM⟩ := bind_some hM
      refine AW_region ?_
      simp (maxSteps := 10000000) [go_sem]
      refine by_ctr false (ih_w_toExprS a0.args x1 e7) (by simp (maxSteps := 10000000) [go_sem]) (by simp) ?_
      simp (maxSteps := 10000000) [go_sem]
      refine hK6 _ ?_
      refine AW_seq fun K8 hK8 => ?_
      refine AW_region ?_
      simp (maxSteps := 10000000) [go_sem]
      refine hK8 _ ?_
      obtain rfl := Option.some.inj hM
      refine AW_ret ?_
      simp (maxSteps := 10000000) [go_sem]
theorem w_toExprS_ctr (k : Nat) : ∀ (a0 : List TExpr) (r : List TExpr) (hM : w_toExprS k a0 = some r), Ctr Try.prog 101 [.one (.sl (a0.map TExpr.c))] true [.one (.sl (r.map TExpr.c))] := (w_toExprS_all k).1
theorem w_toExpr_ctr (k : Nat) : ∀ (a0 : TExpr) (r : TExpr) (hM : w_toExpr k a0 = some r), Ctr Try.prog 56 [.agg (TExpr.c a0)] true [.agg (TExpr.c r)] := (w_toExprS_all k).2

set_option maxHeartbeats 4000000 in
set_option maxRecDepth 100000 in
theorem s_l10Left_all : ∀ (k : Nat), (∀ (a0 : TExpr) (a1 : Int) (r : Int) (hM : s_l10Left k a0 a1 = some r), Ctr Try.prog 115 [.agg (TExpr.c a0), .one (.int .i64 a1)] true [.one (.int .i64 r)]) := by
  intro k
  induction k with
  | zero => intro a0 a1 r hM; simp [s_l10Left] at hM
  | succ k ih_s_l10Left =>
    · intro a0 a1 r hM
      rw [s_l10Left] at hM
      refine Ctr.of_walk (by kernel_rfl) Try.func115 rfl Try.ntmps115 Try.results115 (by simp) ?_; intro N w0 hbad
      refine AW_seq fun K1 hK1 => ?_
      refine AW_region ?_
      simp (maxSteps := 10000000) [go_sem]
      refine hK1 _ ?_
      refine AW_seq fun K2 hK2 => ?_
      refine AW_region ?_
      simp (maxSteps := 10000000) [go_sem]
      refine hK2 _ ?_
      obtain ⟨e3, hU5, hR4⟩ := bind_some hM; clear hM
      refine AW_mid (ι := Int) (fun i => ⟨27, [(1, .one (.l (.int .i64 i)))], [], []⟩) (fun i => i = e3) ?_ ?_
      · intro K6 hK6
        have hM := hU5; clear hU5
        refine AW_seq fun K7 hK7 => ?_
        refine AW_region ?_
        simp (maxSteps := 10000000) [go_sem]
        refine hK7 _ ?_
        refine AW_block ?_
        refine AW_go (ι := Int × Int) (fun i => ⟨27, [(1, .one (.l (.int .i64 i.1))), (2, .one (.box 2 0)), (5, .one (.l (.int .i64 i.2)))], [(2, [.l (.int .i64 a0.kind), .l (.int .i64 a0.n), .l (.str a0.text), .l (.sl (a0.args.map TExpr.c))])], []⟩) (fun n i => s_l10Left_u1 (s_l10Left k) a0 n i.1 i.2 = some e3) k ((IntKind.i64.wrap (a1 - 1)), 0) hM (Lift.into (by constructor <;> simp [go_sem])) (fun _ h => by simp [s_l10Left_u1] at h) ?_
        intro KL8 n ⟨x2, x3⟩ hL8 hM
        have hM : s_l10Left_u1 (s_l10Left k) a0 (n + 1) x2 x3 = some e3 := hM; rw [s_l10Left_u1] at hM
        refine AW_seq fun K9 hK9 => ?_
        obtain ⟨e10, hU12, hR11⟩ := bind_some hM; clear hM
        refine AW_mid (ι := Bool) (fun i => ⟨27, [(1, .one (.l (.int .i64 x2))), (2, .one (.box 2 0)), (5, .one (.l (.int .i64 x3))), (16, .one (.l (.bool i)))], [(2, [.l (.int .i64 a0.kind), .l (.int .i64 a0.n), .l (.str a0.text), .l (.sl (a0.args.map TExpr.c))])], []⟩) (fun i => i = e10) ?_ ?_
        · intro K13 hK13
          have hM := hU12; clear hU12
          by_cases h14 : (decide (x3 < (a0.args.length : Int))) = true
          · rw [if_pos h14] at hM
            have h14' := h14; try simp at h14'
            have h14'' : ¬ ((a0.args.length : Int) ≤ x3) := by have := h14; simp at this; omega
            refine AW_region ?_
            simp (maxSteps := 10000000) [go_sem, h14, h14', h14'']
            obtain rfl := Option.some.inj hM
            exact hK13 (decide (0 ≤ x2)) _ rfl (Lift.into (by constructor <;> simp [go_sem, h14, h14', h14'']))
          · rw [if_neg h14] at hM
            have h14 := Bool.eq_false_iff.2 h14
            have h14' := h14; try simp at h14'
            have h14'' : ¬ (x3 < (a0.args.length : Int)) := by have := h14; simp at this; omega
            refine AW_region ?_
            simp (maxSteps := 10000000) [go_sem, h14, h14', h14'']
            obtain rfl := Option.some.inj hM
            exact hK13 false _ rfl (Lift.into (by constructor <;> simp [go_sem, h14, h14', h14'']))
        · rintro x4 rfl
          have hM := hR11
          try dsimp only at hM
          refine AW_cond (b := x4) (by simp (maxSteps := 10000000) [go_sem]) (fun h15 => ?_) (fun h15 => ?_)
          · rw [if_pos h15] at hM
            have h15' := h15; try simp at h15'
            refine AW_skip ?_
            refine hK9 _ ?_
            refine AW_seq fun K16 hK16 => ?_
            refine AW_block ?_
            obtain ⟨x5, e17, hM⟩ := bind_some hM
            obtain ⟨p18, q19, l20, g21⟩ := at_spec e17
            obtain ⟨x6, e22, hM⟩ := bind_some hM
            refine AW_region ?_
            simp (maxSteps := 10000000) [go_sem, h15, h15', p18, q19, g21]
            refine by_ctr false (ih_s_l10Left x5 x2 x6 e22) (by simp (maxSteps := 10000000) [go_sem, h15, h15', p18, q19, g21]) (by simp) ?_
            simp (maxSteps := 10000000) [go_sem, h15, h15', p18, q19, g21]
            refine hK16 _ ?_
            refine AW_region ?_
            simp (maxSteps := 10000000) [go_sem, h15, h15', p18, q19, g21]
            exact hL8 (x6, (IntKind.i64.wrap (x3 + 1))) _ hM (Lift.into (by constructor <;> simp [go_sem, h15, h15', p18, q19, g21]))
          · rw [if_neg (ne_true h15)] at hM
            have h15' := h15; try simp at h15'
            refine AW_exit ?_
            obtain rfl := Option.some.inj hM
            exact hK6 x2 _ rfl (Lift.into (by constructor <;> simp [go_sem, h15, h15']))
      · rintro x1 rfl
        have hM := hR4
        try dsimp only at hM
        refine AW_seq fun K23 hK23 => ?_
        refine AW_region ?_
        simp (maxSteps := 10000000) [go_sem]
        refine hK23 _ ?_
        obtain rfl := Option.some.inj hM
        refine AW_ret ?_
        simp (maxSteps := 10000000) [go_sem]
theorem s_l10Left_ctr (k : Nat) : ∀ (a0 : TExpr) (a1 : Int) (r : Int) (hM : s_l10Left k a0 a1 = some r), Ctr Try.prog 115 [.agg (TExpr.c a0), .one (.int .i64 a1)] true [.one (.int .i64 r)] := (s_l10Left_all k)

set_option maxHeartbeats 4000000 in
set_option maxRecDepth 100000 in
theorem s_l1Max_ctr (a0 : Int) (a1 : Int) (r : Int) (hM : s_l1Max a0 a1 = some r) : Ctr Try.prog 122 [.one (.int .i64 a0), .one (.int .i64 a1)] true [.one (.int .i64 r)] := by
  unfold s_l1Max at hM
  refine Ctr.of_walk (by kernel_rfl) Try.func122 rfl Try.ntmps122 Try.results122 (by simp) ?_; intro N w0 hbad
  refine AW_seq fun K1 hK1 => ?_
  refine AW_region ?_
  simp (maxSteps := 10000000) [go_sem]
  refine hK1 _ ?_
  refine AW_seq fun K2 hK2 => ?_
  refine AW_seq fun K3 hK3 => ?_
  refine AW_region ?_
  simp (maxSteps := 10000000) [go_sem]
  refine hK3 _ ?_
  refine AW_cond (b := (decide (a1 < a0))) (by simp (maxSteps := 10000000) [go_sem]) (fun h4 => ?_) (fun h4 => ?_)
  · rw [if_pos h4] at hM
    have h4' := h4; try simp at h4'
    have h4'' : ¬ (a0 ≤ a1) := by have := h4; simp at this; omega
    refine AW_seq fun K5 hK5 => ?_
    refine AW_region ?_
    simp (maxSteps := 10000000) [go_sem, h4, h4', h4'']
    refine hK5 _ ?_
    obtain rfl := Option.some.inj hM
    refine AW_ret ?_
    simp (maxSteps := 10000000) [go_sem, h4, h4', h4'']
  · rw [if_neg (ne_true h4)] at hM
    have h4' := h4; try simp at h4'
    have h4'' : ¬ (a1 < a0) := by have := h4; simp at this; omega
    refine AW_skip ?_
    refine hK2 _ ?_
    refine AW_seq fun K6 hK6 => ?_
    refine AW_region ?_
    simp (maxSteps := 10000000) [go_sem, h4, h4', h4'']
    refine hK6 _ ?_
    obtain rfl := Option.some.inj hM
    refine AW_ret ?_
    simp (maxSteps := 10000000) [go_sem, h4, h4', h4'']
set_option maxHeartbeats 4000000 in
set_option maxRecDepth 100000 in
theorem s_NestingOf_all : ∀ (k : Nat), (∀ (a0 : TExpr) (r : Int) (hM : s_NestingOf k a0 = some r), Ctr Try.prog 116 [.agg (TExpr.c a0)] true [.one (.int .i64 r)]) := by
  intro k
  induction k with
  | zero => intro a0 r hM; simp [s_NestingOf] at hM
  | succ k ih_s_NestingOf =>
    · intro a0 r hM
      rw [s_NestingOf] at hM
      refine Ctr.of_walk (by kernel_rfl) Try.func116 rfl Try.ntmps116 Try.results116 (by simp) ?_; intro N w0 hbad
      refine AW_seq fun K1 hK1 => ?_
      refine AW_region ?_
      simp (maxSteps := 10000000) [go_sem]
      refine hK1 _ ?_
      refine AW_seq fun K2 hK2 => ?_
      refine AW_region ?_
      simp (maxSteps := 10000000) [go_sem]
      refine hK2 _ ?_
      obtain ⟨e3, hU5, hR4⟩ := bind_some hM; clear hM
      refine AW_mid (ι := Int) (fun i => ⟨22, [(3, .one (.l (.int .i64 i)))], [], []⟩) (fun i => i = e3) ?_ ?_
      · intro K6 hK6
        have hM := hU5; clear hU5
        refine AW_seq fun K7 hK7 => ?_
        refine AW_region ?_
        simp (maxSteps := 10000000) [go_sem]
        refine hK7 _ ?_
        refine AW_block ?_
        refine AW_go (ι := Int × Int) (fun i => ⟨22, [(1, .one (.box 1 0)), (3, .one (.l (.int .i64 i.1))), (4, .one (.l (.int .i64 i.2)))], [(1, [.l (.int .i64 a0.kind), .l (.int .i64 a0.n), .l (.str a0.text), .l (.sl (a0.args.map TExpr.c))])], []⟩) (fun n i => s_NestingOf_u1 (s_NestingOf k) a0 n i.1 i.2 = some e3) k (0, 0) hM (Lift.into (by constructor <;> simp [go_sem])) (fun _ h => by simp [s_NestingOf_u1] at h) ?_
        intro KL8 n ⟨x2, x3⟩ hL8 hM
        have hM : s_NestingOf_u1 (s_NestingOf k) a0 (n + 1) x2 x3 = some e3 := hM; rw [s_NestingOf_u1] at hM
        refine AW_seq fun K9 hK9 => ?_
        refine AW_seq fun K10 hK10 => ?_
        refine AW_region ?_
        simp (maxSteps := 10000000) [go_sem]
        refine hK10 _ ?_
        refine AW_cond (b := (decide (x3 < (a0.args.length : Int)))) (by simp (maxSteps := 10000000) [go_sem]) (fun h11 => ?_) (fun h11 => ?_)
        · rw [if_pos h11] at hM
          have h11' := h11; try simp at h11'
          have h11'' : ¬ ((a0.args.length : Int) ≤ x3) := by have := h11; simp at this; omega
          refine AW_skip ?_
          refine hK9 _ ?_
          refine AW_seq fun K12 hK12 => ?_
          refine AW_block ?_
          obtain ⟨x4, e13, hM⟩ := bind_some hM
          obtain ⟨p14, q15, l16, g17⟩ := at_spec e13
          obtain ⟨x5, e18, hM⟩ := bind_some hM
          obtain ⟨x6, e19, hM⟩ := bind_some hM
          refine AW_region ?_
          simp (maxSteps := 10000000) [go_sem, h11, h11', h11'', p14, q15, g17]
          refine by_ctr false (ih_s_NestingOf x4 x5 e18) (by simp (maxSteps := 10000000) [go_sem, h11, h11', h11'', p14, q15, g17]) (by simp) ?_
          simp (maxSteps := 10000000) [go_sem, h11, h11', h11'', p14, q15, g17]
          refine by_ctr false (s_l1Max_ctr x2 x5 x6 e19) (by simp (maxSteps := 10000000) [go_sem, h11, h11', h11'', p14, q15, g17]) (by simp) ?_
          simp (maxSteps := 10000000) [go_sem, h11, h11', h11'', p14, q15, g17]
          refine hK12 _ ?_
          refine AW_region ?_
          simp (maxSteps := 10000000) [go_sem, h11, h11', h11'', p14, q15, g17]
          exact hL8 (x6, (IntKind.i64.wrap (x3 + 1))) _ hM (Lift.into (by constructor <;> simp [go_sem, h11, h11', h11'', p14, q15, g17]))
        · rw [if_neg (ne_true h11)] at hM
          have h11' := h11; try simp at h11'
          have h11'' : ¬ (x3 < (a0.args.length : Int)) := by have := h11; simp at this; omega
          refine AW_exit ?_
          obtain rfl := Option.some.inj hM
          exact hK6 x2 _ rfl (Lift.into (by constructor <;> simp [go_sem, h11, h11', h11'']))
      · rintro x1 rfl
        have hM := hR4
        try dsimp only at hM
        refine AW_seq fun K20 hK20 => ?_
        refine AW_region ?_
        simp (maxSteps := 10000000) [go_sem]
        refine hK20 _ ?_
        obtain rfl := Option.some.inj hM
        refine AW_ret ?_
        simp (maxSteps := 10000000) [go_sem]
theorem s_NestingOf_ctr (k : Nat) : ∀ (a0 : TExpr) (r : Int) (hM : s_NestingOf k a0 = some r), Ctr Try.prog 116 [.agg (TExpr.c a0)] true [.one (.int .i64 r)] := (s_NestingOf_all k)

set_option maxHeartbeats 4000000 in
set_option maxRecDepth 100000 in
theorem s_IsValidText_ctr (k : Nat) (a0 : ByteArray) (r : Bool) (hM : s_IsValidText k a0 = some r) : Ctr Try.prog 125 [.one (.str a0)] true [.one (.bool r)] := by
  unfold s_IsValidText at hM
  refine Ctr.of_walk (by kernel_rfl) Try.func125 rfl Try.ntmps125 Try.results125 (by simp) ?_; intro N w0 hbad
  refine AW_seq fun K1 hK1 => ?_
  refine AW_region ?_
  simp (maxSteps := 10000000) [go_sem]
  refine hK1 _ ?_
  obtain ⟨e2, hU4, hR3⟩ := bind_some hM; clear hM
  refine AW_mid (ι := Unit) (fun i => ⟨29, [(0, .one (.l (.str a0)))], [], []⟩) (fun i => (.inl i) = e2) ?_ ?_
  · intro K5 hK5
    have hM := hU4; clear hU4
    refine AW_seq fun K6 hK6 => ?_
    refine AW_region ?_
    simp (maxSteps := 10000000) [go_sem]
    refine hK6 _ ?_
    refine AW_block ?_
    refine AW_go (ι := Int) (fun i => ⟨29, [(0, .one (.l (.str a0))), (3, .one (.l (.int .i64 i)))], [], []⟩) (fun n i => s_IsValidText_u1 a0 n i = some e2) k 0 hM (Lift.into (by constructor <;> simp [go_sem])) (fun _ h => by simp [s_IsValidText_u1] at h) ?_
    intro KL7 n x1 hL7 hM
    have hM : s_IsValidText_u1 a0 (n + 1) x1 = some e2 := hM; rw [s_IsValidText_u1] at hM
    refine AW_seq fun K8 hK8 => ?_
    refine AW_seq fun K9 hK9 => ?_
    refine AW_region ?_
    simp (maxSteps := 10000000) [go_sem]
    refine hK9 _ ?_
    refine AW_cond (b := (decide (x1 < (a0.size : Int)))) (by simp (maxSteps := 10000000) [go_sem]) (fun h10 => ?_) (fun h10 => ?_)
    · rw [if_pos h10] at hM
      have h10' := h10; try simp at h10'
      have h10'' : ¬ ((a0.size : Int) ≤ x1) := by have := h10; simp at this; omega
      refine AW_skip ?_
      refine hK8 _ ?_
      refine AW_seq fun K11 hK11 => ?_
      refine AW_block ?_
      obtain ⟨e12, hU14, hR13⟩ := bind_some hM; clear hM
      refine AW_mid (ι := Bool) (fun i => ⟨29, [(0, .one (.l (.str a0))), (3, .one (.l (.int .i64 x1))), (25, .one (.l (.bool i)))], [], []⟩) (fun i => i = e12) ?_ ?_
      · intro K15 hK15
        have hM := hU14; clear hU14
        obtain ⟨x3, e16, hM⟩ := bind_some hM
        obtain ⟨p17, q18, l19, g20⟩ := at_spec e16
        by_cases h21 : (decide ((x3.toNat : Int) < 32)) = true
        · rw [if_pos h21] at hM
          have h21' := h21; try simp at h21'
          have h21'' : ¬ (32 ≤ (x3.toNat : Int)) := by have := h21; simp at this; omega
          refine AW_region ?_
          simp (maxSteps := 10000000) [go_sem, h10, h10', h10'', p17, q18, g20, h21, h21', h21'']
          obtain rfl := Option.some.inj hM
          exact hK15 true _ rfl (Lift.into (by constructor <;> simp [go_sem, h10, h10', h10'', p17, q18, g20, h21, h21', h21'']))
        · rw [if_neg h21] at hM
          have h21 := Bool.eq_false_iff.2 h21
          have h21' := h21; try simp at h21'
          have h21'' : ¬ ((x3.toNat : Int) < 32) := by have := h21; simp at this; omega
          by_cases h22 : (decide (126 < (x3.toNat : Int))) = true
          · rw [if_pos h22] at hM
            have h22' := h22; try simp at h22'
            have h22'' : ¬ ((x3.toNat : Int) ≤ 126) := by have := h22; simp at this; omega
            refine AW_region ?_
            simp (maxSteps := 10000000) [go_sem, h10, h10', h10'', p17, q18, g20, h21, h21', h21'', h22, h22', h22'']
            obtain rfl := Option.some.inj hM
            exact hK15 true _ rfl (Lift.into (by constructor <;> simp [go_sem, h10, h10', h10'', p17, q18, g20, h21, h21', h21'', h22, h22', h22'']))
          · rw [if_neg h22] at hM
            have h22 := Bool.eq_false_iff.2 h22
            have h22' := h22; try simp at h22'
            have h22'' : ¬ (126 < (x3.toNat : Int)) := by have := h22; simp at this; omega
            refine AW_region ?_
            simp (maxSteps := 10000000) [go_sem, h10, h10', h10'', p17, q18, g20, h21, h21', h21'', h22, h22', h22'']
            obtain rfl := Option.some.inj hM
            exact hK15 (decide ((x3.toNat : Int) = 34)) _ rfl (Lift.into (by constructor <;> simp [go_sem, h10, h10', h10'', p17, q18, g20, h21, h21', h21'', h22, h22', h22'']))
      · rintro x2 rfl
        have hM := hR13
        try dsimp only at hM
        refine AW_cond (b := x2) (by simp (maxSteps := 10000000) [go_sem, h10, h10', h10'']) (fun h23 => ?_) (fun h23 => ?_)
        · rw [if_pos h23] at hM
          have h23' := h23; try simp at h23'
          refine AW_seq fun K24 hK24 => ?_
          refine AW_region ?_
          simp (maxSteps := 10000000) [go_sem, h10, h10', h10'', h23, h23']
          refine hK24 _ ?_
          obtain rfl := Option.some.inj hM
          have hM := hR3; dsimp only at hM
          obtain rfl := Option.some.inj hM
          refine AW_ret ?_
          simp (maxSteps := 10000000) [go_sem, h10, h10', h10'', h23, h23']
        · rw [if_neg (ne_true h23)] at hM
          have h23' := h23; try simp at h23'
          refine AW_skip ?_
          refine hK11 _ ?_
          refine AW_region ?_
          simp (maxSteps := 10000000) [go_sem, h10, h10', h10'', h23, h23']
          exact hL7 (IntKind.i64.wrap (x1 + 1)) _ hM (Lift.into (by constructor <;> simp [go_sem, h10, h10', h10'', h23, h23']))
    · rw [if_neg (ne_true h10)] at hM
      have h10' := h10; try simp at h10'
      have h10'' : ¬ (x1 < (a0.size : Int)) := by have := h10; simp at this; omega
      refine AW_exit ?_
      obtain rfl := Option.some.inj hM
      exact hK5 () _ rfl (Lift.into (by constructor <;> simp [go_sem, h10, h10', h10'']))
  · rintro _ rfl
    have hM := hR3
    dsimp only at hM
    refine AW_seq fun K25 hK25 => ?_
    refine AW_region ?_
    simp (maxSteps := 10000000) [go_sem]
    refine hK25 _ ?_
    obtain rfl := Option.some.inj hM
    refine AW_ret ?_
    simp (maxSteps := 10000000) [go_sem]
set_option maxHeartbeats 4000000 in
set_option maxRecDepth 100000 in
theorem s_l2Shape_ctr (k : Nat) (a0 : ByteArray) (r : Bool) (hM : s_l2Shape k a0 = some r) : Ctr Try.prog 131 [.one (.str a0)] true [.one (.bool r)] := by
  unfold s_l2Shape at hM
  refine Ctr.of_walk (by kernel_rfl) Try.func131 rfl Try.ntmps131 Try.results131 (by simp) ?_; intro N w0 hbad
  refine AW_seq fun K1 hK1 => ?_
  refine AW_region ?_
  simp (maxSteps := 10000000) [go_sem]
  refine hK1 _ ?_
  obtain ⟨e2, hU4, hR3⟩ := bind_some hM; clear hM
  refine AW_mid (ι := Unit) (fun i => ⟨45, [(0, .one (.l (.str a0)))], [], []⟩) (fun i => (.inl i) = e2) ?_ ?_
  · intro K5 hK5
    have hM := hU4; clear hU4
    refine AW_seq fun K6 hK6 => ?_
    refine AW_region ?_
    simp (maxSteps := 10000000) [go_sem]
    refine hK6 _ ?_
    refine AW_block ?_
    refine AW_go (ι := Int) (fun i => ⟨45, [(0, .one (.l (.str a0))), (3, .one (.l (.int .i64 i)))], [], []⟩) (fun n i => s_l2Shape_u1 a0 n i = some e2) k 0 hM (Lift.into (by constructor <;> simp [go_sem])) (fun _ h => by simp [s_l2Shape_u1] at h) ?_
    intro KL7 n x1 hL7 hM
    have hM : s_l2Shape_u1 a0 (n + 1) x1 = some e2 := hM; rw [s_l2Shape_u1] at hM
    refine AW_seq fun K8 hK8 => ?_
    refine AW_seq fun K9 hK9 => ?_
    refine AW_region ?_
    simp (maxSteps := 10000000) [go_sem]
    refine hK9 _ ?_
    refine AW_cond (b := (decide (x1 < (a0.size : Int)))) (by simp (maxSteps := 10000000) [go_sem]) (fun h10 => ?_) (fun h10 => ?_)
    · rw [if_pos h10] at hM
      have h10' := h10; try simp at h10'
      have h10'' : ¬ ((a0.size : Int) ≤ x1) := by have := h10; simp at this; omega
      refine AW_skip ?_
      refine hK8 _ ?_
      refine AW_seq fun K11 hK11 => ?_
      refine AW_block ?_
      obtain ⟨e12, hU14, hR13⟩ := bind_some hM; clear hM
      refine AW_mid (ι := Bool) (fun i => ⟨45, [(0, .one (.l (.str a0))), (3, .one (.l (.int .i64 x1))), (4, .one (.l (.bool i)))], [], []⟩) (fun i => i = e12) ?_ ?_
      · intro K15 hK15
        have hM := hU14; clear hU14
        obtain ⟨x3, e16, hM⟩ := bind_some hM
        obtain ⟨p17, q18, l19, g20⟩ := at_spec e16
        by_cases h21 : (decide (97 ≤ (x3.toNat : Int))) = true
        · rw [if_pos h21] at hM
          have h21' := h21; try simp at h21'
          have h21'' : ¬ ((x3.toNat : Int) < 97) := by have := h21; simp at this; omega
          refine AW_region ?_
          simp (maxSteps := 10000000) [go_sem, h10, h10', h10'', p17, q18, g20, h21, h21', h21'']
          obtain rfl := Option.some.inj hM
          exact hK15 (decide ((x3.toNat : Int) ≤ 122)) _ rfl (Lift.into (by constructor <;> simp [go_sem, h10, h10', h10'', p17, q18, g20, h21, h21', h21'']))
        · rw [if_neg h21] at hM
          have h21 := Bool.eq_false_iff.2 h21
          have h21' := h21; try simp at h21'
          have h21'' : ¬ (97 ≤ (x3.toNat : Int)) := by have := h21; simp at this; omega
          refine AW_region ?_
          simp (maxSteps := 10000000) [go_sem, h10, h10', h10'', p17, q18, g20, h21, h21', h21'']
          obtain rfl := Option.some.inj hM
          exact hK15 false _ rfl (Lift.into (by constructor <;> simp [go_sem, h10, h10', h10'', p17, q18, g20, h21, h21', h21'']))
      · rintro x2 rfl
        have hM := hR13
        try dsimp only at hM
        obtain ⟨e22, hU24, hR23⟩ := bind_some hM; clear hM
        refine AW_mid (ι := Bool) (fun i => ⟨45, [(0, .one (.l (.str a0))), (3, .one (.l (.int .i64 x1))), (4, .one (.l (.bool x2))), (5, .one (.l (.bool i)))], [], []⟩) (fun i => i = e22) ?_ ?_
        · intro K25 hK25
          have hM := hU24; clear hU24
          obtain ⟨x5, e26, hM⟩ := bind_some hM
          obtain ⟨p27, q28, l29, g30⟩ := at_spec e26
          by_cases h31 : (decide (48 ≤ (x5.toNat : Int))) = true
          · rw [if_pos h31] at hM
            have h31' := h31; try simp at h31'
            have h31'' : ¬ ((x5.toNat : Int) < 48) := by have := h31; simp at this; omega
            refine AW_region ?_
            simp (maxSteps := 10000000) [go_sem, h10, h10', h10'', p27, q28, g30, h31, h31', h31'']
            obtain rfl := Option.some.inj hM
            exact hK25 (decide ((x5.toNat : Int) ≤ 57)) _ rfl (Lift.into (by constructor <;> simp [go_sem, h10, h10', h10'', p27, q28, g30, h31, h31', h31'']))
          · rw [if_neg h31] at hM
            have h31 := Bool.eq_false_iff.2 h31
            have h31' := h31; try simp at h31'
            have h31'' : ¬ (48 ≤ (x5.toNat : Int)) := by have := h31; simp at this; omega
            refine AW_region ?_
            simp (maxSteps := 10000000) [go_sem, h10, h10', h10'', p27, q28, g30, h31, h31', h31'']
            obtain rfl := Option.some.inj hM
            exact hK25 false _ rfl (Lift.into (by constructor <;> simp [go_sem, h10, h10', h10'', p27, q28, g30, h31, h31', h31'']))
        · rintro x4 rfl
          have hM := hR23
          try dsimp only at hM
          obtain ⟨e32, hU34, hR33⟩ := bind_some hM; clear hM
          refine AW_mid (ι := Bool) (fun i => ⟨45, [(0, .one (.l (.str a0))), (3, .one (.l (.int .i64 x1))), (41, .one (.l (.bool i)))], [], []⟩) (fun i => i = e32) ?_ ?_
          · intro K35 hK35
            have hM := hU34; clear hU34
            by_cases h36 : (!x2) = true
            · rw [if_pos h36] at hM
              have h36' := h36; try simp at h36'
              by_cases h37 : (decide (x1 = 0)) = true
              · rw [if_pos h37] at hM
                have h37' := h37; try simp at h37'
                refine AW_region ?_
                simp (maxSteps := 10000000) [go_sem, h10, h10', h10'', h36, h36', h37, h37']
                obtain rfl := Option.some.inj hM
                exact hK35 true _ rfl (Lift.into (by constructor <;> simp [go_sem, h10, h10', h10'', h36, h36', h37, h37']))
              · rw [if_neg h37] at hM
                have h37 := Bool.eq_false_iff.2 h37
                have h37' := h37; try simp at h37'
                refine AW_region ?_
                simp (maxSteps := 10000000) [go_sem, h10, h10', h10'', h36, h36', h37, h37']
                obtain rfl := Option.some.inj hM
                exact hK35 (!x4) _ rfl (Lift.into (by constructor <;> simp [go_sem, h10, h10', h10'', h36, h36', h37, h37']))
            · rw [if_neg h36] at hM
              have h36 := Bool.eq_false_iff.2 h36
              have h36' := h36; try simp at h36'
              refine AW_region ?_
              simp (maxSteps := 10000000) [go_sem, h10, h10', h10'', h36, h36']
              obtain rfl := Option.some.inj hM
              exact hK35 false _ rfl (Lift.into (by constructor <;> simp [go_sem, h10, h10', h10'', h36, h36']))
          · rintro x6 rfl
            have hM := hR33
            try dsimp only at hM
            refine AW_cond (b := x6) (by simp (maxSteps := 10000000) [go_sem, h10, h10', h10'']) (fun h38 => ?_) (fun h38 => ?_)
            · rw [if_pos h38] at hM
              have h38' := h38; try simp at h38'
              refine AW_seq fun K39 hK39 => ?_
              refine AW_region ?_
              simp (maxSteps := 10000000) [go_sem, h10, h10', h10'', h38, h38']
              refine hK39 _ ?_
              obtain rfl := Option.some.inj hM
              have hM := hR3; dsimp only at hM
              obtain rfl := Option.some.inj hM
              refine AW_ret ?_
              simp (maxSteps := 10000000) [go_sem, h10, h10', h10'', h38, h38']
            · rw [if_neg (ne_true h38)] at hM
              have h38' := h38; try simp at h38'
              refine AW_skip ?_
              refine hK11 _ ?_
              refine AW_region ?_
              simp (maxSteps := 10000000) [go_sem, h10, h10', h10'', h38, h38']
              exact hL7 (IntKind.i64.wrap (x1 + 1)) _ hM (Lift.into (by constructor <;> simp [go_sem, h10, h10', h10'', h38, h38']))
    · rw [if_neg (ne_true h10)] at hM
      have h10' := h10; try simp at h10'
      have h10'' : ¬ (x1 < (a0.size : Int)) := by have := h10; simp at this; omega
      refine AW_exit ?_
      obtain rfl := Option.some.inj hM
      exact hK5 () _ rfl (Lift.into (by constructor <;> simp [go_sem, h10, h10', h10'']))
  · rintro _ rfl
    have hM := hR3
    dsimp only at hM
    refine AW_seq fun K40 hK40 => ?_
    refine AW_region ?_
    simp (maxSteps := 10000000) [go_sem]
    refine hK40 _ ?_
    obtain rfl := Option.some.inj hM
    refine AW_ret ?_
    simp (maxSteps := 10000000) [go_sem]
set_option maxHeartbeats 4000000 in
set_option maxRecDepth 100000 in
theorem s_l2Reserved_ctr (r : List ByteArray) (hM : s_l2Reserved = some r) : Ctr Try.prog 136 [] true [.one (.sl (r.map sC))] := by
  unfold s_l2Reserved at hM
  refine Ctr.of_walk (by kernel_rfl) Try.func136 rfl Try.ntmps136 Try.results136 (by simp) ?_; intro N w0 hbad
  refine AW_seq fun K1 hK1 => ?_
  refine AW_region ?_
  simp (maxSteps := 10000000) [go_sem]
  refine hK1 _ ?_
  refine AW_seq fun K2 hK2 => ?_
  refine AW_region ?_
  simp (maxSteps := 10000000) [go_sem]
  refine hK2 _ ?_
  obtain rfl := Option.some.inj hM
  refine AW_ret ?_
  simp (maxSteps := 10000000) [go_sem]
set_option maxHeartbeats 4000000 in
set_option maxRecDepth 100000 in
theorem s_l1Has_ctr (k : Nat) (a0 : List ByteArray) (a1 : ByteArray) (r : Bool) (hM : s_l1Has k a0 a1 = some r) : Ctr Try.prog 135 [.one (.sl (a0.map sC)), .one (.str a1)] true [.one (.bool r)] := by
  unfold s_l1Has at hM
  refine Ctr.of_walk (by kernel_rfl) Try.func135 rfl Try.ntmps135 Try.results135 (by simp) ?_; intro N w0 hbad
  refine AW_seq fun K1 hK1 => ?_
  refine AW_region ?_
  simp (maxSteps := 10000000) [go_sem]
  refine hK1 _ ?_
  obtain ⟨e2, hU4, hR3⟩ := bind_some hM; clear hM
  refine AW_mid (ι := Unit) (fun i => ⟨18, [], [], []⟩) (fun i => (.inl i) = e2) ?_ ?_
  · intro K5 hK5
    have hM := hU4; clear hU4
    refine AW_seq fun K6 hK6 => ?_
    refine AW_region ?_
    simp (maxSteps := 10000000) [go_sem]
    refine hK6 _ ?_
    refine AW_block ?_
    refine AW_go (ι := Int) (fun i => ⟨18, [(0, .one (.l (.sl (a0.map sC)))), (1, .one (.l (.str a1))), (5, .one (.l (.int .i64 i)))], [], []⟩) (fun n i => s_l1Has_u1 a0 a1 n i = some e2) k 0 hM (Lift.into (by constructor <;> simp [go_sem])) (fun _ h => by simp [s_l1Has_u1] at h) ?_
    intro KL7 n x1 hL7 hM
    have hM : s_l1Has_u1 a0 a1 (n + 1) x1 = some e2 := hM; rw [s_l1Has_u1] at hM
    refine AW_seq fun K8 hK8 => ?_
    refine AW_seq fun K9 hK9 => ?_
    refine AW_region ?_
    simp (maxSteps := 10000000) [go_sem]
    refine hK9 _ ?_
    refine AW_cond (b := (decide (x1 < (a0.length : Int)))) (by simp (maxSteps := 10000000) [go_sem]) (fun h10 => ?_) (fun h10 => ?_)
    · rw [if_pos h10] at hM
      have h10' := h10; try simp at h10'
      have h10'' : ¬ ((a0.length : Int) ≤ x1) := by have := h10; simp at this; omega
      refine AW_skip ?_
      refine hK8 _ ?_
      refine AW_seq fun K11 hK11 => ?_
      refine AW_block ?_
      refine AW_seq fun K12 hK12 => ?_
      obtain ⟨x2, e13, hM⟩ := bind_some hM
      obtain ⟨p14, q15, l16, g17⟩ := at_spec e13
      refine AW_region ?_
      simp (maxSteps := 10000000) [go_sem, h10, h10', h10'', p14, q15, g17]
      refine hK12 _ ?_
      refine AW_cond (b := (decide (x2 = a1))) (by simp (maxSteps := 10000000) [go_sem, h10, h10', h10'', p14, q15, g17]) (fun h18 => ?_) (fun h18 => ?_)
      · rw [if_pos h18] at hM
        have h18' := h18; try simp at h18'
        refine AW_seq fun K19 hK19 => ?_
        refine AW_region ?_
        simp (maxSteps := 10000000) [go_sem, h10, h10', h10'', p14, q15, g17, h18, h18']
        refine hK19 _ ?_
        obtain rfl := Option.some.inj hM
        have hM := hR3; dsimp only at hM
        obtain rfl := Option.some.inj hM
        refine AW_ret ?_
        simp (maxSteps := 10000000) [go_sem, h10, h10', h10'', p14, q15, g17, h18, h18']
      · rw [if_neg (ne_true h18)] at hM
        have h18' := h18; try simp at h18'
        refine AW_skip ?_
        refine hK11 _ ?_
        refine AW_region ?_
        simp (maxSteps := 10000000) [go_sem, h10, h10', h10'', p14, q15, g17, h18, h18']
        exact hL7 (IntKind.i64.wrap (x1 + 1)) _ hM (Lift.into (by constructor <;> simp [go_sem, h10, h10', h10'', p14, q15, g17, h18, h18']))
    · rw [if_neg (ne_true h10)] at hM
      have h10' := h10; try simp at h10'
      have h10'' : ¬ (x1 < (a0.length : Int)) := by have := h10; simp at this; omega
      refine AW_exit ?_
      obtain rfl := Option.some.inj hM
      exact hK5 () _ rfl (Lift.into (by constructor <;> simp [go_sem, h10, h10', h10'']))
  · rintro _ rfl
    have hM := hR3
    dsimp only at hM
    refine AW_seq fun K20 hK20 => ?_
    refine AW_region ?_
    simp (maxSteps := 10000000) [go_sem]
    refine hK20 _ ?_
    obtain rfl := Option.some.inj hM
    refine AW_ret ?_
    simp (maxSteps := 10000000) [go_sem]
set_option maxHeartbeats 4000000 in
set_option maxRecDepth 100000 in
theorem s_IsReserved_ctr (k : Nat) (a0 : ByteArray) (r : Bool) (hM : s_IsReserved k a0 = some r) : Ctr Try.prog 132 [.one (.str a0)] true [.one (.bool r)] := by
  unfold s_IsReserved at hM
  refine Ctr.of_walk (by kernel_rfl) Try.func132 rfl Try.ntmps132 Try.results132 (by simp) ?_; intro N w0 hbad
  refine AW_seq fun K1 hK1 => ?_
  refine AW_region ?_
  simp (maxSteps := 10000000) [go_sem]
  refine hK1 _ ?_
  refine AW_seq fun K2 hK2 => ?_
  obtain ⟨x1, e3, hM⟩ := bind_some hM
  obtain ⟨x2, e4, hM⟩ := bind_some hM
  refine AW_region ?_
  simp (maxSteps := 10000000) [go_sem]
  refine by_ctr false (s_l2Reserved_ctr x1 e3) (by simp (maxSteps := 10000000) [go_sem]) (by simp) ?_
  simp (maxSteps := 10000000) [go_sem]
  refine by_ctr false (s_l1Has_ctr k x1 a0 x2 e4) (by simp (maxSteps := 10000000) [go_sem]) (by simp) ?_
  simp (maxSteps := 10000000) [go_sem]
  refine hK2 _ ?_
  obtain rfl := Option.some.inj hM
  refine AW_ret ?_
  simp (maxSteps := 10000000) [go_sem]
set_option maxHeartbeats 4000000 in
set_option maxRecDepth 100000 in
theorem s_IsValidName_ctr (k : Nat) (a0 : ByteArray) (r : Bool) (hM : s_IsValidName k a0 = some r) : Ctr Try.prog 126 [.one (.str a0)] true [.one (.bool r)] := by
  unfold s_IsValidName at hM
  refine Ctr.of_walk (by kernel_rfl) Try.func126 rfl Try.ntmps126 Try.results126 (by simp) ?_; intro N w0 hbad
  refine AW_seq fun K1 hK1 => ?_
  refine AW_region ?_
  simp (maxSteps := 10000000) [go_sem]
  refine hK1 _ ?_
  obtain ⟨e2, hU4, hR3⟩ := bind_some hM; clear hM
  refine AW_mid (ι := Bool) (fun i => ⟨15, [(2, .one (.l (.bool i)))], [], []⟩) (fun i => i = e2) ?_ ?_
  · intro K5 hK5
    have hM := hU4; clear hU4
    obtain ⟨x2, e6, hM⟩ := bind_some hM
    by_cases h7 : x2 = true
    · rw [if_pos h7] at hM
      have h7' := h7; try simp at h7'
      by_cases h8 : (decide ((a0.size : Int) ≤ 8)) = true
      · rw [if_pos h8] at hM
        have h8' := h8; try simp at h8'
        have h8'' : ¬ (8 < (a0.size : Int)) := by have := h8; simp at this; omega
        obtain ⟨x3, e9, hM⟩ := bind_some hM
        refine AW_region ?_
        simp (maxSteps := 10000000) [go_sem, h7, h7', h8, h8', h8'']
        refine by_ctr false (s_l2Shape_ctr k a0 x2 e6) (by simp (maxSteps := 10000000) [go_sem, h7, h7', h8, h8', h8'']) (by simp) ?_
        simp (maxSteps := 10000000) [go_sem, h7, h7', h8, h8', h8'']
        refine by_ctr false (s_IsReserved_ctr k a0 x3 e9) (by simp (maxSteps := 10000000) [go_sem, h7, h7', h8, h8', h8'']) (by simp) ?_
        simp (maxSteps := 10000000) [go_sem, h7, h7', h8, h8', h8'']
        obtain rfl := Option.some.inj hM
        exact hK5 (!x3) _ rfl (Lift.into (by constructor <;> simp [go_sem, h7, h7', h8, h8', h8'']))
      · rw [if_neg h8] at hM
        have h8 := Bool.eq_false_iff.2 h8
        have h8' := h8; try simp at h8'
        have h8'' : ¬ ((a0.size : Int) ≤ 8) := by have := h8; simp at this; omega
        refine AW_region ?_
        simp (maxSteps := 10000000) [go_sem, h7, h7', h8, h8', h8'']
        refine by_ctr false (s_l2Shape_ctr k a0 x2 e6) (by simp (maxSteps := 10000000) [go_sem, h7, h7', h8, h8', h8'']) (by simp) ?_
        simp (maxSteps := 10000000) [go_sem, h7, h7', h8, h8', h8'']
        obtain rfl := Option.some.inj hM
        exact hK5 false _ rfl (Lift.into (by constructor <;> simp [go_sem, h7, h7', h8, h8', h8'']))
    · rw [if_neg h7] at hM
      have h7 := Bool.eq_false_iff.2 h7
      have h7' := h7; try simp at h7'
      refine AW_region ?_
      simp (maxSteps := 10000000) [go_sem, h7, h7']
      refine by_ctr false (s_l2Shape_ctr k a0 x2 e6) (by simp (maxSteps := 10000000) [go_sem, h7, h7']) (by simp) ?_
      simp (maxSteps := 10000000) [go_sem, h7, h7']
      obtain rfl := Option.some.inj hM
      exact hK5 false _ rfl (Lift.into (by constructor <;> simp [go_sem, h7, h7']))
  · rintro x1 rfl
    have hM := hR3
    try dsimp only at hM
    obtain rfl := Option.some.inj hM
    refine AW_ret ?_
    simp (maxSteps := 10000000) [go_sem]
set_option maxHeartbeats 4000000 in
set_option maxRecDepth 100000 in
theorem s_ArgumentCount_ctr (a0 : ByteArray) (r : Int) (hM : s_ArgumentCount a0 = some r) : Ctr Try.prog 127 [.one (.str a0)] true [.one (.int .i64 r)] := by
  unfold s_ArgumentCount at hM
  refine Ctr.of_walk (by kernel_rfl) Try.func127 rfl Try.ntmps127 Try.results127 (by simp) ?_; intro N w0 hbad
  refine AW_seq fun K1 hK1 => ?_
  refine AW_region ?_
  simp (maxSteps := 10000000) [go_sem]
  refine hK1 _ ?_
  refine AW_seq fun K2 hK2 => ?_
  refine AW_seq fun K3 hK3 => ?_
  refine AW_region ?_
  simp (maxSteps := 10000000) [go_sem]
  refine hK3 _ ?_
  refine AW_block ?_
  refine AW_seq fun K4 hK4 => ?_
  refine AW_region ?_
  simp (maxSteps := 10000000) [go_sem]
  refine hK4 _ ?_
  refine AW_cond (b := (decide (a0 = (⟨#[99, 108, 111, 99, 107]⟩ : ByteArray)))) (by simp (maxSteps := 10000000) [go_sem]) (fun h5 => ?_) (fun h5 => ?_)
  · rw [if_pos h5] at hM
    have h5' := h5; try simp at h5'
    refine AW_seq fun K6 hK6 => ?_
    refine AW_region ?_
    simp (maxSteps := 10000000) [go_sem, h5, h5']
    refine hK6 _ ?_
    obtain rfl := Option.some.inj hM
    refine AW_ret ?_
    simp (maxSteps := 10000000) [go_sem, h5, h5']
  · rw [if_neg (ne_true h5)] at hM
    have h5' := h5; try simp at h5'
    obtain ⟨e7, hU9, hR8⟩ := bind_some hM; clear hM
    refine AW_mid (ι := Bool) (fun i => ⟨26, [(3, .one (.l (.str a0))), (6, .one (.l (.bool i)))], [], []⟩) (fun i => i = e7) ?_ ?_
    · intro K10 hK10
      have hM := hU9; clear hU9
      refine AW_seq fun K11 hK11 => ?_
      refine AW_region ?_
      simp (maxSteps := 10000000) [go_sem, h5, h5']
      refine hK11 _ ?_
      refine AW_cond (b := (decide (a0 = (⟨#[108, 101, 110]⟩ : ByteArray)))) (by simp (maxSteps := 10000000) [go_sem, h5, h5']) (fun h12 => ?_) (fun h12 => ?_)
      · rw [if_pos h12] at hM
        have h12' := h12; try simp at h12'
        refine AW_skip ?_
        obtain rfl := Option.some.inj hM
        exact hK10 true _ rfl (Lift.into (by constructor <;> simp [go_sem, h5, h5', h12, h12']))
      · rw [if_neg (ne_true h12)] at hM
        have h12' := h12; try simp at h12'
        refine AW_seq fun K13 hK13 => ?_
        refine AW_region ?_
        simp (maxSteps := 10000000) [go_sem, h5, h5', h12, h12']
        refine hK13 _ ?_
        refine AW_cond (b := (decide (a0 = (⟨#[115, 117, 109]⟩ : ByteArray)))) (by simp (maxSteps := 10000000) [go_sem, h5, h5', h12, h12']) (fun h14 => ?_) (fun h14 => ?_)
        · rw [if_pos h14] at hM
          have h14' := h14; try simp at h14'
          refine AW_skip ?_
          obtain rfl := Option.some.inj hM
          exact hK10 true _ rfl (Lift.into (by constructor <;> simp [go_sem, h5, h5', h12, h12', h14, h14']))
        · rw [if_neg (ne_true h14)] at hM
          have h14' := h14; try simp at h14'
          refine AW_seq fun K15 hK15 => ?_
          refine AW_region ?_
          simp (maxSteps := 10000000) [go_sem, h5, h5', h12, h12', h14, h14']
          refine hK15 _ ?_
          refine AW_cond (b := (decide (a0 = (⟨#[114, 111, 119, 115]⟩ : ByteArray)))) (by simp (maxSteps := 10000000) [go_sem, h5, h5', h12, h12', h14, h14']) (fun h16 => ?_) (fun h16 => ?_)
          · rw [if_pos h16] at hM
            have h16' := h16; try simp at h16'
            refine AW_skip ?_
            obtain rfl := Option.some.inj hM
            exact hK10 true _ rfl (Lift.into (by constructor <;> simp [go_sem, h5, h5', h12, h12', h14, h14', h16, h16']))
          · rw [if_neg (ne_true h16)] at hM
            have h16' := h16; try simp at h16'
            refine AW_seq fun K17 hK17 => ?_
            refine AW_region ?_
            simp (maxSteps := 10000000) [go_sem, h5, h5', h12, h12', h14, h14', h16, h16']
            refine hK17 _ ?_
            refine AW_cond (b := (decide (a0 = (⟨#[99, 104, 97, 110, 99, 101]⟩ : ByteArray)))) (by simp (maxSteps := 10000000) [go_sem, h5, h5', h12, h12', h14, h14', h16, h16']) (fun h18 => ?_) (fun h18 => ?_)
            · rw [if_pos h18] at hM
              have h18' := h18; try simp at h18'
              refine AW_skip ?_
              obtain rfl := Option.some.inj hM
              exact hK10 true _ rfl (Lift.into (by constructor <;> simp [go_sem, h5, h5', h12, h12', h14, h14', h16, h16', h18, h18']))
            · rw [if_neg (ne_true h18)] at hM
              have h18' := h18; try simp at h18'
              refine AW_region ?_
              simp (maxSteps := 10000000) [go_sem, h5, h5', h12, h12', h14, h14', h16, h16', h18, h18']
              obtain rfl := Option.some.inj hM
              exact hK10 (decide (a0 = (⟨#[102, 105, 108, 101]⟩ : ByteArray))) _ rfl (Lift.into (by constructor <;> simp [go_sem, h5, h5', h12, h12', h14, h14', h16, h16', h18, h18']))
    · rintro x1 rfl
      have hM := hR8
      try dsimp only at hM
      refine AW_cond (b := x1) (by simp (maxSteps := 10000000) [go_sem, h5, h5']) (fun h19 => ?_) (fun h19 => ?_)
      · rw [if_pos h19] at hM
        have h19' := h19; try simp at h19'
        refine AW_seq fun K20 hK20 => ?_
        refine AW_region ?_
        simp (maxSteps := 10000000) [go_sem, h5, h5', h19, h19']
        refine hK20 _ ?_
        obtain rfl := Option.some.inj hM
        refine AW_ret ?_
        simp (maxSteps := 10000000) [go_sem, h5, h5', h19, h19']
      · rw [if_neg (ne_true h19)] at hM
        have h19' := h19; try simp at h19'
        obtain ⟨e21, hU23, hR22⟩ := bind_some hM; clear hM
        refine AW_mid (ι := Bool) (fun i => ⟨26, [(3, .one (.l (.str a0))), (12, .one (.l (.bool i)))], [], []⟩) (fun i => i = e21) ?_ ?_
        · intro K24 hK24
          have hM := hU23; clear hU23
          refine AW_seq fun K25 hK25 => ?_
          refine AW_region ?_
          simp (maxSteps := 10000000) [go_sem, h5, h5', h19, h19']
          refine hK25 _ ?_
          refine AW_cond (b := (decide (a0 = (⟨#[116, 97, 107, 101]⟩ : ByteArray)))) (by simp (maxSteps := 10000000) [go_sem, h5, h5', h19, h19']) (fun h26 => ?_) (fun h26 => ?_)
          · rw [if_pos h26] at hM
            have h26' := h26; try simp at h26'
            refine AW_skip ?_
            obtain rfl := Option.some.inj hM
            exact hK24 true _ rfl (Lift.into (by constructor <;> simp [go_sem, h5, h5', h19, h19', h26, h26']))
          · rw [if_neg (ne_true h26)] at hM
            have h26' := h26; try simp at h26'
            refine AW_seq fun K27 hK27 => ?_
            refine AW_region ?_
            simp (maxSteps := 10000000) [go_sem, h5, h5', h19, h19', h26, h26']
            refine hK27 _ ?_
            refine AW_cond (b := (decide (a0 = (⟨#[115, 107, 105, 112]⟩ : ByteArray)))) (by simp (maxSteps := 10000000) [go_sem, h5, h5', h19, h19', h26, h26']) (fun h28 => ?_) (fun h28 => ?_)
            · rw [if_pos h28] at hM
              have h28' := h28; try simp at h28'
              refine AW_skip ?_
              obtain rfl := Option.some.inj hM
              exact hK24 true _ rfl (Lift.into (by constructor <;> simp [go_sem, h5, h5', h19, h19', h26, h26', h28, h28']))
            · rw [if_neg (ne_true h28)] at hM
              have h28' := h28; try simp at h28'
              refine AW_seq fun K29 hK29 => ?_
              refine AW_region ?_
              simp (maxSteps := 10000000) [go_sem, h5, h5', h19, h19', h26, h26', h28, h28']
              refine hK29 _ ?_
              refine AW_cond (b := (decide (a0 = (⟨#[114, 97, 110, 103, 101]⟩ : ByteArray)))) (by simp (maxSteps := 10000000) [go_sem, h5, h5', h19, h19', h26, h26', h28, h28']) (fun h30 => ?_) (fun h30 => ?_)
              · rw [if_pos h30] at hM
                have h30' := h30; try simp at h30'
                refine AW_skip ?_
                obtain rfl := Option.some.inj hM
                exact hK24 true _ rfl (Lift.into (by constructor <;> simp [go_sem, h5, h5', h19, h19', h26, h26', h28, h28', h30, h30']))
              · rw [if_neg (ne_true h30)] at hM
                have h30' := h30; try simp at h30'
                refine AW_seq fun K31 hK31 => ?_
                refine AW_region ?_
                simp (maxSteps := 10000000) [go_sem, h5, h5', h19, h19', h26, h26', h28, h28', h30, h30']
                refine hK31 _ ?_
                refine AW_cond (b := (decide (a0 = (⟨#[110, 116, 104]⟩ : ByteArray)))) (by simp (maxSteps := 10000000) [go_sem, h5, h5', h19, h19', h26, h26', h28, h28', h30, h30']) (fun h32 => ?_) (fun h32 => ?_)
                · rw [if_pos h32] at hM
                  have h32' := h32; try simp at h32'
                  refine AW_skip ?_
                  obtain rfl := Option.some.inj hM
                  exact hK24 true _ rfl (Lift.into (by constructor <;> simp [go_sem, h5, h5', h19, h19', h26, h26', h28, h28', h30, h30', h32, h32']))
                · rw [if_neg (ne_true h32)] at hM
                  have h32' := h32; try simp at h32'
                  refine AW_seq fun K33 hK33 => ?_
                  refine AW_region ?_
                  simp (maxSteps := 10000000) [go_sem, h5, h5', h19, h19', h26, h26', h28, h28', h30, h30', h32, h32']
                  refine hK33 _ ?_
                  refine AW_cond (b := (decide (a0 = (⟨#[107, 101, 101, 112]⟩ : ByteArray)))) (by simp (maxSteps := 10000000) [go_sem, h5, h5', h19, h19', h26, h26', h28, h28', h30, h30', h32, h32']) (fun h34 => ?_) (fun h34 => ?_)
                  · rw [if_pos h34] at hM
                    have h34' := h34; try simp at h34'
                    refine AW_skip ?_
                    obtain rfl := Option.some.inj hM
                    exact hK24 true _ rfl (Lift.into (by constructor <;> simp [go_sem, h5, h5', h19, h19', h26, h26', h28, h28', h30, h30', h32, h32', h34, h34']))
                  · rw [if_neg (ne_true h34)] at hM
                    have h34' := h34; try simp at h34'
                    refine AW_seq fun K35 hK35 => ?_
                    refine AW_region ?_
                    simp (maxSteps := 10000000) [go_sem, h5, h5', h19, h19', h26, h26', h28, h28', h30, h30', h32, h32', h34, h34']
                    refine hK35 _ ?_
                    refine AW_cond (b := (decide (a0 = (⟨#[99, 111, 108, 117, 109, 110]⟩ : ByteArray)))) (by simp (maxSteps := 10000000) [go_sem, h5, h5', h19, h19', h26, h26', h28, h28', h30, h30', h32, h32', h34, h34']) (fun h36 => ?_) (fun h36 => ?_)
                    · rw [if_pos h36] at hM
                      have h36' := h36; try simp at h36'
                      refine AW_skip ?_
                      obtain rfl := Option.some.inj hM
                      exact hK24 true _ rfl (Lift.into (by constructor <;> simp [go_sem, h5, h5', h19, h19', h26, h26', h28, h28', h30, h30', h32, h32', h34, h34', h36, h36']))
                    · rw [if_neg (ne_true h36)] at hM
                      have h36' := h36; try simp at h36'
                      refine AW_region ?_
                      simp (maxSteps := 10000000) [go_sem, h5, h5', h19, h19', h26, h26', h28, h28', h30, h30', h32, h32', h34, h34', h36, h36']
                      obtain rfl := Option.some.inj hM
                      exact hK24 (decide (a0 = (⟨#[116, 97, 98, 108, 101]⟩ : ByteArray))) _ rfl (Lift.into (by constructor <;> simp [go_sem, h5, h5', h19, h19', h26, h26', h28, h28', h30, h30', h32, h32', h34, h34', h36, h36']))
        · rintro x2 rfl
          have hM := hR22
          try dsimp only at hM
          refine AW_cond (b := x2) (by simp (maxSteps := 10000000) [go_sem, h5, h5', h19, h19']) (fun h37 => ?_) (fun h37 => ?_)
          · rw [if_pos h37] at hM
            have h37' := h37; try simp at h37'
            refine AW_seq fun K38 hK38 => ?_
            refine AW_region ?_
            simp (maxSteps := 10000000) [go_sem, h5, h5', h19, h19', h37, h37']
            refine hK38 _ ?_
            obtain rfl := Option.some.inj hM
            refine AW_ret ?_
            simp (maxSteps := 10000000) [go_sem, h5, h5', h19, h19', h37, h37']
          · rw [if_neg (ne_true h37)] at hM
            have h37' := h37; try simp at h37'
            obtain ⟨e39, hU41, hR40⟩ := bind_some hM; clear hM
            refine AW_mid (ι := Bool) (fun i => ⟨26, [(3, .one (.l (.str a0))), (20, .one (.l (.bool i)))], [], []⟩) (fun i => i = e39) ?_ ?_
            · intro K42 hK42
              have hM := hU41; clear hU41
              refine AW_seq fun K43 hK43 => ?_
              refine AW_region ?_
              simp (maxSteps := 10000000) [go_sem, h5, h5', h19, h19', h37, h37']
              refine hK43 _ ?_
              refine AW_cond (b := (decide (a0 = (⟨#[119, 104, 101, 114, 101]⟩ : ByteArray)))) (by simp (maxSteps := 10000000) [go_sem, h5, h5', h19, h19', h37, h37']) (fun h44 => ?_) (fun h44 => ?_)
              · rw [if_pos h44] at hM
                have h44' := h44; try simp at h44'
                refine AW_skip ?_
                obtain rfl := Option.some.inj hM
                exact hK42 true _ rfl (Lift.into (by constructor <;> simp [go_sem, h5, h5', h19, h19', h37, h37', h44, h44']))
              · rw [if_neg (ne_true h44)] at hM
                have h44' := h44; try simp at h44'
                refine AW_seq fun K45 hK45 => ?_
                refine AW_region ?_
                simp (maxSteps := 10000000) [go_sem, h5, h5', h19, h19', h37, h37', h44, h44']
                refine hK45 _ ?_
                refine AW_cond (b := (decide (a0 = (⟨#[103, 114, 111, 117, 112]⟩ : ByteArray)))) (by simp (maxSteps := 10000000) [go_sem, h5, h5', h19, h19', h37, h37', h44, h44']) (fun h46 => ?_) (fun h46 => ?_)
                · rw [if_pos h46] at hM
                  have h46' := h46; try simp at h46'
                  refine AW_skip ?_
                  obtain rfl := Option.some.inj hM
                  exact hK42 true _ rfl (Lift.into (by constructor <;> simp [go_sem, h5, h5', h19, h19', h37, h37', h44, h44', h46, h46']))
                · rw [if_neg (ne_true h46)] at hM
                  have h46' := h46; try simp at h46'
                  refine AW_region ?_
                  simp (maxSteps := 10000000) [go_sem, h5, h5', h19, h19', h37, h37', h44, h44', h46, h46']
                  obtain rfl := Option.some.inj hM
                  exact hK42 (decide (a0 = (⟨#[106, 111, 105, 110]⟩ : ByteArray))) _ rfl (Lift.into (by constructor <;> simp [go_sem, h5, h5', h19, h19', h37, h37', h44, h44', h46, h46']))
            · rintro x3 rfl
              have hM := hR40
              try dsimp only at hM
              refine AW_cond (b := x3) (by simp (maxSteps := 10000000) [go_sem, h5, h5', h19, h19', h37, h37']) (fun h47 => ?_) (fun h47 => ?_)
              · rw [if_pos h47] at hM
                have h47' := h47; try simp at h47'
                refine AW_seq fun K48 hK48 => ?_
                refine AW_region ?_
                simp (maxSteps := 10000000) [go_sem, h5, h5', h19, h19', h37, h37', h47, h47']
                refine hK48 _ ?_
                obtain rfl := Option.some.inj hM
                refine AW_ret ?_
                simp (maxSteps := 10000000) [go_sem, h5, h5', h19, h19', h37, h37', h47, h47']
              · rw [if_neg (ne_true h47)] at hM
                have h47' := h47; try simp at h47'
                refine AW_seq fun K49 hK49 => ?_
                refine AW_region ?_
                simp (maxSteps := 10000000) [go_sem, h5, h5', h19, h19', h37, h37', h47, h47']
                refine hK49 _ ?_
                refine AW_cond (b := (decide (a0 = (⟨#[97, 100, 100]⟩ : ByteArray)))) (by simp (maxSteps := 10000000) [go_sem, h5, h5', h19, h19', h37, h37', h47, h47']) (fun h50 => ?_) (fun h50 => ?_)
                · rw [if_pos h50] at hM
                  have h50' := h50; try simp at h50'
                  refine AW_seq fun K51 hK51 => ?_
                  refine AW_region ?_
                  simp (maxSteps := 10000000) [go_sem, h5, h5', h19, h19', h37, h37', h47, h47', h50, h50']
                  refine hK51 _ ?_
                  obtain rfl := Option.some.inj hM
                  refine AW_ret ?_
                  simp (maxSteps := 10000000) [go_sem, h5, h5', h19, h19', h37, h37', h47, h47', h50, h50']
                · rw [if_neg (ne_true h50)] at hM
                  have h50' := h50; try simp at h50'
                  refine AW_skip ?_
                  refine hK2 _ ?_
                  refine AW_seq fun K52 hK52 => ?_
                  refine AW_region ?_
                  simp (maxSteps := 10000000) [go_sem, h5, h5', h19, h19', h37, h37', h47, h47', h50, h50']
                  refine hK52 _ ?_
                  obtain rfl := Option.some.inj hM
                  refine AW_ret ?_
                  simp (maxSteps := 10000000) [go_sem, h5, h5', h19, h19', h37, h37', h47, h47', h50, h50']
end Go.Proofs.Ytopjlbifglacpaa
