/- Contracts of the program's functions: where the mirrored function answers, the program's function returns this answer. Written by a program of mine. -/
import Derived.Test.YtopjlbifglacpaaWn
import Derived.Test.YtopjlbifglacpaaMd
set_option linter.unusedSimpArgs false
set_option linter.unusedVariables false
namespace Go.Proofs.Ytopjlbifglacpaa
open Go.RowKit Am

set_option maxHeartbeats 4000000 in
set_option maxRecDepth 100000 in
theorem w_heldIntS_ctr (k : Nat) (a0 : List Int) (a1 : Int) (r : Int) (hM : w_heldIntS k a0 a1 = some r) : Ctr Try.prog 32 [.one (.sl (a0.map iC)), .one (.int .i64 a1)] true [.one (.int .i64 r)] := by
  unfold w_heldIntS at hM
  refine Ctr.of_walk (by kernel_rfl) Try.func32 rfl Try.ntmps32 Try.results32 (by simp) ?_; intro N w0 hbad
  refine AW_seq fun K1 hK1 => ?_
  refine AW_region ?_
  simp (maxSteps := 10000000) [go_sem]
  refine hK1 _ ?_
  obtain ⟨e2, hU4, hR3⟩ := bind_some hM; clear hM
  refine AW_mid (ι := Int) (fun i => ⟨21, [(1, .one (.l (.int .i64 i)))], [], []⟩) (fun i => (.inl i) = e2) ?_ ?_
  · intro K5 hK5
    have hM := hU4; clear hU4
    refine AW_seq fun K6 hK6 => ?_
    refine AW_region ?_
    simp (maxSteps := 10000000) [go_sem]
    refine hK6 _ ?_
    refine AW_block ?_
    refine AW_go (ι := Int × Int) (fun i => ⟨21, [(0, .one (.l (.sl (a0.map iC)))), (1, .one (.l (.int .i64 i.1))), (5, .one (.l (.int .i64 i.2)))], [], []⟩) (fun n i => w_heldIntS_u1 a0 n i.1 i.2 = some e2) k (a1, 0) hM (Lift.into (by constructor <;> simp [go_sem])) (fun _ h => by simp [w_heldIntS_u1] at h) ?_
    intro KL7 n ⟨x2, x3⟩ hL7 hM
    have hM : w_heldIntS_u1 a0 (n + 1) x2 x3 = some e2 := hM; rw [w_heldIntS_u1] at hM
    refine AW_seq fun K8 hK8 => ?_
    refine AW_seq fun K9 hK9 => ?_
    refine AW_region ?_
    simp (maxSteps := 10000000) [go_sem]
    refine hK9 _ ?_
    refine AW_cond (b := (decide (x3 < (a0.length : Int)))) (by simp (maxSteps := 10000000) [go_sem]) (fun h10 => ?_) (fun h10 => ?_)
    · rw [if_pos h10] at hM
      have h10' := h10; try simp at h10'
      have h10'' : ¬ ((a0.length : Int) ≤ x3) := by have := h10; simp at this; omega
      refine AW_skip ?_
      refine hK8 _ ?_
      refine AW_seq fun K11 hK11 => ?_
      refine AW_block ?_
      refine AW_seq fun K12 hK12 => ?_
      refine AW_seq fun K13 hK13 => ?_
      obtain ⟨x4, e14, hM⟩ := bind_some hM
      obtain ⟨p15, q16, l17, g18⟩ := at_spec e14
      refine AW_region ?_
      simp (maxSteps := 10000000) [go_sem, h10, h10', h10'', p15, q16, g18]
      refine hK13 _ ?_
      refine AW_cond (b := (!decide (x4 = x2))) (by simp (maxSteps := 10000000) [go_sem, h10, h10', h10'', p15, q16, g18]) (fun h19 => ?_) (fun h19 => ?_)
      · rw [if_pos h19] at hM
        have h19' := h19; try simp at h19'
        refine AW_seq fun K20 hK20 => ?_
        refine AW_region ?_
        simp (maxSteps := 10000000) [go_sem, h10, h10', h10'', p15, q16, g18, h19, h19']
        refine hK20 _ ?_
        obtain rfl := Option.some.inj hM
        have hM := hR3; dsimp only at hM
        obtain rfl := Option.some.inj hM
        refine AW_ret ?_
        simp (maxSteps := 10000000) [go_sem, h10, h10', h10'', p15, q16, g18, h19, h19']
      · rw [if_neg (ne_true h19)] at hM
        have h19' := h19; try simp at h19'
        refine AW_skip ?_
        refine hK12 _ ?_
        refine AW_region ?_
        simp (maxSteps := 10000000) [go_sem, h10, h10', h10'', p15, q16, g18, h19, h19']
        refine hK11 _ ?_
        refine AW_region ?_
        simp (maxSteps := 10000000) [go_sem, h10, h10', h10'', p15, q16, g18, h19, h19']
        exact hL7 ((IntKind.i64.wrap (x2 + 1)), (IntKind.i64.wrap (x3 + 1))) _ hM (Lift.into (by constructor <;> simp [go_sem, h10, h10', h10'', p15, q16, g18, h19, h19']))
    · rw [if_neg (ne_true h10)] at hM
      have h10' := h10; try simp at h10'
      have h10'' : ¬ (x3 < (a0.length : Int)) := by have := h10; simp at this; omega
      refine AW_exit ?_
      obtain rfl := Option.some.inj hM
      exact hK5 x2 _ rfl (Lift.into (by constructor <;> simp [go_sem, h10, h10', h10'']))
  · rintro x1 rfl
    have hM := hR3
    dsimp only at hM
    refine AW_seq fun K21 hK21 => ?_
    refine AW_region ?_
    simp (maxSteps := 10000000) [go_sem]
    refine hK21 _ ?_
    obtain rfl := Option.some.inj hM
    refine AW_ret ?_
    simp (maxSteps := 10000000) [go_sem]
set_option maxHeartbeats 4000000 in
set_option maxRecDepth 100000 in
theorem s_DiffViews_ctr (k : Nat) (a0 : List TLine) (a1 : List TLine) (r : TDiff) (hM : s_DiffViews k a0 a1 = some r) : Ctr Try.prog 33 [.one (.sl (a0.map TLine.c)), .one (.sl (a1.map TLine.c))] true [.agg (TDiff.c r)] := by
  unfold s_DiffViews at hM
  refine Ctr.of_walk (by kernel_rfl) Try.func33 rfl Try.ntmps33 Try.results33 (by simp) ?_; intro N w0 hbad
  refine AW_seq fun K1 hK1 => ?_
  refine AW_region ?_
  simp (maxSteps := 10000000) [go_sem]
  refine hK1 _ ?_
  refine AW_seq fun K2 hK2 => ?_
  refine AW_region ?_
  simp (maxSteps := 10000000) [go_sem]
  refine hK2 _ ?_
  obtain ⟨e3, hU5, hR4⟩ := bind_some hM; clear hM
  refine AW_mid (ι := List TChange) (fun i => ⟨43, [(4, .one (.box 4 0)), (5, .one (.box 5 0))], [(4, [.l (.int .i64 0), .nil]), (5, [.l (.int .i64 (a1.length : Int)), .own 2560 i.length])], [(2560, some ⟨true, i.map TChange.c⟩)]⟩) (fun i => i = e3) ?_ ?_
  · intro K6 hK6
    have hM := hU5; clear hU5
    refine AW_seq fun K7 hK7 => ?_
    refine AW_region ?_
    simp (maxSteps := 10000000) [go_sem]
    refine hK7 _ ?_
    refine AW_block ?_
    refine AW_go (ι := (List TChange) × Int) (fun i => ⟨43, [(0, .one (.l (.sl (a0.map TLine.c)))), (1, .one (.l (.sl (a1.map TLine.c)))), (4, .one (.box 4 0)), (5, .one (.box 5 0)), (6, .one (.l (.int .i64 i.2)))], [(4, [.l (.int .i64 0), .nil]), (5, [.l (.int .i64 (a1.length : Int)), .own 2560 i.1.length])], [(2560, some ⟨true, i.1.map TChange.c⟩)]⟩) (fun n i => s_DiffViews_u1 a0 a1 n i.1 i.2 = some e3) k ([], 0) hM (Lift.into (by constructor <;> simp [go_sem])) (fun _ h => by simp [s_DiffViews_u1] at h) ?_
    intro KL8 n ⟨x2, x3⟩ hL8 hM
    have hM : s_DiffViews_u1 a0 a1 (n + 1) x2 x3 = some e3 := hM; rw [s_DiffViews_u1] at hM
    refine AW_seq fun K9 hK9 => ?_
    refine AW_seq fun K10 hK10 => ?_
    refine AW_region ?_
    simp (maxSteps := 10000000) [go_sem]
    refine hK10 _ ?_
    refine AW_cond (b := (decide (x3 < (a1.length : Int)))) (by simp (maxSteps := 10000000) [go_sem]) (fun h11 => ?_) (fun h11 => ?_)
    · rw [if_pos h11] at hM
      have h11' := h11; try simp at h11'
      have h11'' : ¬ ((a1.length : Int) ≤ x3) := by have := h11; simp at this; omega
      refine AW_skip ?_
      refine hK9 _ ?_
      obtain ⟨e12, hU14, hR13⟩ := bind_some hM; clear hM
      refine AW_mid (ι := List TChange) (fun i => ⟨43, [(0, .one (.l (.sl (a0.map TLine.c)))), (1, .one (.l (.sl (a1.map TLine.c)))), (4, .one (.box 4 0)), (5, .one (.box 5 0)), (6, .one (.l (.int .i64 x3)))], [(4, [.l (.int .i64 0), .nil]), (5, [.l (.int .i64 (a1.length : Int)), .own 2560 i.length])], [(2560, some ⟨true, i.map TChange.c⟩)]⟩) (fun i => i = e12) ?_ ?_
      · intro K15 hK15
        have hM := hU14; clear hU14
        refine AW_block ?_
        obtain ⟨e16, hU18, hR17⟩ := bind_some hM; clear hM
        refine AW_mid (ι := Bool) (fun i => ⟨43, [(0, .one (.l (.sl (a0.map TLine.c)))), (1, .one (.l (.sl (a1.map TLine.c)))), (4, .one (.box 4 0)), (5, .one (.box 5 0)), (6, .one (.l (.int .i64 x3))), (30, .one (.l (.bool i)))], [(4, [.l (.int .i64 0), .nil]), (5, [.l (.int .i64 (a1.length : Int)), .own 2560 x2.length])], [(2560, some ⟨true, x2.map TChange.c⟩)]⟩) (fun i => i = e16) ?_ ?_
        · intro K19 hK19
          have hM := hU18; clear hU18
          by_cases h20 : (decide ((a0.length : Int) ≤ x3)) = true
          · rw [if_pos h20] at hM
            have h20' := h20; try simp at h20'
            have h20'' : ¬ (x3 < (a0.length : Int)) := by have := h20; simp at this; omega
            refine AW_quick [[], [], [1], [0, 1, 2], [0, 1, 2, 3], [0, 1, 2, 3, 4], [0, 1, 2, 3, 4], [0, 1, 2, 3, 4, 5, 6], [0, 1, 2, 3, 4, 5, 6, 7], [0, 1, 2, 3, 4], [0, 1, 2, 3, 4], [0, 1, 2, 3, 4, 9, 10], [0, 1, 2, 3, 4, 9, 10, 11], [0, 1, 2, 3, 4, 5, 6, 7, 8, 9, 10, 11, 12], [0, 1, 2, 3, 4, 5, 6, 7, 8, 9, 10, 11, 12, 13]] 13 mixed (by kernel_rfl) (by kernel_rfl) ?_
            simp (maxSteps := 10000000) [go_sem, h11, h11', h11'', h20, h20', h20'']
            obtain rfl := Option.some.inj hM
            exact hK19 true _ rfl (Lift.into (by constructor <;> simp [go_sem, h11, h11', h11'', h20, h20', h20'']))
          · rw [if_neg h20] at hM
            have h20 := Bool.eq_false_iff.2 h20
            have h20' := h20; try simp at h20'
            have h20'' : ¬ ((a0.length : Int) ≤ x3) := by have := h20; simp at this; omega
            obtain ⟨x6, e21, hM⟩ := bind_some hM
            obtain ⟨p22, q23, l24, g25⟩ := at_spec e21
            obtain ⟨x7, e26, hM⟩ := bind_some hM
            obtain ⟨p27, q28, l29, g30⟩ := at_spec e26
            refine AW_quick [[], [], [1], [0, 1, 2], [0, 1, 2, 3], [0, 1, 2, 3, 4], [0, 1, 2, 3, 4], [0, 1, 2, 3, 4, 5, 6], [0, 1, 2, 3, 4, 5, 6, 7], [0, 1, 2, 3, 4], [0, 1, 2, 3, 4], [0, 1, 2, 3, 4, 9, 10], [0, 1, 2, 3, 4, 9, 10, 11], [0, 1, 2, 3, 4, 5, 6, 7, 8, 9, 10, 11, 12], [0, 1, 2, 3, 4, 5, 6, 7, 8, 9, 10, 11, 12, 13]] 13 mixed (by kernel_rfl) (by kernel_rfl) ?_
            simp (maxSteps := 10000000) [go_sem, h11, h11', h11'', h20, h20', h20'', p22, q23, g25, p27, q28, g30]
            obtain rfl := Option.some.inj hM
            exact hK19 (!(decide (x6.cell = x7.cell) && ((x6.fresh == x7.fresh) && decide (x6.text = x7.text)))) _ rfl (Lift.into (by constructor <;> simp [go_sem, h11, h11', h11'', h20, h20', h20'', p22, q23, g25, p27, q28, g30]))
        · rintro x5 rfl
          have hM := hR17
          try dsimp only at hM
          refine AW_cond (b := x5) (by simp (maxSteps := 10000000) [go_sem, h11, h11', h11'']) (fun h31 => ?_) (fun h31 => ?_)
          · rw [if_pos h31] at hM
            have h31' := h31; try simp at h31'
            obtain ⟨x8, e32, hM⟩ := bind_some hM
            obtain ⟨p33, q34, l35, g36⟩ := at_spec e32
            obtain ⟨x9, e37, hM⟩ := bind_some hM
            obtain ⟨c38, s39, s40⟩ := app_spec e37
            subst c38
            try simp at s39
            try simp at s40
            refine AW_open [[], [0], [], [], [], [3, 4], [3, 4, 5], [2, 3, 4, 5, 6], [2, 3, 4, 5, 6, 7], [0, 1, 2, 3, 4, 5, 6, 7, 8], [0, 1, 2, 3, 4, 5, 6, 7, 8, 9], [0, 1, 2, 3, 4, 5, 6, 7, 8, 9, 10]] mixed (by kernel_rfl) ?_
            simp (maxSteps := 10000000) [go_sem, h11, h11', h11'', h31, h31', p33, q34, g36, s39, s40]
            obtain rfl := Option.some.inj hM
            exact hK15 (x2 ++ [(TChange.mk x3 x8)]) _ rfl (Lift.into (by constructor <;> simp [go_sem, h11, h11', h11'', h31, h31', p33, q34, g36, s39, s40]))
          · rw [if_neg (ne_true h31)] at hM
            have h31' := h31; try simp at h31'
            refine AW_skip ?_
            obtain rfl := Option.some.inj hM
            exact hK15 x2 _ rfl (Lift.into (by constructor <;> simp [go_sem, h11, h11', h11'', h31, h31']))
      · rintro x4 rfl
        have hM := hR13
        try dsimp only at hM
        refine AW_region ?_
        simp (maxSteps := 10000000) [go_sem, h11, h11', h11'']
        exact hL8 (x4, (IntKind.i64.wrap (x3 + 1))) _ hM (Lift.into (by constructor <;> simp [go_sem, h11, h11', h11'']))
    · rw [if_neg (ne_true h11)] at hM
      have h11' := h11; try simp at h11'
      have h11'' : ¬ (x3 < (a1.length : Int)) := by have := h11; simp at this; omega
      refine AW_exit ?_
      obtain rfl := Option.some.inj hM
      exact hK6 x2 _ rfl (Lift.into (by constructor <;> simp [go_sem, h11, h11', h11'']))
  · rintro x1 rfl
    have hM := hR4
    try dsimp only at hM
    refine AW_seq fun K41 hK41 => ?_
    refine AW_region ?_
    simp (maxSteps := 10000000) [go_sem]
    refine hK41 _ ?_
    obtain rfl := Option.some.inj hM
    refine AW_ret ?_
    simp (maxSteps := 10000000) [go_sem]
set_option maxHeartbeats 4000000 in
set_option maxRecDepth 100000 in
theorem i_DiffViews_ctr (k : Nat) (a0 : List TLine) (a1 : List TLine) (r : TDiff) (hM : i_DiffViews k a0 a1 = some r) : Ctr Try.prog 34 [.one (.sl (a0.map TLine.c)), .one (.sl (a1.map TLine.c))] true [.agg (TDiff.c r)] := by
  unfold i_DiffViews at hM
  refine Ctr.of_walk (by kernel_rfl) Try.func34 rfl Try.ntmps34 Try.results34 (by simp) ?_; intro N w0 hbad
  refine AW_seq fun K1 hK1 => ?_
  refine AW_region ?_
  simp (maxSteps := 10000000) [go_sem]
  refine hK1 _ ?_
  refine AW_seq fun K2 hK2 => ?_
  refine AW_region ?_
  simp (maxSteps := 10000000) [go_sem]
  refine hK2 _ ?_
  obtain ⟨e3, hU5, hR4⟩ := bind_some hM; clear hM
  refine AW_mid (ι := List TChange) (fun i => ⟨40, [(4, .one (.box 4 0)), (5, .one (.box 5 0))], [(4, [.l (.int .i64 0), .nil]), (5, [.l (.int .i64 (a1.length : Int)), .own 2304 i.length])], [(2304, some ⟨true, i.map TChange.c⟩)]⟩) (fun i => i = e3) ?_ ?_
  · intro K6 hK6
    have hM := hU5; clear hU5
    refine AW_seq fun K7 hK7 => ?_
    refine AW_region ?_
    simp (maxSteps := 10000000) [go_sem]
    refine hK7 _ ?_
    refine AW_block ?_
    refine AW_go (ι := (List TChange) × Int) (fun i => ⟨40, [(0, .one (.l (.sl (a0.map TLine.c)))), (4, .one (.box 4 0)), (5, .one (.box 5 0)), (11, .one (.l (.sl (a1.map TLine.c)))), (12, .one (.l (.int .i64 (a1.length : Int)))), (13, .one (.l (.int .i64 i.2)))], [(4, [.l (.int .i64 0), .nil]), (5, [.l (.int .i64 (a1.length : Int)), .own 2304 i.1.length])], [(2304, some ⟨true, i.1.map TChange.c⟩)]⟩) (fun n i => i_DiffViews_u1 a0 a1 n i.1 i.2 = some e3) k ([], 0) hM (Lift.into (by constructor <;> simp [go_sem])) (fun _ h => by simp [i_DiffViews_u1] at h) ?_
    intro KL8 n ⟨x2, x3⟩ hL8 hM
    have hM : i_DiffViews_u1 a0 a1 (n + 1) x2 x3 = some e3 := hM; rw [i_DiffViews_u1] at hM
    refine AW_seq fun K9 hK9 => ?_
    refine AW_region ?_
    simp (maxSteps := 10000000) [go_sem]
    refine hK9 _ ?_
    refine AW_seq fun K10 hK10 => ?_
    refine AW_cond (b := (decide (x3 < (a1.length : Int)))) (by simp (maxSteps := 10000000) [go_sem]) (fun h11 => ?_) (fun h11 => ?_)
    · rw [if_pos h11] at hM
      have h11' := h11; try simp at h11'
      have h11'' : ¬ ((a1.length : Int) ≤ x3) := by have := h11; simp at this; omega
      refine AW_skip ?_
      refine hK10 _ ?_
      obtain ⟨e12, hU14, hR13⟩ := bind_some hM; clear hM
      refine AW_mid (ι := List TChange) (fun i => ⟨40, [(0, .one (.l (.sl (a0.map TLine.c)))), (4, .one (.box 4 0)), (5, .one (.box 5 0)), (11, .one (.l (.sl (a1.map TLine.c)))), (12, .one (.l (.int .i64 (a1.length : Int)))), (13, .one (.l (.int .i64 x3)))], [(4, [.l (.int .i64 0), .nil]), (5, [.l (.int .i64 (a1.length : Int)), .own 2304 i.length])], [(2304, some ⟨true, i.map TChange.c⟩)]⟩) (fun i => i = e12) ?_ ?_
      · intro K15 hK15
        have hM := hU14; clear hU14
        refine AW_block ?_
        refine AW_seq fun K16 hK16 => ?_
        obtain ⟨x5, e17, hM⟩ := bind_some hM
        obtain ⟨p18, q19, l20, g21⟩ := at_spec e17
        refine AW_region ?_
        simp (maxSteps := 10000000) [go_sem, h11, h11', h11'', p18, q19, g21]
        refine hK16 _ ?_
        obtain ⟨e22, hU24, hR23⟩ := bind_some hM; clear hM
        refine AW_mid (ι := Bool) (fun i => ⟨40, [(0, .one (.l (.sl (a0.map TLine.c)))), (4, .one (.box 4 0)), (5, .one (.box 5 0)), (6, .one (.l (.int .i64 x3))), (7, .one (.box 7 0)), (11, .one (.l (.sl (a1.map TLine.c)))), (12, .one (.l (.int .i64 (a1.length : Int)))), (13, .one (.l (.int .i64 x3))), (29, .one (.l (.bool i)))], [(4, [.l (.int .i64 0), .nil]), (5, [.l (.int .i64 (a1.length : Int)), .own 2304 x2.length]), (7, [.l (.int .i64 x5.cell), .l (.bool x5.fresh), .l (.str x5.text)])], [(2304, some ⟨true, x2.map TChange.c⟩)]⟩) (fun i => i = e22) ?_ ?_
        · intro K25 hK25
          have hM := hU24; clear hU24
          by_cases h26 : (decide ((a0.length : Int) ≤ x3)) = true
          · rw [if_pos h26] at hM
            have h26' := h26; try simp at h26'
            have h26'' : ¬ (x3 < (a0.length : Int)) := by have := h26; simp at this; omega
            refine AW_quick [[], [], [1], [0, 1, 2], [0, 1, 2, 3], [0, 1, 2, 3, 4], [0, 1, 2, 3, 4], [0, 1, 2, 3, 4, 5, 6], [0, 1, 2, 3, 4, 5, 6, 7], [0, 1, 2, 3, 4], [0, 1, 2, 3, 4, 5, 6, 7, 8, 9], [0, 1, 2, 3, 4, 5, 6, 7, 8, 9, 10]] 10 mixed (by kernel_rfl) (by kernel_rfl) ?_
            simp (maxSteps := 10000000) [go_sem, h11, h11', h11'', p18, q19, g21, h26, h26', h26'']
            obtain rfl := Option.some.inj hM
            exact hK25 true _ rfl (Lift.into (by constructor <;> simp [go_sem, h11, h11', h11'', p18, q19, g21, h26, h26', h26'']))
          · rw [if_neg h26] at hM
            have h26 := Bool.eq_false_iff.2 h26
            have h26' := h26; try simp at h26'
            have h26'' : ¬ ((a0.length : Int) ≤ x3) := by have := h26; simp at this; omega
            obtain ⟨x7, e27, hM⟩ := bind_some hM
            obtain ⟨p28, q29, l30, g31⟩ := at_spec e27
            refine AW_quick [[], [], [1], [0, 1, 2], [0, 1, 2, 3], [0, 1, 2, 3, 4], [0, 1, 2, 3, 4], [0, 1, 2, 3, 4, 5, 6], [0, 1, 2, 3, 4, 5, 6, 7], [0, 1, 2, 3, 4], [0, 1, 2, 3, 4, 5, 6, 7, 8, 9], [0, 1, 2, 3, 4, 5, 6, 7, 8, 9, 10]] 10 mixed (by kernel_rfl) (by kernel_rfl) ?_
            simp (maxSteps := 10000000) [go_sem, h11, h11', h11'', p18, q19, g21, h26, h26', h26'', p28, q29, g31]
            obtain rfl := Option.some.inj hM
            exact hK25 (!(decide (x7.cell = x5.cell) && ((x7.fresh == x5.fresh) && decide (x7.text = x5.text)))) _ rfl (Lift.into (by constructor <;> simp [go_sem, h11, h11', h11'', p18, q19, g21, h26, h26', h26'', p28, q29, g31]))
        · rintro x6 rfl
          have hM := hR23
          try dsimp only at hM
          refine AW_cond (b := x6) (by simp (maxSteps := 10000000) [go_sem, h11, h11', h11'', p18, q19, g21]) (fun h32 => ?_) (fun h32 => ?_)
          · rw [if_pos h32] at hM
            have h32' := h32; try simp at h32'
            obtain ⟨x8, e33, hM⟩ := bind_some hM
            obtain ⟨c34, s35, s36⟩ := app_spec e33
            subst c34
            try simp at s35
            try simp at s36
            refine AW_region ?_
            simp (maxSteps := 10000000) [go_sem, h11, h11', h11'', p18, q19, g21, h32, h32', s35, s36]
            obtain rfl := Option.some.inj hM
            exact hK15 (x2 ++ [(TChange.mk x3 x5)]) _ rfl (Lift.into (by constructor <;> simp [go_sem, h11, h11', h11'', p18, q19, g21, h32, h32', s35, s36]))
          · rw [if_neg (ne_true h32)] at hM
            have h32' := h32; try simp at h32'
            refine AW_skip ?_
            obtain rfl := Option.some.inj hM
            exact hK15 x2 _ rfl (Lift.into (by constructor <;> simp [go_sem, h11, h11', h11'', p18, q19, g21, h32, h32']))
      · rintro x4 rfl
        have hM := hR13
        try dsimp only at hM
        refine AW_region ?_
        simp (maxSteps := 10000000) [go_sem, h11, h11', h11'']
        exact hL8 (x4, (IntKind.i64.wrap (x3 + 1))) _ hM (Lift.into (by constructor <;> simp [go_sem, h11, h11', h11'']))
    · rw [if_neg (ne_true h11)] at hM
      have h11' := h11; try simp at h11'
      have h11'' : ¬ (x3 < (a1.length : Int)) := by have := h11; simp at this; omega
      refine AW_exit ?_
      obtain rfl := Option.some.inj hM
      exact hK6 x2 _ rfl (Lift.into (by constructor <;> simp [go_sem, h11, h11', h11'']))
  · rintro x1 rfl
    have hM := hR4
    try dsimp only at hM
    refine AW_seq fun K37 hK37 => ?_
    refine AW_region ?_
    simp (maxSteps := 10000000) [go_sem]
    refine hK37 _ ?_
    obtain rfl := Option.some.inj hM
    refine AW_ret ?_
    simp (maxSteps := 10000000) [go_sem]
set_option maxHeartbeats 4000000 in
set_option maxRecDepth 100000 in
theorem w_szCell_ctr (a0 : TCell) (a1 : Int) (r : Int) (hM : w_szCell a0 a1 = some r) : Ctr Try.prog 110 [.agg (TCell.c a0), .one (.int .i64 a1)] true [.one (.int .i64 r)] := by
  unfold w_szCell at hM
  refine Ctr.of_walk (by kernel_rfl) Try.func110 rfl Try.ntmps110 Try.results110 (by simp) ?_; intro N w0 hbad
  refine AW_seq fun K1 hK1 => ?_
  refine AW_region ?_
  simp (maxSteps := 10000000) [go_sem]
  refine hK1 _ ?_
  refine AW_seq fun K2 hK2 => ?_
  refine AW_region ?_
  simp (maxSteps := 10000000) [go_sem]
  refine hK2 _ ?_
  refine AW_seq fun K3 hK3 => ?_
  refine AW_seq fun K4 hK4 => ?_
  refine AW_region ?_
  simp (maxSteps := 10000000) [go_sem]
  refine hK4 _ ?_
  refine AW_cond (b := (decide ((IntKind.i64.wrap (a1 - (a0.name.size : Int))) < 0))) (by simp (maxSteps := 10000000) [go_sem]) (fun h5 => ?_) (fun h5 => ?_)
  · rw [if_pos h5] at hM
    have h5' := h5; try simp at h5'
    have h5'' : ¬ (0 ≤ (IntKind.i64.wrap (a1 - (a0.name.size : Int)))) := by have := h5; simp at this; omega
    refine AW_seq fun K6 hK6 => ?_
    refine AW_region ?_
    simp (maxSteps := 10000000) [go_sem, h5, h5', h5'']
    refine hK6 _ ?_
    obtain rfl := Option.some.inj hM
    refine AW_ret ?_
    simp (maxSteps := 10000000) [go_sem, h5, h5', h5'']
  · rw [if_neg (ne_true h5)] at hM
    have h5' := h5; try simp at h5'
    have h5'' : ¬ ((IntKind.i64.wrap (a1 - (a0.name.size : Int))) < 0) := by have := h5; simp at this; omega
    refine AW_skip ?_
    refine hK3 _ ?_
    refine AW_seq fun K7 hK7 => ?_
    refine AW_region ?_
    simp (maxSteps := 10000000) [go_sem, h5, h5', h5'']
    refine hK7 _ ?_
    refine AW_seq fun K8 hK8 => ?_
    refine AW_seq fun K9 hK9 => ?_
    refine AW_region ?_
    simp (maxSteps := 10000000) [go_sem, h5, h5', h5'']
    refine hK9 _ ?_
    refine AW_cond (b := (decide ((IntKind.i64.wrap ((IntKind.i64.wrap (a1 - (a0.name.size : Int))) - (a0.code.size : Int))) < 0))) (by simp (maxSteps := 10000000) [go_sem, h5, h5', h5'']) (fun h10 => ?_) (fun h10 => ?_)
    · rw [if_pos h10] at hM
      have h10' := h10; try simp at h10'
      have h10'' : ¬ (0 ≤ (IntKind.i64.wrap ((IntKind.i64.wrap (a1 - (a0.name.size : Int))) - (a0.code.size : Int)))) := by have := h10; simp at this; omega
      refine AW_seq fun K11 hK11 => ?_
      refine AW_region ?_
      simp (maxSteps := 10000000) [go_sem, h5, h5', h5'', h10, h10', h10'']
      refine hK11 _ ?_
      obtain rfl := Option.some.inj hM
      refine AW_ret ?_
      simp (maxSteps := 10000000) [go_sem, h5, h5', h5'', h10, h10', h10'']
    · rw [if_neg (ne_true h10)] at hM
      have h10' := h10; try simp at h10'
      have h10'' : ¬ ((IntKind.i64.wrap ((IntKind.i64.wrap (a1 - (a0.name.size : Int))) - (a0.code.size : Int))) < 0) := by have := h10; simp at this; omega
      refine AW_skip ?_
      refine hK8 _ ?_
      refine AW_seq fun K12 hK12 => ?_
      refine AW_region ?_
      simp (maxSteps := 10000000) [go_sem, h5, h5', h5'', h10, h10', h10'']
      refine hK12 _ ?_
      obtain rfl := Option.some.inj hM
      refine AW_ret ?_
      simp (maxSteps := 10000000) [go_sem, h5, h5', h5'', h10, h10', h10'']
set_option maxHeartbeats 4000000 in
set_option maxRecDepth 100000 in
theorem w_szCellS_ctr (k : Nat) (a0 : List TCell) (a1 : Int) (r : Int) (hM : w_szCellS k a0 a1 = some r) : Ctr Try.prog 72 [.one (.sl (a0.map TCell.c)), .one (.int .i64 a1)] true [.one (.int .i64 r)] := by
  unfold w_szCellS at hM
  refine Ctr.of_walk (by kernel_rfl) Try.func72 rfl Try.ntmps72 Try.results72 (by simp) ?_; intro N w0 hbad
  refine AW_seq fun K1 hK1 => ?_
  refine AW_region ?_
  simp (maxSteps := 10000000) [go_sem]
  refine hK1 _ ?_
  refine AW_seq fun K2 hK2 => ?_
  refine AW_region ?_
  simp (maxSteps := 10000000) [go_sem]
  refine hK2 _ ?_
  refine AW_seq fun K3 hK3 => ?_
  refine AW_seq fun K4 hK4 => ?_
  refine AW_region ?_
  simp (maxSteps := 10000000) [go_sem]
  refine hK4 _ ?_
  refine AW_cond (b := (decide ((IntKind.i64.wrap (a1 - (a0.length : Int))) < 0))) (by simp (maxSteps := 10000000) [go_sem]) (fun h5 => ?_) (fun h5 => ?_)
  · rw [if_pos h5] at hM
    have h5' := h5; try simp at h5'
    have h5'' : ¬ (0 ≤ (IntKind.i64.wrap (a1 - (a0.length : Int)))) := by have := h5; simp at this; omega
    refine AW_seq fun K6 hK6 => ?_
    refine AW_region ?_
    simp (maxSteps := 10000000) [go_sem, h5, h5', h5'']
    refine hK6 _ ?_
    obtain rfl := Option.some.inj hM
    refine AW_ret ?_
    simp (maxSteps := 10000000) [go_sem, h5, h5', h5'']
  · rw [if_neg (ne_true h5)] at hM
    have h5' := h5; try simp at h5'
    have h5'' : ¬ ((IntKind.i64.wrap (a1 - (a0.length : Int))) < 0) := by have := h5; simp at this; omega
    refine AW_skip ?_
    refine hK3 _ ?_
    obtain ⟨e7, hU9, hR8⟩ := bind_some hM; clear hM
    refine AW_mid (ι := Int) (fun i => ⟨27, [(1, .one (.l (.int .i64 i)))], [], []⟩) (fun i => (.inl i) = e7) ?_ ?_
    · intro K10 hK10
      have hM := hU9; clear hU9
      refine AW_seq fun K11 hK11 => ?_
      refine AW_region ?_
      simp (maxSteps := 10000000) [go_sem, h5, h5', h5'']
      refine hK11 _ ?_
      refine AW_block ?_
      refine AW_go (ι := Int × Int) (fun i => ⟨27, [(0, .one (.l (.sl (a0.map TCell.c)))), (1, .one (.l (.int .i64 i.1))), (5, .one (.l (.int .i64 i.2)))], [], []⟩) (fun n i => w_szCellS_u1 a0 n i.1 i.2 = some e7) k ((IntKind.i64.wrap (a1 - (a0.length : Int))), 0) hM (Lift.into (by constructor <;> simp [go_sem, h5, h5', h5''])) (fun _ h => by simp [w_szCellS_u1] at h) ?_
      intro KL12 n ⟨x2, x3⟩ hL12 hM
      have hM : w_szCellS_u1 a0 (n + 1) x2 x3 = some e7 := hM; rw [w_szCellS_u1] at hM
      refine AW_seq fun K13 hK13 => ?_
      refine AW_seq fun K14 hK14 => ?_
      refine AW_region ?_
      simp (maxSteps := 10000000) [go_sem]
      refine hK14 _ ?_
      refine AW_cond (b := (decide (x3 < (a0.length : Int)))) (by simp (maxSteps := 10000000) [go_sem]) (fun h15 => ?_) (fun h15 => ?_)
      · rw [if_pos h15] at hM
        have h15' := h15; try simp at h15'
        have h15'' : ¬ ((a0.length : Int) ≤ x3) := by have := h15; simp at this; omega
        refine AW_skip ?_
        refine hK13 _ ?_
        refine AW_seq fun K16 hK16 => ?_
        refine AW_block ?_
        refine AW_seq fun K17 hK17 => ?_
        obtain ⟨x4, e18, hM⟩ := bind_some hM
        obtain ⟨p19, q20, l21, g22⟩ := at_spec e18
        obtain ⟨x5, e23, hM⟩ := bind_some hM
        refine AW_region ?_
        simp (maxSteps := 10000000) [go_sem, h15, h15', h15'', p19, q20, g22]
        refine by_ctr false (w_szCell_ctr x4 x2 x5 e23) (by simp (maxSteps := 10000000) [go_sem, h15, h15', h15'', p19, q20, g22]) (by simp) ?_
        simp (maxSteps := 10000000) [go_sem, h15, h15', h15'', p19, q20, g22]
        refine hK17 _ ?_
        refine AW_seq fun K24 hK24 => ?_
        refine AW_region ?_
        simp (maxSteps := 10000000) [go_sem, h15, h15', h15'', p19, q20, g22]
        refine hK24 _ ?_
        refine AW_cond (b := (decide (x5 < 0))) (by simp (maxSteps := 10000000) [go_sem, h15, h15', h15'', p19, q20, g22]) (fun h25 => ?_) (fun h25 => ?_)
        · rw [if_pos h25] at hM
          have h25' := h25; try simp at h25'
          have h25'' : ¬ (0 ≤ x5) := by have := h25; simp at this; omega
          refine AW_seq fun K26 hK26 => ?_
          refine AW_region ?_
          simp (maxSteps := 10000000) [go_sem, h15, h15', h15'', p19, q20, g22, h25, h25', h25'']
          refine hK26 _ ?_
          obtain rfl := Option.some.inj hM
          have hM := hR8; dsimp only at hM
          obtain rfl := Option.some.inj hM
          refine AW_ret ?_
          simp (maxSteps := 10000000) [go_sem, h15, h15', h15'', p19, q20, g22, h25, h25', h25'']
        · rw [if_neg (ne_true h25)] at hM
          have h25' := h25; try simp at h25'
          have h25'' : ¬ (x5 < 0) := by have := h25; simp at this; omega
          refine AW_skip ?_
          refine hK16 _ ?_
          refine AW_region ?_
          simp (maxSteps := 10000000) [go_sem, h15, h15', h15'', p19, q20, g22, h25, h25', h25'']
          exact hL12 (x5, (IntKind.i64.wrap (x3 + 1))) _ hM (Lift.into (by constructor <;> simp [go_sem, h15, h15', h15'', p19, q20, g22, h25, h25', h25'']))
      · rw [if_neg (ne_true h15)] at hM
        have h15' := h15; try simp at h15'
        have h15'' : ¬ (x3 < (a0.length : Int)) := by have := h15; simp at this; omega
        refine AW_exit ?_
        obtain rfl := Option.some.inj hM
        exact hK10 x2 _ rfl (Lift.into (by constructor <;> simp [go_sem, h15, h15', h15'']))
    · rintro x1 rfl
      have hM := hR8
      dsimp only at hM
      refine AW_seq fun K27 hK27 => ?_
      refine AW_region ?_
      simp (maxSteps := 10000000) [go_sem, h5, h5', h5'']
      refine hK27 _ ?_
      obtain rfl := Option.some.inj hM
      refine AW_ret ?_
      simp (maxSteps := 10000000) [go_sem, h5, h5', h5'']
set_option maxHeartbeats 4000000 in
set_option maxRecDepth 100000 in
theorem w_szNotebook_ctr (k : Nat) (a0 : TNotebook) (a1 : Int) (r : Int) (hM : w_szNotebook k a0 a1 = some r) : Ctr Try.prog 37 [.agg (TNotebook.c a0), .one (.int .i64 a1)] true [.one (.int .i64 r)] := by
  unfold w_szNotebook at hM
  refine Ctr.of_walk (by kernel_rfl) Try.func37 rfl Try.ntmps37 Try.results37 (by simp) ?_; intro N w0 hbad
  refine AW_seq fun K1 hK1 => ?_
  refine AW_region ?_
  simp (maxSteps := 10000000) [go_sem]
  refine hK1 _ ?_
  refine AW_seq fun K2 hK2 => ?_
  obtain ⟨x1, e3, hM⟩ := bind_some hM
  refine AW_region ?_
  simp (maxSteps := 10000000) [go_sem]
  refine by_ctr false (w_szCellS_ctr k a0.cells a1 x1 e3) (by simp (maxSteps := 10000000) [go_sem]) (by simp) ?_
  simp (maxSteps := 10000000) [go_sem]
  refine hK2 _ ?_
  refine AW_seq fun K4 hK4 => ?_
  refine AW_seq fun K5 hK5 => ?_
  refine AW_region ?_
  simp (maxSteps := 10000000) [go_sem]
  refine hK5 _ ?_
  refine AW_cond (b := (decide (x1 < 0))) (by simp (maxSteps := 10000000) [go_sem]) (fun h6 => ?_) (fun h6 => ?_)
  · rw [if_pos h6] at hM
    have h6' := h6; try simp at h6'
    have h6'' : ¬ (0 ≤ x1) := by have := h6; simp at this; omega
    refine AW_seq fun K7 hK7 => ?_
    refine AW_region ?_
    simp (maxSteps := 10000000) [go_sem, h6, h6', h6'']
    refine hK7 _ ?_
    obtain rfl := Option.some.inj hM
    refine AW_ret ?_
    simp (maxSteps := 10000000) [go_sem, h6, h6', h6'']
  · rw [if_neg (ne_true h6)] at hM
    have h6' := h6; try simp at h6'
    have h6'' : ¬ (x1 < 0) := by have := h6; simp at this; omega
    refine AW_skip ?_
    refine hK4 _ ?_
    refine AW_seq fun K8 hK8 => ?_
    refine AW_region ?_
    simp (maxSteps := 10000000) [go_sem, h6, h6', h6'']
    refine hK8 _ ?_
    obtain rfl := Option.some.inj hM
    refine AW_ret ?_
    simp (maxSteps := 10000000) [go_sem, h6, h6', h6'']
set_option maxHeartbeats 4000000 in
set_option maxRecDepth 100000 in
theorem w_toCell_ctr (a0 : TCell) (r : TCell) (hM : w_toCell a0 = some r) : Ctr Try.prog 111 [.agg (TCell.c a0)] true [.agg (TCell.c r)] := by
  unfold w_toCell at hM
  refine Ctr.of_walk (by kernel_rfl) Try.func111 rfl Try.ntmps111 Try.results111 (by simp) ?_; intro N w0 hbad
  refine AW_seq fun K1 hK1 => ?_
  refine AW_region ?_
  simp (maxSteps := 10000000) [go_sem]
  refine hK1 _ ?_
  refine AW_seq fun K2 hK2 => ?_
  refine AW_region ?_
  simp (maxSteps := 10000000) [go_sem]
  refine hK2 _ ?_
  refine AW_seq fun K3 hK3 => ?_
  refine AW_region ?_
  simp (maxSteps := 10000000) [go_sem]
  refine hK3 _ ?_
  refine AW_seq fun K4 hK4 => ?_
  refine AW_region ?_
  simp (maxSteps := 10000000) [go_sem]
  refine hK4 _ ?_
  refine AW_seq fun K5 hK5 => ?_
  refine AW_region ?_
  simp (maxSteps := 10000000) [go_sem]
  refine hK5 _ ?_
  refine AW_seq fun K6 hK6 => ?_
  refine AW_region ?_
  simp (maxSteps := 10000000) [go_sem]
  refine hK6 _ ?_
  refine AW_seq fun K7 hK7 => ?_
  refine AW_region ?_
  simp (maxSteps := 10000000) [go_sem]
  refine hK7 _ ?_
  refine AW_seq fun K8 hK8 => ?_
  refine AW_region ?_
  simp (maxSteps := 10000000) [go_sem]
  refine hK8 _ ?_
  refine AW_seq fun K9 hK9 => ?_
  refine AW_region ?_
  simp (maxSteps := 10000000) [go_sem]
  refine hK9 _ ?_
  obtain rfl := Option.some.inj hM
  refine AW_ret ?_
  simp (maxSteps := 10000000) [go_sem]
set_option maxHeartbeats 4000000 in
set_option maxRecDepth 100000 in
theorem w_toCellS_ctr (k : Nat) (a0 : List TCell) (r : List TCell) (hM : w_toCellS k a0 = some r) : Ctr Try.prog 74 [.one (.sl (a0.map TCell.c))] true [.one (.sl (r.map TCell.c))] := by
  unfold w_toCellS at hM
  refine Ctr.of_walk (by kernel_rfl) Try.func74 rfl Try.ntmps74 Try.results74 (by simp) ?_; intro N w0 hbad
  refine AW_seq fun K1 hK1 => ?_
  refine AW_region ?_
  simp (maxSteps := 10000000) [go_sem]
  refine hK1 _ ?_
  refine AW_seq fun K2 hK2 => ?_
  obtain ⟨x1, e3, hM⟩ := bind_some hM
  obtain ⟨c4, s5, s6, s7⟩ := mk_spec e3
  subst c4
  try simp at s5
  try simp at s6
  try simp at s7
  refine AW_region ?_
  simp (maxSteps := 10000000) [go_sem, s5, s6, s7]
  refine hK2 _ ?_
  obtain ⟨e8, hU10, hR9⟩ := bind_some hM; clear hM
  refine AW_mid (ι := List TCell) (fun i => ⟨23, [(3, .one (.own 448 i.length))], [], [(448, some ⟨true, i.map TCell.c⟩)]⟩) (fun i => i = e8) ?_ ?_
  · intro K11 hK11
    have hM := hU10; clear hU10
    refine AW_seq fun K12 hK12 => ?_
    refine AW_region ?_
    simp (maxSteps := 10000000) [go_sem, s5, s6, s7]
    refine hK12 _ ?_
    refine AW_block ?_
    refine AW_go (ι := (List TCell) × Int) (fun i => ⟨23, [(0, .one (.l (.sl (a0.map TCell.c)))), (3, .one (.own 448 i.1.length)), (4, .one (.l (.int .i64 i.2)))], [], [(448, some ⟨true, i.1.map TCell.c⟩)]⟩) (fun n i => w_toCellS_u1 a0 n i.1 i.2 = some e8) k ((List.replicate ((a0.length : Int).toNat) (TCell.mk 0 0 0 (⟨#[]⟩ : ByteArray) (⟨#[]⟩ : ByteArray) 0)), 0) hM (Lift.into (by constructor <;> simp [go_sem, s5, s6, s7])) (fun _ h => by simp [w_toCellS_u1] at h) ?_
    intro KL13 n ⟨x3, x4⟩ hL13 hM
    have hM : w_toCellS_u1 a0 (n + 1) x3 x4 = some e8 := hM; rw [w_toCellS_u1] at hM
    refine AW_seq fun K14 hK14 => ?_
    refine AW_seq fun K15 hK15 => ?_
    refine AW_region ?_
    simp (maxSteps := 10000000) [go_sem]
    refine hK15 _ ?_
    refine AW_cond (b := (decide (x4 < (a0.length : Int)))) (by simp (maxSteps := 10000000) [go_sem]) (fun h16 => ?_) (fun h16 => ?_)
    · rw [if_pos h16] at hM
      have h16' := h16; try simp at h16'
      have h16'' : ¬ ((a0.length : Int) ≤ x4) := by have := h16; simp at this; omega
      refine AW_skip ?_
      refine hK14 _ ?_
      refine AW_seq fun K17 hK17 => ?_
      refine AW_block ?_
      obtain ⟨x5, e18, hM⟩ := bind_some hM
      obtain ⟨p19, q20, l21, g22⟩ := at_spec e18
      obtain ⟨x6, e23, hM⟩ := bind_some hM
      obtain ⟨x7, e24, hM⟩ := bind_some hM
      obtain ⟨p25, q26, l27, g28⟩ := at_spec e24
      refine AW_region ?_
      simp (maxSteps := 10000000) [go_sem, h16, h16', h16'', p19, q20, g22, p25, q26, g28, l27]
      refine by_ctr false (w_toCell_ctr x5 x6 e23) (by simp (maxSteps := 10000000) [go_sem, h16, h16', h16'', p19, q20, g22, p25, q26, g28, l27]) (by simp) ?_
      simp (maxSteps := 10000000) [go_sem, h16, h16', h16'', p19, q20, g22, p25, q26, g28, l27]
      refine hK17 _ ?_
      refine AW_region ?_
      simp (maxSteps := 10000000) [go_sem, h16, h16', h16'', p19, q20, g22, p25, q26, g28, l27]
      exact hL13 ((x3.set x4.toNat x6), (IntKind.i64.wrap (x4 + 1))) _ hM (Lift.into (by constructor <;> simp [go_sem, h16, h16', h16'', p19, q20, g22, p25, q26, g28, l27]))
    · rw [if_neg (ne_true h16)] at hM
      have h16' := h16; try simp at h16'
      have h16'' : ¬ (x4 < (a0.length : Int)) := by have := h16; simp at this; omega
      refine AW_exit ?_
      obtain rfl := Option.some.inj hM
      exact hK11 x3 _ rfl (Lift.into (by constructor <;> simp [go_sem, h16, h16', h16'']))
  · rintro x2 rfl
    have hM := hR9
    try dsimp only at hM
    refine AW_seq fun K29 hK29 => ?_
    refine AW_region ?_
    simp (maxSteps := 10000000) [go_sem, s5, s6, s7]
    refine hK29 _ ?_
    obtain rfl := Option.some.inj hM
    refine AW_ret ?_
    simp (maxSteps := 10000000) [go_sem, s5, s6, s7]
set_option maxHeartbeats 4000000 in
set_option maxRecDepth 100000 in
theorem w_toNotebook_ctr (k : Nat) (a0 : TNotebook) (r : TNotebook) (hM : w_toNotebook k a0 = some r) : Ctr Try.prog 39 [.agg (TNotebook.c a0)] true [.agg (TNotebook.c r)] := by
  unfold w_toNotebook at hM
  refine Ctr.of_walk (by kernel_rfl) Try.func39 rfl Try.ntmps39 Try.results39 (by simp) ?_; intro N w0 hbad
  refine AW_seq fun K1 hK1 => ?_
  refine AW_region ?_
  simp (maxSteps := 10000000) [go_sem]
  refine hK1 _ ?_
  refine AW_seq fun K2 hK2 => ?_
  refine AW_region ?_
  simp (maxSteps := 10000000) [go_sem]
  refine hK2 _ ?_
  refine AW_seq fun K3 hK3 => ?_
  obtain ⟨x1, e4, hM⟩ := bind_some hM
  refine AW_region ?_
  simp (maxSteps := 10000000) [go_sem]
  refine by_ctr false (w_toCellS_ctr k a0.cells x1 e4) (by simp (maxSteps := 10000000) [go_sem]) (by simp) ?_
  simp (maxSteps := 10000000) [go_sem]
  refine hK3 _ ?_
  refine AW_seq fun K5 hK5 => ?_
  refine AW_region ?_
  simp (maxSteps := 10000000) [go_sem]
  refine hK5 _ ?_
  obtain rfl := Option.some.inj hM
  refine AW_ret ?_
  simp (maxSteps := 10000000) [go_sem]
set_option maxHeartbeats 4000000 in
set_option maxRecDepth 100000 in
theorem s_CellIndex_ctr (k : Nat) (a0 : TNotebook) (a1 : Int) (r : Int) (hM : s_CellIndex k a0 a1 = some r) : Ctr Try.prog 73 [.agg (TNotebook.c a0), .one (.int .i64 a1)] true [.one (.int .i64 r)] := by
  unfold s_CellIndex at hM
  refine Ctr.of_walk (by kernel_rfl) Try.func73 rfl Try.ntmps73 Try.results73 (by simp) ?_; intro N w0 hbad
  refine AW_seq fun K1 hK1 => ?_
  refine AW_region ?_
  simp (maxSteps := 10000000) [go_sem]
  refine hK1 _ ?_
  obtain ⟨e2, hU4, hR3⟩ := bind_some hM; clear hM
  refine AW_mid (ι := Unit) (fun i => ⟨22, [], [], []⟩) (fun i => (.inl i) = e2) ?_ ?_
  · intro K5 hK5
    have hM := hU4; clear hU4
    refine AW_seq fun K6 hK6 => ?_
    refine AW_region ?_
    simp (maxSteps := 10000000) [go_sem]
    refine hK6 _ ?_
    refine AW_block ?_
    refine AW_go (ι := Int) (fun i => ⟨22, [(1, .one (.l (.int .i64 a1))), (2, .one (.box 2 0)), (5, .one (.l (.int .i64 i)))], [(2, [.l (.sl (a0.cells.map TCell.c))])], []⟩) (fun n i => s_CellIndex_u1 a0 a1 n i = some e2) k 0 hM (Lift.into (by constructor <;> simp [go_sem])) (fun _ h => by simp [s_CellIndex_u1] at h) ?_
    intro KL7 n x1 hL7 hM
    have hM : s_CellIndex_u1 a0 a1 (n + 1) x1 = some e2 := hM; rw [s_CellIndex_u1] at hM
    refine AW_seq fun K8 hK8 => ?_
    refine AW_seq fun K9 hK9 => ?_
    refine AW_region ?_
    simp (maxSteps := 10000000) [go_sem]
    refine hK9 _ ?_
    refine AW_cond (b := (decide (x1 < (a0.cells.length : Int)))) (by simp (maxSteps := 10000000) [go_sem]) (fun h10 => ?_) (fun h10 => ?_)
    · rw [if_pos h10] at hM
      have h10' := h10; try simp at h10'
      have h10'' : ¬ ((a0.cells.length : Int) ≤ x1) := by have := h10; simp at this; omega
      refine AW_skip ?_
      refine hK8 _ ?_
      refine AW_seq fun K11 hK11 => ?_
      refine AW_block ?_
      refine AW_seq fun K12 hK12 => ?_
      obtain ⟨x2, e13, hM⟩ := bind_some hM
      obtain ⟨p14, q15, l16, g17⟩ := at_spec e13
      refine AW_region ?_
      simp (maxSteps := 10000000) [go_sem, h10, h10', h10'', p14, q15, g17]
      refine hK12 _ ?_
      refine AW_cond (b := (decide (x2.id = a1))) (by simp (maxSteps := 10000000) [go_sem, h10, h10', h10'', p14, q15, g17]) (fun h18 => ?_) (fun h18 => ?_)
      · rw [if_pos h18] at hM
        have h18' := h18; try simp at h18'
        refine AW_seq fun K19 hK19 => ?_
        refine AW_region ?_
        simp (maxSteps := 10000000) [go_sem, h10, h10', h10'', p14, q15, g17, h18, h18']
        refine hK19 _ ?_
        obtain rfl := Option.some.inj hM
        have hM := hR3; dsimp only at hM
        obtain rfl := Option.some.inj hM
        refine AW_ret ?_
        simp (maxSteps := 10000000) [go_sem, h10, h10', h10'', p14, q15, g17, h18, h18']
      · rw [if_neg (ne_true h18)] at hM
        have h18' := h18; try simp at h18'
        refine AW_skip ?_
        refine hK11 _ ?_
        refine AW_region ?_
        simp (maxSteps := 10000000) [go_sem, h10, h10', h10'', p14, q15, g17, h18, h18']
        exact hL7 (IntKind.i64.wrap (x1 + 1)) _ hM (Lift.into (by constructor <;> simp [go_sem, h10, h10', h10'', p14, q15, g17, h18, h18']))
    · rw [if_neg (ne_true h10)] at hM
      have h10' := h10; try simp at h10'
      have h10'' : ¬ (x1 < (a0.cells.length : Int)) := by have := h10; simp at this; omega
      refine AW_exit ?_
      obtain rfl := Option.some.inj hM
      exact hK5 () _ rfl (Lift.into (by constructor <;> simp [go_sem, h10, h10', h10'']))
  · rintro _ rfl
    have hM := hR3
    dsimp only at hM
    refine AW_seq fun K20 hK20 => ?_
    refine AW_region ?_
    simp (maxSteps := 10000000) [go_sem]
    refine hK20 _ ?_
    obtain rfl := Option.some.inj hM
    refine AW_ret ?_
    simp (maxSteps := 10000000) [go_sem]
set_option maxHeartbeats 4000000 in
set_option maxRecDepth 100000 in
theorem s_ChangedCells_ctr (k : Nat) (a0 : TNotebook) (a1 : TNotebook) (r : List Int) (hM : s_ChangedCells k a0 a1 = some r) : Ctr Try.prog 38 [.agg (TNotebook.c a0), .agg (TNotebook.c a1)] true [.one (.sl (r.map iC))] := by
  unfold s_ChangedCells at hM
  refine Ctr.of_walk (by kernel_rfl) Try.func38 rfl Try.ntmps38 Try.results38 (by simp) ?_; intro N w0 hbad
  refine AW_seq fun K1 hK1 => ?_
  refine AW_region ?_
  simp (maxSteps := 10000000) [go_sem]
  refine hK1 _ ?_
  refine AW_seq fun K2 hK2 => ?_
  refine AW_region ?_
  simp (maxSteps := 10000000) [go_sem]
  refine hK2 _ ?_
  obtain ⟨e3, hU5, hR4⟩ := bind_some hM; clear hM
  refine AW_mid (ι := List Int) (fun i => ⟨49, [(5, .one (.own 512 i.length))], [], [(512, some ⟨true, i.map iC⟩)]⟩) (fun i => i = e3) ?_ ?_
  · intro K6 hK6
    have hM := hU5; clear hU5
    refine AW_seq fun K7 hK7 => ?_
    refine AW_region ?_
    simp (maxSteps := 10000000) [go_sem]
    refine hK7 _ ?_
    refine AW_block ?_
    refine AW_go (ι := (List Int) × Int) (fun i => ⟨49, [(2, .one (.box 2 0)), (3, .one (.box 3 0)), (5, .one (.own 512 i.1.length)), (6, .one (.l (.int .i64 i.2)))], [(2, [.l (.sl (a0.cells.map TCell.c))]), (3, [.l (.sl (a1.cells.map TCell.c))])], [(512, some ⟨true, i.1.map iC⟩)]⟩) (fun n i => s_ChangedCells_u1 k a0 a1 n i.1 i.2 = some e3) k (([] : List Int), 0) hM (Lift.into (by constructor <;> simp [go_sem])) (fun _ h => by simp [s_ChangedCells_u1] at h) ?_
    intro KL8 n ⟨x2, x3⟩ hL8 hM
    have hM : s_ChangedCells_u1 k a0 a1 (n + 1) x2 x3 = some e3 := hM; rw [s_ChangedCells_u1] at hM
    refine AW_seq fun K9 hK9 => ?_
    refine AW_seq fun K10 hK10 => ?_
    refine AW_region ?_
    simp (maxSteps := 10000000) [go_sem]
    refine hK10 _ ?_
    refine AW_cond (b := (decide (x3 < (a1.cells.length : Int)))) (by simp (maxSteps := 10000000) [go_sem]) (fun h11 => ?_) (fun h11 => ?_)
    · rw [if_pos h11] at hM
      have h11' := h11; try simp at h11'
      have h11'' : ¬ ((a1.cells.length : Int) ≤ x3) := by have := h11; simp at this; omega
      refine AW_skip ?_
      refine hK9 _ ?_
      obtain ⟨e12, hU14, hR13⟩ := bind_some hM; clear hM
      refine AW_mid (ι := List Int) (fun i => ⟨49, [(2, .one (.box 2 0)), (3, .one (.box 3 0)), (5, .one (.own 512 i.length)), (6, .one (.l (.int .i64 x3)))], [(2, [.l (.sl (a0.cells.map TCell.c))]), (3, [.l (.sl (a1.cells.map TCell.c))])], [(512, some ⟨true, i.map iC⟩)]⟩) (fun i => i = e12) ?_ ?_
      · intro K15 hK15
        have hM := hU14; clear hU14
        refine AW_block ?_
        refine AW_seq fun K16 hK16 => ?_
        obtain ⟨x5, e17, hM⟩ := bind_some hM
        obtain ⟨p18, q19, l20, g21⟩ := at_spec e17
        obtain ⟨x6, e22, hM⟩ := bind_some hM
        refine AW_quick [[], [], [1], [], [1, 2, 3], [1, 2, 3, 4], [1, 2, 3, 4, 5], [0, 1, 2, 3, 4, 5, 6], [0, 1, 2, 3, 4, 5, 6, 7]] 7 mixed (by kernel_rfl) (by kernel_rfl) ?_
        simp (maxSteps := 10000000) [go_sem, h11, h11', h11'', p18, q19, g21]
        refine by_ctr false (s_CellIndex_ctr k a0 x5.id x6 e22) (by simp (maxSteps := 10000000) [go_sem, h11, h11', h11'', p18, q19, g21]) (by simp) ?_
        simp (maxSteps := 10000000) [go_sem, h11, h11', h11'', p18, q19, g21]
        refine hK16 _ ?_
        obtain ⟨e23, hU25, hR24⟩ := bind_some hM; clear hM
        refine AW_mid (ι := Bool) (fun i => ⟨49, [(2, .one (.box 2 0)), (3, .one (.box 3 0)), (5, .one (.own 512 x2.length)), (6, .one (.l (.int .i64 x3))), (38, .one (.l (.bool i)))], [(2, [.l (.sl (a0.cells.map TCell.c))]), (3, [.l (.sl (a1.cells.map TCell.c))])], [(512, some ⟨true, x2.map iC⟩)]⟩) (fun i => i = e23) ?_ ?_
        · intro K26 hK26
          have hM := hU25; clear hU25
          by_cases h27 : (decide (x6 < 0)) = true
          · rw [if_pos h27] at hM
            have h27' := h27; try simp at h27'
            have h27'' : ¬ (0 ≤ x6) := by have := h27; simp at this; omega
            refine AW_quick [[], [0], [0, 1], [0, 1, 2], [0, 1, 2, 3], [0, 1, 2], [0, 1, 2, 3, 4, 5], [0, 1, 2, 3, 4, 5, 6], [0, 1, 2], [0, 1, 2, 8], [0, 1, 2], [0, 1, 2, 8, 9, 10], [0, 1, 2, 8, 9, 10, 11], [0, 1, 2, 3, 4, 5, 6, 7, 8, 9, 10, 11, 12], [0, 1, 2, 3, 4, 5, 6, 7, 8, 9, 10, 11, 12, 13]] 13 mixed (by kernel_rfl) (by kernel_rfl) ?_
            simp (maxSteps := 10000000) [go_sem, h11, h11', h11'', p18, q19, g21, h27, h27', h27'']
            obtain rfl := Option.some.inj hM
            exact hK26 true _ rfl (Lift.into (by constructor <;> simp [go_sem, h11, h11', h11'', p18, q19, g21, h27, h27', h27'']))
          · rw [if_neg h27] at hM
            have h27 := Bool.eq_false_iff.2 h27
            have h27' := h27; try simp at h27'
            have h27'' : ¬ (x6 < 0) := by have := h27; simp at this; omega
            obtain ⟨x8, e28, hM⟩ := bind_some hM
            obtain ⟨p29, q30, l31, g32⟩ := at_spec e28
            refine AW_quick [[], [0], [0, 1], [0, 1, 2], [0, 1, 2, 3], [0, 1, 2], [0, 1, 2, 3, 4, 5], [0, 1, 2, 3, 4, 5, 6], [0, 1, 2], [0, 1, 2, 8], [0, 1, 2], [0, 1, 2, 8, 9, 10], [0, 1, 2, 8, 9, 10, 11], [0, 1, 2, 3, 4, 5, 6, 7, 8, 9, 10, 11, 12], [0, 1, 2, 3, 4, 5, 6, 7, 8, 9, 10, 11, 12, 13]] 13 mixed (by kernel_rfl) (by kernel_rfl) ?_
            simp (maxSteps := 10000000) [go_sem, h11, h11', h11'', p18, q19, g21, h27, h27', h27'', p29, q30, g32]
            obtain rfl := Option.some.inj hM
            exact hK26 (!(decide (x8.id = x5.id) && (decide (x8.version = x5.version) && (decide (x8.kind = x5.kind) && (decide (x8.name = x5.name) && (decide (x8.code = x5.code) && decide (x8.n = x5.n))))))) _ rfl (Lift.into (by constructor <;> simp [go_sem, h11, h11', h11'', p18, q19, g21, h27, h27', h27'', p29, q30, g32]))
        · rintro x7 rfl
          have hM := hR24
          try dsimp only at hM
          refine AW_cond (b := x7) (by simp (maxSteps := 10000000) [go_sem, h11, h11', h11'', p18, q19, g21]) (fun h33 => ?_) (fun h33 => ?_)
          · rw [if_pos h33] at hM
            have h33' := h33; try simp at h33'
            obtain ⟨x9, e34, hM⟩ := bind_some hM
            obtain ⟨c35, s36, s37⟩ := app_spec e34
            subst c35
            try simp at s36
            try simp at s37
            refine AW_region ?_
            simp (maxSteps := 10000000) [go_sem, h11, h11', h11'', p18, q19, g21, h33, h33', s36, s37]
            obtain rfl := Option.some.inj hM
            exact hK15 (x2 ++ [x5.id]) _ rfl (Lift.into (by constructor <;> simp [go_sem, h11, h11', h11'', p18, q19, g21, h33, h33', s36, s37]))
          · rw [if_neg (ne_true h33)] at hM
            have h33' := h33; try simp at h33'
            refine AW_skip ?_
            obtain rfl := Option.some.inj hM
            exact hK15 x2 _ rfl (Lift.into (by constructor <;> simp [go_sem, h11, h11', h11'', p18, q19, g21, h33, h33']))
      · rintro x4 rfl
        have hM := hR13
        try dsimp only at hM
        refine AW_region ?_
        simp (maxSteps := 10000000) [go_sem, h11, h11', h11'']
        exact hL8 (x4, (IntKind.i64.wrap (x3 + 1))) _ hM (Lift.into (by constructor <;> simp [go_sem, h11, h11', h11'']))
    · rw [if_neg (ne_true h11)] at hM
      have h11' := h11; try simp at h11'
      have h11'' : ¬ (x3 < (a1.cells.length : Int)) := by have := h11; simp at this; omega
      refine AW_exit ?_
      obtain rfl := Option.some.inj hM
      exact hK6 x2 _ rfl (Lift.into (by constructor <;> simp [go_sem, h11, h11', h11'']))
  · rintro x1 rfl
    have hM := hR4
    try dsimp only at hM
    refine AW_seq fun K38 hK38 => ?_
    refine AW_region ?_
    simp (maxSteps := 10000000) [go_sem]
    refine hK38 _ ?_
    obtain rfl := Option.some.inj hM
    refine AW_ret ?_
    simp (maxSteps := 10000000) [go_sem]
set_option maxHeartbeats 4000000 in
set_option maxRecDepth 100000 in
theorem i_CellIndex_ctr (k : Nat) (a0 : TNotebook) (a1 : Int) (r : Int) (hM : i_CellIndex k a0 a1 = some r) : Ctr Try.prog 75 [.agg (TNotebook.c a0), .one (.int .i64 a1)] true [.one (.int .i64 r)] := by
  unfold i_CellIndex at hM
  refine Ctr.of_walk (by kernel_rfl) Try.func75 rfl Try.ntmps75 Try.results75 (by simp) ?_; intro N w0 hbad
  refine AW_seq fun K1 hK1 => ?_
  refine AW_region ?_
  simp (maxSteps := 10000000) [go_sem]
  refine hK1 _ ?_
  obtain ⟨e2, hU4, hR3⟩ := bind_some hM; clear hM
  refine AW_mid (ι := Unit) (fun i => ⟨21, [], [], []⟩) (fun i => (.inl i) = e2) ?_ ?_
  · intro K5 hK5
    have hM := hU4; clear hU4
    refine AW_seq fun K6 hK6 => ?_
    refine AW_region ?_
    simp (maxSteps := 10000000) [go_sem]
    refine hK6 _ ?_
    refine AW_block ?_
    refine AW_go (ι := Int) (fun i => ⟨21, [(1, .one (.l (.int .i64 a1))), (8, .one (.l (.sl (a0.cells.map TCell.c)))), (9, .one (.l (.int .i64 (a0.cells.length : Int)))), (10, .one (.l (.int .i64 i)))], [], []⟩) (fun n i => i_CellIndex_u1 a0 a1 n i = some e2) k 0 hM (Lift.into (by constructor <;> simp [go_sem])) (fun _ h => by simp [i_CellIndex_u1] at h) ?_
    intro KL7 n x1 hL7 hM
    have hM : i_CellIndex_u1 a0 a1 (n + 1) x1 = some e2 := hM; rw [i_CellIndex_u1] at hM
    refine AW_seq fun K8 hK8 => ?_
    refine AW_region ?_
    simp (maxSteps := 10000000) [go_sem]
    refine hK8 _ ?_
    refine AW_seq fun K9 hK9 => ?_
    refine AW_cond (b := (decide (x1 < (a0.cells.length : Int)))) (by simp (maxSteps := 10000000) [go_sem]) (fun h10 => ?_) (fun h10 => ?_)
    · rw [if_pos h10] at hM
      have h10' := h10; try simp at h10'
      have h10'' : ¬ ((a0.cells.length : Int) ≤ x1) := by have := h10; simp at this; omega
      refine AW_skip ?_
      refine hK9 _ ?_
      refine AW_seq fun K11 hK11 => ?_
      refine AW_block ?_
      refine AW_seq fun K12 hK12 => ?_
      obtain ⟨x2, e13, hM⟩ := bind_some hM
      obtain ⟨p14, q15, l16, g17⟩ := at_spec e13
      refine AW_region ?_
      simp (maxSteps := 10000000) [go_sem, h10, h10', h10'', p14, q15, g17]
      refine hK12 _ ?_
      refine AW_seq fun K18 hK18 => ?_
      refine AW_region ?_
      simp (maxSteps := 10000000) [go_sem, h10, h10', h10'', p14, q15, g17]
      refine hK18 _ ?_
      refine AW_cond (b := (decide (x2.id = a1))) (by simp (maxSteps := 10000000) [go_sem, h10, h10', h10'', p14, q15, g17]) (fun h19 => ?_) (fun h19 => ?_)
      · rw [if_pos h19] at hM
        have h19' := h19; try simp at h19'
        refine AW_seq fun K20 hK20 => ?_
        refine AW_region ?_
        simp (maxSteps := 10000000) [go_sem, h10, h10', h10'', p14, q15, g17, h19, h19']
        refine hK20 _ ?_
        obtain rfl := Option.some.inj hM
        have hM := hR3; dsimp only at hM
        obtain rfl := Option.some.inj hM
        refine AW_ret ?_
        simp (maxSteps := 10000000) [go_sem, h10, h10', h10'', p14, q15, g17, h19, h19']
      · rw [if_neg (ne_true h19)] at hM
        have h19' := h19; try simp at h19'
        refine AW_skip ?_
        refine hK11 _ ?_
        refine AW_region ?_
        simp (maxSteps := 10000000) [go_sem, h10, h10', h10'', p14, q15, g17, h19, h19']
        exact hL7 (IntKind.i64.wrap (x1 + 1)) _ hM (Lift.into (by constructor <;> simp [go_sem, h10, h10', h10'', p14, q15, g17, h19, h19']))
    · rw [if_neg (ne_true h10)] at hM
      have h10' := h10; try simp at h10'
      have h10'' : ¬ (x1 < (a0.cells.length : Int)) := by have := h10; simp at this; omega
      refine AW_exit ?_
      obtain rfl := Option.some.inj hM
      exact hK5 () _ rfl (Lift.into (by constructor <;> simp [go_sem, h10, h10', h10'']))
  · rintro _ rfl
    have hM := hR3
    dsimp only at hM
    refine AW_seq fun K21 hK21 => ?_
    refine AW_region ?_
    simp (maxSteps := 10000000) [go_sem]
    refine hK21 _ ?_
    obtain rfl := Option.some.inj hM
    refine AW_ret ?_
    simp (maxSteps := 10000000) [go_sem]
end Go.Proofs.Ytopjlbifglacpaa
