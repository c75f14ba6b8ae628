/- Contracts of the program's functions: where the mirrored function answers, the program's function returns this answer. Written by a program of mine. -/
import Derived.Test.YtopjlbifglacpaaWn
import Derived.Test.YtopjlbifglacpaaMd
import Derived.Test.YtopjlbifglacpaaCt4
import Derived.Test.YtopjlbifglacpaaCt7
set_option linter.unusedSimpArgs false
set_option linter.unusedVariables false
namespace Go.Proofs.Ytopjlbifglacpaa
open Go.RowKit Am

set_option maxHeartbeats 4000000 in
set_option maxRecDepth 100000 in
theorem s_l10Node_ctr (k : Nat) (a0 : TExpr) (r : Bool) (hM : s_l10Node k a0 = some r) : Ctr Try.prog 123 [.agg (TExpr.c a0)] true [.one (.bool r)] := by
  unfold s_l10Node at hM
  refine Ctr.of_walk (by kernel_rfl) Try.func123 rfl Try.ntmps123 Try.results123 (by simp) ?_; intro N w0 hbad
  refine AW_seq fun K1 hK1 => ?_
  refine AW_region ?_
  simp (maxSteps := 10000000) [go_sem]
  refine hK1 _ ?_
  refine AW_seq fun K2 hK2 => ?_
  refine AW_region ?_
  simp (maxSteps := 10000000) [go_sem]
  refine hK2 _ ?_
  refine AW_seq fun K3 hK3 => ?_
  refine AW_seq fun K4 hK4 => ?_
  refine AW_region ?_
  simp (maxSteps := 10000000) [go_sem]
  refine hK4 _ ?_
  refine AW_block ?_
  refine AW_seq fun K5 hK5 => ?_
  refine AW_region ?_
  simp (maxSteps := 10000000) [go_sem]
  refine hK5 _ ?_
  refine AW_cond (b := (decide (a0.kind = 1))) (by simp (maxSteps := 10000000) [go_sem]) (fun h6 => ?_) (fun h6 => ?_)
  · rw [if_pos h6] at hM
    have h6' := h6; try simp at h6'
    obtain ⟨e7, hU9, hR8⟩ := bind_some hM; clear hM
    refine AW_mid (ι := Bool) (fun i => ⟨120, [(2, .one (.l (.bool i)))], [], []⟩) (fun i => i = e7) ?_ ?_
    · intro K10 hK10
      have hM := hU9; clear hU9
      by_cases h11 : (decide ((a0.args.length : Int) = 0)) = true
      · rw [if_pos h11] at hM
        have h11' := h11; try simp at h11'
        by_cases h12 : (decide (a0.text = (⟨#[]⟩ : ByteArray))) = true
        · rw [if_pos h12] at hM
          have h12' := h12; try simp at h12'
          obtain ⟨x2, e13, hM⟩ := bind_some hM
          refine AW_region ?_
          simp (maxSteps := 10000000) [go_sem, h6, h6', h11, h11', h12, h12']
          refine by_ctr false (s_l1In_ctr a0.n 0 1000000000 x2 e13) (by simp (maxSteps := 10000000) [go_sem, h6, h6', h11, h11', h12, h12']) (by simp) ?_
          simp (maxSteps := 10000000) [go_sem, h6, h6', h11, h11', h12, h12']
          obtain rfl := Option.some.inj hM
          exact hK10 x2 _ rfl (Lift.into (by constructor <;> simp [go_sem, h6, h6', h11, h11', h12, h12']))
        · rw [if_neg h12] at hM
          have h12 := Bool.eq_false_iff.2 h12
          have h12' := h12; try simp at h12'
          refine AW_region ?_
          simp (maxSteps := 10000000) [go_sem, h6, h6', h11, h11', h12, h12']
          obtain rfl := Option.some.inj hM
          exact hK10 false _ rfl (Lift.into (by constructor <;> simp [go_sem, h6, h6', h11, h11', h12, h12']))
      · rw [if_neg h11] at hM
        have h11 := Bool.eq_false_iff.2 h11
        have h11' := h11; try simp at h11'
        refine AW_region ?_
        simp (maxSteps := 10000000) [go_sem, h6, h6', h11, h11']
        obtain rfl := Option.some.inj hM
        exact hK10 false _ rfl (Lift.into (by constructor <;> simp [go_sem, h6, h6', h11, h11']))
    · rintro x1 rfl
      have hM := hR8
      try dsimp only at hM
      obtain rfl := Option.some.inj hM
      refine AW_ret ?_
      simp (maxSteps := 10000000) [go_sem, h6, h6']
  · rw [if_neg (ne_true h6)] at hM
    have h6' := h6; try simp at h6'
    refine AW_seq fun K14 hK14 => ?_
    refine AW_region ?_
    simp (maxSteps := 10000000) [go_sem, h6, h6']
    refine hK14 _ ?_
    refine AW_cond (b := (decide (a0.kind = 2))) (by simp (maxSteps := 10000000) [go_sem, h6, h6']) (fun h15 => ?_) (fun h15 => ?_)
    · rw [if_pos h15] at hM
      have h15' := h15; try simp at h15'
      obtain ⟨e16, hU18, hR17⟩ := bind_some hM; clear hM
      refine AW_mid (ι := Bool) (fun i => ⟨120, [(2, .one (.l (.bool i)))], [], []⟩) (fun i => i = e16) ?_ ?_
      · intro K19 hK19
        have hM := hU18; clear hU18
        by_cases h20 : (decide ((a0.args.length : Int) = 0)) = true
        · rw [if_pos h20] at hM
          have h20' := h20; try simp at h20'
          by_cases h21 : (decide (a0.n = 0)) = true
          · rw [if_pos h21] at hM
            have h21' := h21; try simp at h21'
            obtain ⟨x4, e22, hM⟩ := bind_some hM
            refine AW_region ?_
            simp (maxSteps := 10000000) [go_sem, h6, h6', h15, h15', h20, h20', h21, h21']
            refine by_ctr false (s_IsValidText_ctr k a0.text x4 e22) (by simp (maxSteps := 10000000) [go_sem, h6, h6', h15, h15', h20, h20', h21, h21']) (by simp) ?_
            simp (maxSteps := 10000000) [go_sem, h6, h6', h15, h15', h20, h20', h21, h21']
            obtain rfl := Option.some.inj hM
            exact hK19 x4 _ rfl (Lift.into (by constructor <;> simp [go_sem, h6, h6', h15, h15', h20, h20', h21, h21']))
          · rw [if_neg h21] at hM
            have h21 := Bool.eq_false_iff.2 h21
            have h21' := h21; try simp at h21'
            refine AW_region ?_
            simp (maxSteps := 10000000) [go_sem, h6, h6', h15, h15', h20, h20', h21, h21']
            obtain rfl := Option.some.inj hM
            exact hK19 false _ rfl (Lift.into (by constructor <;> simp [go_sem, h6, h6', h15, h15', h20, h20', h21, h21']))
        · rw [if_neg h20] at hM
          have h20 := Bool.eq_false_iff.2 h20
          have h20' := h20; try simp at h20'
          refine AW_region ?_
          simp (maxSteps := 10000000) [go_sem, h6, h6', h15, h15', h20, h20']
          obtain rfl := Option.some.inj hM
          exact hK19 false _ rfl (Lift.into (by constructor <;> simp [go_sem, h6, h6', h15, h15', h20, h20']))
      · rintro x3 rfl
        have hM := hR17
        try dsimp only at hM
        obtain rfl := Option.some.inj hM
        refine AW_ret ?_
        simp (maxSteps := 10000000) [go_sem, h6, h6', h15, h15']
    · rw [if_neg (ne_true h15)] at hM
      have h15' := h15; try simp at h15'
      refine AW_seq fun K23 hK23 => ?_
      refine AW_region ?_
      simp (maxSteps := 10000000) [go_sem, h6, h6', h15, h15']
      refine hK23 _ ?_
      refine AW_cond (b := (decide (a0.kind = 3))) (by simp (maxSteps := 10000000) [go_sem, h6, h6', h15, h15']) (fun h24 => ?_) (fun h24 => ?_)
      · rw [if_pos h24] at hM
        have h24' := h24; try simp at h24'
        obtain ⟨e25, hU27, hR26⟩ := bind_some hM; clear hM
        refine AW_mid (ι := Bool) (fun i => ⟨120, [(2, .one (.l (.bool i)))], [], []⟩) (fun i => i = e25) ?_ ?_
        · intro K28 hK28
          have hM := hU27; clear hU27
          by_cases h29 : (decide ((a0.args.length : Int) = 0)) = true
          · rw [if_pos h29] at hM
            have h29' := h29; try simp at h29'
            by_cases h30 : (decide (a0.n = 0)) = true
            · rw [if_pos h30] at hM
              have h30' := h30; try simp at h30'
              obtain ⟨x6, e31, hM⟩ := bind_some hM
              refine AW_region ?_
              simp (maxSteps := 10000000) [go_sem, h6, h6', h15, h15', h24, h24', h29, h29', h30, h30']
              refine by_ctr false (s_IsValidName_ctr k a0.text x6 e31) (by simp (maxSteps := 10000000) [go_sem, h6, h6', h15, h15', h24, h24', h29, h29', h30, h30']) (by simp) ?_
              simp (maxSteps := 10000000) [go_sem, h6, h6', h15, h15', h24, h24', h29, h29', h30, h30']
              obtain rfl := Option.some.inj hM
              exact hK28 x6 _ rfl (Lift.into (by constructor <;> simp [go_sem, h6, h6', h15, h15', h24, h24', h29, h29', h30, h30']))
            · rw [if_neg h30] at hM
              have h30 := Bool.eq_false_iff.2 h30
              have h30' := h30; try simp at h30'
              refine AW_region ?_
              simp (maxSteps := 10000000) [go_sem, h6, h6', h15, h15', h24, h24', h29, h29', h30, h30']
              obtain rfl := Option.some.inj hM
              exact hK28 false _ rfl (Lift.into (by constructor <;> simp [go_sem, h6, h6', h15, h15', h24, h24', h29, h29', h30, h30']))
          · rw [if_neg h29] at hM
            have h29 := Bool.eq_false_iff.2 h29
            have h29' := h29; try simp at h29'
            refine AW_region ?_
            simp (maxSteps := 10000000) [go_sem, h6, h6', h15, h15', h24, h24', h29, h29']
            obtain rfl := Option.some.inj hM
            exact hK28 false _ rfl (Lift.into (by constructor <;> simp [go_sem, h6, h6', h15, h15', h24, h24', h29, h29']))
        · rintro x5 rfl
          have hM := hR26
          try dsimp only at hM
          obtain rfl := Option.some.inj hM
          refine AW_ret ?_
          simp (maxSteps := 10000000) [go_sem, h6, h6', h15, h15', h24, h24']
      · rw [if_neg (ne_true h24)] at hM
        have h24' := h24; try simp at h24'
        refine AW_seq fun K32 hK32 => ?_
        refine AW_region ?_
        simp (maxSteps := 10000000) [go_sem, h6, h6', h15, h15', h24, h24']
        refine hK32 _ ?_
        refine AW_cond (b := (decide (a0.kind = 4))) (by simp (maxSteps := 10000000) [go_sem, h6, h6', h15, h15', h24, h24']) (fun h33 => ?_) (fun h33 => ?_)
        · rw [if_pos h33] at hM
          have h33' := h33; try simp at h33'
          obtain ⟨e34, hU36, hR35⟩ := bind_some hM; clear hM
          refine AW_mid (ι := Bool) (fun i => ⟨120, [(2, .one (.l (.bool i)))], [], []⟩) (fun i => i = e34) ?_ ?_
          · intro K37 hK37
            have hM := hU36; clear hU36
            by_cases h38 : (decide (a0.n = 0)) = true
            · rw [if_pos h38] at hM
              have h38' := h38; try simp at h38'
              by_cases h39 : (decide (a0.text = (⟨#[]⟩ : ByteArray))) = true
              · rw [if_pos h39] at hM
                have h39' := h39; try simp at h39'
                refine AW_region ?_
                simp (maxSteps := 10000000) [go_sem, h6, h6', h15, h15', h24, h24', h33, h33', h38, h38', h39, h39']
                obtain rfl := Option.some.inj hM
                exact hK37 (decide ((a0.args.length : Int) ≤ 8)) _ rfl (Lift.into (by constructor <;> simp [go_sem, h6, h6', h15, h15', h24, h24', h33, h33', h38, h38', h39, h39']))
              · rw [if_neg h39] at hM
                have h39 := Bool.eq_false_iff.2 h39
                have h39' := h39; try simp at h39'
                refine AW_region ?_
                simp (maxSteps := 10000000) [go_sem, h6, h6', h15, h15', h24, h24', h33, h33', h38, h38', h39, h39']
                obtain rfl := Option.some.inj hM
                exact hK37 false _ rfl (Lift.into (by constructor <;> simp [go_sem, h6, h6', h15, h15', h24, h24', h33, h33', h38, h38', h39, h39']))
            · rw [if_neg h38] at hM
              have h38 := Bool.eq_false_iff.2 h38
              have h38' := h38; try simp at h38'
              refine AW_region ?_
              simp (maxSteps := 10000000) [go_sem, h6, h6', h15, h15', h24, h24', h33, h33', h38, h38']
              obtain rfl := Option.some.inj hM
              exact hK37 false _ rfl (Lift.into (by constructor <;> simp [go_sem, h6, h6', h15, h15', h24, h24', h33, h33', h38, h38']))
          · rintro x7 rfl
            have hM := hR35
            try dsimp only at hM
            obtain rfl := Option.some.inj hM
            refine AW_ret ?_
            simp (maxSteps := 10000000) [go_sem, h6, h6', h15, h15', h24, h24', h33, h33']
        · rw [if_neg (ne_true h33)] at hM
          have h33' := h33; try simp at h33'
          refine AW_seq fun K40 hK40 => ?_
          refine AW_region ?_
          simp (maxSteps := 10000000) [go_sem, h6, h6', h15, h15', h24, h24', h33, h33']
          refine hK40 _ ?_
          refine AW_cond (b := (decide (a0.kind = 5))) (by simp (maxSteps := 10000000) [go_sem, h6, h6', h15, h15', h24, h24', h33, h33']) (fun h41 => ?_) (fun h41 => ?_)
          · rw [if_pos h41] at hM
            have h41' := h41; try simp at h41'
            obtain ⟨e42, hU44, hR43⟩ := bind_some hM; clear hM
            refine AW_mid (ι := Bool) (fun i => ⟨120, [(2, .one (.l (.bool i)))], [], []⟩) (fun i => i = e42) ?_ ?_
            · intro K45 hK45
              have hM := hU44; clear hU44
              by_cases h46 : (decide (a0.n = 0)) = true
              · rw [if_pos h46] at hM
                have h46' := h46; try simp at h46'
                obtain ⟨x9, e47, hM⟩ := bind_some hM
                refine AW_region ?_
                simp (maxSteps := 10000000) [go_sem, h6, h6', h15, h15', h24, h24', h33, h33', h41, h41', h46, h46']
                refine by_ctr false (s_ArgumentCount_ctr a0.text x9 e47) (by simp (maxSteps := 10000000) [go_sem, h6, h6', h15, h15', h24, h24', h33, h33', h41, h41', h46, h46']) (by simp) ?_
                simp (maxSteps := 10000000) [go_sem, h6, h6', h15, h15', h24, h24', h33, h33', h41, h41', h46, h46']
                obtain rfl := Option.some.inj hM
                exact hK45 (decide ((a0.args.length : Int) = x9)) _ rfl (Lift.into (by constructor <;> simp [go_sem, h6, h6', h15, h15', h24, h24', h33, h33', h41, h41', h46, h46']))
              · rw [if_neg h46] at hM
                have h46 := Bool.eq_false_iff.2 h46
                have h46' := h46; try simp at h46'
                refine AW_region ?_
                simp (maxSteps := 10000000) [go_sem, h6, h6', h15, h15', h24, h24', h33, h33', h41, h41', h46, h46']
                obtain rfl := Option.some.inj hM
                exact hK45 false _ rfl (Lift.into (by constructor <;> simp [go_sem, h6, h6', h15, h15', h24, h24', h33, h33', h41, h41', h46, h46']))
            · rintro x8 rfl
              have hM := hR43
              try dsimp only at hM
              obtain rfl := Option.some.inj hM
              refine AW_ret ?_
              simp (maxSteps := 10000000) [go_sem, h6, h6', h15, h15', h24, h24', h33, h33', h41, h41']
          · rw [if_neg (ne_true h41)] at hM
            have h41' := h41; try simp at h41'
            refine AW_seq fun K48 hK48 => ?_
            refine AW_region ?_
            simp (maxSteps := 10000000) [go_sem, h6, h6', h15, h15', h24, h24', h33, h33', h41, h41']
            refine hK48 _ ?_
            refine AW_cond (b := (decide (a0.kind = 6))) (by simp (maxSteps := 10000000) [go_sem, h6, h6', h15, h15', h24, h24', h33, h33', h41, h41']) (fun h49 => ?_) (fun h49 => ?_)
            · rw [if_pos h49] at hM
              have h49' := h49; try simp at h49'
              obtain ⟨e50, hU52, hR51⟩ := bind_some hM; clear hM
              refine AW_mid (ι := Bool) (fun i => ⟨120, [(2, .one (.l (.bool i)))], [], []⟩) (fun i => i = e50) ?_ ?_
              · intro K53 hK53
                have hM := hU52; clear hU52
                by_cases h54 : (decide (a0.text = (⟨#[]⟩ : ByteArray))) = true
                · rw [if_pos h54] at hM
                  have h54' := h54; try simp at h54'
                  by_cases h55 : (decide ((a0.args.length : Int) = 2)) = true
                  · rw [if_pos h55] at hM
                    have h55' := h55; try simp at h55'
                    obtain ⟨x11, e56, hM⟩ := bind_some hM
                    refine AW_region ?_
                    simp (maxSteps := 10000000) [go_sem, h6, h6', h15, h15', h24, h24', h33, h33', h41, h41', h49, h49', h54, h54', h55, h55']
                    refine by_ctr false (s_l1In_ctr a0.n 1 5 x11 e56) (by simp (maxSteps := 10000000) [go_sem, h6, h6', h15, h15', h24, h24', h33, h33', h41, h41', h49, h49', h54, h54', h55, h55']) (by simp) ?_
                    simp (maxSteps := 10000000) [go_sem, h6, h6', h15, h15', h24, h24', h33, h33', h41, h41', h49, h49', h54, h54', h55, h55']
                    obtain rfl := Option.some.inj hM
                    exact hK53 x11 _ rfl (Lift.into (by constructor <;> simp [go_sem, h6, h6', h15, h15', h24, h24', h33, h33', h41, h41', h49, h49', h54, h54', h55, h55']))
                  · rw [if_neg h55] at hM
                    have h55 := Bool.eq_false_iff.2 h55
                    have h55' := h55; try simp at h55'
                    refine AW_region ?_
                    simp (maxSteps := 10000000) [go_sem, h6, h6', h15, h15', h24, h24', h33, h33', h41, h41', h49, h49', h54, h54', h55, h55']
                    obtain rfl := Option.some.inj hM
                    exact hK53 false _ rfl (Lift.into (by constructor <;> simp [go_sem, h6, h6', h15, h15', h24, h24', h33, h33', h41, h41', h49, h49', h54, h54', h55, h55']))
                · rw [if_neg h54] at hM
                  have h54 := Bool.eq_false_iff.2 h54
                  have h54' := h54; try simp at h54'
                  refine AW_region ?_
                  simp (maxSteps := 10000000) [go_sem, h6, h6', h15, h15', h24, h24', h33, h33', h41, h41', h49, h49', h54, h54']
                  obtain rfl := Option.some.inj hM
                  exact hK53 false _ rfl (Lift.into (by constructor <;> simp [go_sem, h6, h6', h15, h15', h24, h24', h33, h33', h41, h41', h49, h49', h54, h54']))
              · rintro x10 rfl
                have hM := hR51
                try dsimp only at hM
                obtain rfl := Option.some.inj hM
                refine AW_ret ?_
                simp (maxSteps := 10000000) [go_sem, h6, h6', h15, h15', h24, h24', h33, h33', h41, h41', h49, h49']
            · rw [if_neg (ne_true h49)] at hM
              have h49' := h49; try simp at h49'
              obtain ⟨e57, hU59, hR58⟩ := bind_some hM; clear hM
              refine AW_mid (ι := Bool) (fun i => ⟨120, [(1, .one (.box 1 0)), (3, .one (.l (.int .i64 (a0.args.length : Int)))), (8, .one (.l (.int .i64 a0.kind))), (91, .one (.l (.bool i)))], [(1, [.l (.int .i64 a0.kind), .l (.int .i64 a0.n), .l (.str a0.text), .l (.sl (a0.args.map TExpr.c))])], []⟩) (fun i => i = e57) ?_ ?_
              · intro K60 hK60
                have hM := hU59; clear hU59
                refine AW_seq fun K61 hK61 => ?_
                refine AW_region ?_
                simp (maxSteps := 10000000) [go_sem, h6, h6', h15, h15', h24, h24', h33, h33', h41, h41', h49, h49']
                refine hK61 _ ?_
                refine AW_cond (b := (decide (a0.kind = 7))) (by simp (maxSteps := 10000000) [go_sem, h6, h6', h15, h15', h24, h24', h33, h33', h41, h41', h49, h49']) (fun h62 => ?_) (fun h62 => ?_)
                · rw [if_pos h62] at hM
                  have h62' := h62; try simp at h62'
                  refine AW_skip ?_
                  obtain rfl := Option.some.inj hM
                  exact hK60 true _ rfl (Lift.into (by constructor <;> simp [go_sem, h6, h6', h15, h15', h24, h24', h33, h33', h41, h41', h49, h49', h62, h62']))
                · rw [if_neg (ne_true h62)] at hM
                  have h62' := h62; try simp at h62'
                  refine AW_region ?_
                  simp (maxSteps := 10000000) [go_sem, h6, h6', h15, h15', h24, h24', h33, h33', h41, h41', h49, h49', h62, h62']
                  obtain rfl := Option.some.inj hM
                  exact hK60 (decide (a0.kind = 9)) _ rfl (Lift.into (by constructor <;> simp [go_sem, h6, h6', h15, h15', h24, h24', h33, h33', h41, h41', h49, h49', h62, h62']))
              · rintro x12 rfl
                have hM := hR58
                try dsimp only at hM
                refine AW_cond (b := x12) (by simp (maxSteps := 10000000) [go_sem, h6, h6', h15, h15', h24, h24', h33, h33', h41, h41', h49, h49']) (fun h63 => ?_) (fun h63 => ?_)
                · rw [if_pos h63] at hM
                  have h63' := h63; try simp at h63'
                  obtain ⟨e64, hU66, hR65⟩ := bind_some hM; clear hM
                  refine AW_mid (ι := Bool) (fun i => ⟨120, [(2, .one (.l (.bool i)))], [], []⟩) (fun i => i = e64) ?_ ?_
                  · intro K67 hK67
                    have hM := hU66; clear hU66
                    by_cases h68 : (decide (a0.n = 0)) = true
                    · rw [if_pos h68] at hM
                      have h68' := h68; try simp at h68'
                      by_cases h69 : (decide ((a0.args.length : Int) = 2)) = true
                      · rw [if_pos h69] at hM
                        have h69' := h69; try simp at h69'
                        obtain ⟨x14, e70, hM⟩ := bind_some hM
                        refine AW_region ?_
                        simp (maxSteps := 10000000) [go_sem, h6, h6', h15, h15', h24, h24', h33, h33', h41, h41', h49, h49', h63, h63', h68, h68', h69, h69']
                        refine by_ctr false (s_IsValidName_ctr k a0.text x14 e70) (by simp (maxSteps := 10000000) [go_sem, h6, h6', h15, h15', h24, h24', h33, h33', h41, h41', h49, h49', h63, h63', h68, h68', h69, h69']) (by simp) ?_
                        simp (maxSteps := 10000000) [go_sem, h6, h6', h15, h15', h24, h24', h33, h33', h41, h41', h49, h49', h63, h63', h68, h68', h69, h69']
                        obtain rfl := Option.some.inj hM
                        exact hK67 x14 _ rfl (Lift.into (by constructor <;> simp [go_sem, h6, h6', h15, h15', h24, h24', h33, h33', h41, h41', h49, h49', h63, h63', h68, h68', h69, h69']))
                      · rw [if_neg h69] at hM
                        have h69 := Bool.eq_false_iff.2 h69
                        have h69' := h69; try simp at h69'
                        refine AW_region ?_
                        simp (maxSteps := 10000000) [go_sem, h6, h6', h15, h15', h24, h24', h33, h33', h41, h41', h49, h49', h63, h63', h68, h68', h69, h69']
                        obtain rfl := Option.some.inj hM
                        exact hK67 false _ rfl (Lift.into (by constructor <;> simp [go_sem, h6, h6', h15, h15', h24, h24', h33, h33', h41, h41', h49, h49', h63, h63', h68, h68', h69, h69']))
                    · rw [if_neg h68] at hM
                      have h68 := Bool.eq_false_iff.2 h68
                      have h68' := h68; try simp at h68'
                      refine AW_region ?_
                      simp (maxSteps := 10000000) [go_sem, h6, h6', h15, h15', h24, h24', h33, h33', h41, h41', h49, h49', h63, h63', h68, h68']
                      obtain rfl := Option.some.inj hM
                      exact hK67 false _ rfl (Lift.into (by constructor <;> simp [go_sem, h6, h6', h15, h15', h24, h24', h33, h33', h41, h41', h49, h49', h63, h63', h68, h68']))
                  · rintro x13 rfl
                    have hM := hR65
                    try dsimp only at hM
                    obtain rfl := Option.some.inj hM
                    refine AW_ret ?_
                    simp (maxSteps := 10000000) [go_sem, h6, h6', h15, h15', h24, h24', h33, h33', h41, h41', h49, h49', h63, h63']
                · rw [if_neg (ne_true h63)] at hM
                  have h63' := h63; try simp at h63'
                  refine AW_seq fun K71 hK71 => ?_
                  refine AW_region ?_
                  simp (maxSteps := 10000000) [go_sem, h6, h6', h15, h15', h24, h24', h33, h33', h41, h41', h49, h49', h63, h63']
                  refine hK71 _ ?_
                  refine AW_cond (b := (decide (a0.kind = 8))) (by simp (maxSteps := 10000000) [go_sem, h6, h6', h15, h15', h24, h24', h33, h33', h41, h41', h49, h49', h63, h63']) (fun h72 => ?_) (fun h72 => ?_)
                  · rw [if_pos h72] at hM
                    have h72' := h72; try simp at h72'
                    obtain ⟨e73, hU75, hR74⟩ := bind_some hM; clear hM
                    refine AW_mid (ι := Bool) (fun i => ⟨120, [(2, .one (.l (.bool i)))], [], []⟩) (fun i => i = e73) ?_ ?_
                    · intro K76 hK76
                      have hM := hU75; clear hU75
                      by_cases h77 : (decide (a0.n = 0)) = true
                      · rw [if_pos h77] at hM
                        have h77' := h77; try simp at h77'
                        by_cases h78 : (decide (a0.text = (⟨#[]⟩ : ByteArray))) = true
                        · rw [if_pos h78] at hM
                          have h78' := h78; try simp at h78'
                          refine AW_region ?_
                          simp (maxSteps := 10000000) [go_sem, h6, h6', h15, h15', h24, h24', h33, h33', h41, h41', h49, h49', h63, h63', h72, h72', h77, h77', h78, h78']
                          obtain rfl := Option.some.inj hM
                          exact hK76 (decide ((a0.args.length : Int) = 3)) _ rfl (Lift.into (by constructor <;> simp [go_sem, h6, h6', h15, h15', h24, h24', h33, h33', h41, h41', h49, h49', h63, h63', h72, h72', h77, h77', h78, h78']))
                        · rw [if_neg h78] at hM
                          have h78 := Bool.eq_false_iff.2 h78
                          have h78' := h78; try simp at h78'
                          refine AW_region ?_
                          simp (maxSteps := 10000000) [go_sem, h6, h6', h15, h15', h24, h24', h33, h33', h41, h41', h49, h49', h63, h63', h72, h72', h77, h77', h78, h78']
                          obtain rfl := Option.some.inj hM
                          exact hK76 false _ rfl (Lift.into (by constructor <;> simp [go_sem, h6, h6', h15, h15', h24, h24', h33, h33', h41, h41', h49, h49', h63, h63', h72, h72', h77, h77', h78, h78']))
                      · rw [if_neg h77] at hM
                        have h77 := Bool.eq_false_iff.2 h77
                        have h77' := h77; try simp at h77'
                        refine AW_region ?_
                        simp (maxSteps := 10000000) [go_sem, h6, h6', h15, h15', h24, h24', h33, h33', h41, h41', h49, h49', h63, h63', h72, h72', h77, h77']
                        obtain rfl := Option.some.inj hM
                        exact hK76 false _ rfl (Lift.into (by constructor <;> simp [go_sem, h6, h6', h15, h15', h24, h24', h33, h33', h41, h41', h49, h49', h63, h63', h72, h72', h77, h77']))
                    · rintro x15 rfl
                      have hM := hR74
                      try dsimp only at hM
                      obtain rfl := Option.some.inj hM
                      refine AW_ret ?_
                      simp (maxSteps := 10000000) [go_sem, h6, h6', h15, h15', h24, h24', h33, h33', h41, h41', h49, h49', h63, h63', h72, h72']
                  · rw [if_neg (ne_true h72)] at hM
                    have h72' := h72; try simp at h72'
                    refine AW_skip ?_
                    refine hK3 _ ?_
                    refine AW_seq fun K79 hK79 => ?_
                    refine AW_region ?_
                    simp (maxSteps := 10000000) [go_sem, h6, h6', h15, h15', h24, h24', h33, h33', h41, h41', h49, h49', h63, h63', h72, h72']
                    refine hK79 _ ?_
                    obtain rfl := Option.some.inj hM
                    refine AW_ret ?_
                    simp (maxSteps := 10000000) [go_sem, h6, h6', h15, h15', h24, h24', h33, h33', h41, h41', h49, h49', h63, h63', h72, h72']
set_option maxHeartbeats 4000000 in
set_option maxRecDepth 100000 in
theorem s_l10All_all : ∀ (k : Nat), (∀ (a0 : TExpr) (r : Bool) (hM : s_l10All k a0 = some r), Ctr Try.prog 117 [.agg (TExpr.c a0)] true [.one (.bool r)]) := by
  intro k
  induction k with
  | zero => intro a0 r hM; simp [s_l10All] at hM
  | succ k ih_s_l10All =>
    · intro a0 r hM
      rw [s_l10All] at hM
      refine Ctr.of_walk (by kernel_rfl) Try.func117 rfl Try.ntmps117 Try.results117 (by simp) ?_; intro N w0 hbad
      refine AW_seq fun K1 hK1 => ?_
      refine AW_region ?_
      simp (maxSteps := 10000000) [go_sem]
      refine hK1 _ ?_
      obtain ⟨e2, hU4, hR3⟩ := bind_some hM; clear hM
      refine AW_mid (ι := Unit) (fun i => ⟨20, [(1, .one (.box 1 0))], [(1, [.l (.int .i64 a0.kind), .l (.int .i64 a0.n), .l (.str a0.text), .l (.sl (a0.args.map TExpr.c))])], []⟩) (fun i => (.inl i) = e2) ?_ ?_
      · intro K5 hK5
        have hM := hU4; clear hU4
        refine AW_seq fun K6 hK6 => ?_
        refine AW_region ?_
        simp (maxSteps := 10000000) [go_sem]
        refine hK6 _ ?_
        refine AW_block ?_
        refine AW_go (ι := Int) (fun i => ⟨20, [(1, .one (.box 1 0)), (3, .one (.l (.int .i64 i)))], [(1, [.l (.int .i64 a0.kind), .l (.int .i64 a0.n), .l (.str a0.text), .l (.sl (a0.args.map TExpr.c))])], []⟩) (fun n i => s_l10All_u1 (s_l10All k) a0 n i = some e2) k 0 hM (Lift.into (by constructor <;> simp [go_sem])) (fun _ h => by simp [s_l10All_u1] at h) ?_
        intro KL7 n x1 hL7 hM
        have hM : s_l10All_u1 (s_l10All k) a0 (n + 1) x1 = some e2 := hM; rw [s_l10All_u1] at hM
        refine AW_seq fun K8 hK8 => ?_
        refine AW_seq fun K9 hK9 => ?_
        refine AW_region ?_
        simp (maxSteps := 10000000) [go_sem]
        refine hK9 _ ?_
        refine AW_cond (b := (decide (x1 < (a0.args.length : Int)))) (by simp (maxSteps := 10000000) [go_sem]) (fun h10 => ?_) (fun h10 => ?_)
        · rw [if_pos h10] at hM
          have h10' := h10; try simp at h10'
          have h10'' : ¬ ((a0.args.length : Int) ≤ x1) := by have := h10; simp at this; omega
          refine AW_skip ?_
          refine hK8 _ ?_
          refine AW_seq fun K11 hK11 => ?_
          refine AW_block ?_
          refine AW_seq fun K12 hK12 => ?_
          obtain ⟨x2, e13, hM⟩ := bind_some hM
          obtain ⟨p14, q15, l16, g17⟩ := at_spec e13
          obtain ⟨x3, e18, hM⟩ := bind_some hM
          refine AW_region ?_
          simp (maxSteps := 10000000) [go_sem, h10, h10', h10'', p14, q15, g17]
          refine by_ctr false (ih_s_l10All x2 x3 e18) (by simp (maxSteps := 10000000) [go_sem, h10, h10', h10'', p14, q15, g17]) (by simp) ?_
          simp (maxSteps := 10000000) [go_sem, h10, h10', h10'', p14, q15, g17]
          refine hK12 _ ?_
          refine AW_cond (b := (!x3)) (by simp (maxSteps := 10000000) [go_sem, h10, h10', h10'', p14, q15, g17]) (fun h19 => ?_) (fun h19 => ?_)
          · rw [if_pos h19] at hM
            have h19' := h19; try simp at h19'
            refine AW_seq fun K20 hK20 => ?_
            refine AW_region ?_
            simp (maxSteps := 10000000) [go_sem, h10, h10', h10'', p14, q15, g17, h19, h19']
            refine hK20 _ ?_
            obtain rfl := Option.some.inj hM
            have hM := hR3; dsimp only at hM
            obtain rfl := Option.some.inj hM
            refine AW_ret ?_
            simp (maxSteps := 10000000) [go_sem, h10, h10', h10'', p14, q15, g17, h19, h19']
          · rw [if_neg (ne_true h19)] at hM
            have h19' := h19; try simp at h19'
            refine AW_skip ?_
            refine hK11 _ ?_
            refine AW_region ?_
            simp (maxSteps := 10000000) [go_sem, h10, h10', h10'', p14, q15, g17, h19, h19']
            exact hL7 (IntKind.i64.wrap (x1 + 1)) _ hM (Lift.into (by constructor <;> simp [go_sem, h10, h10', h10'', p14, q15, g17, h19, h19']))
        · rw [if_neg (ne_true h10)] at hM
          have h10' := h10; try simp at h10'
          have h10'' : ¬ (x1 < (a0.args.length : Int)) := by have := h10; simp at this; omega
          refine AW_exit ?_
          obtain rfl := Option.some.inj hM
          exact hK5 () _ rfl (Lift.into (by constructor <;> simp [go_sem, h10, h10', h10'']))
      · rintro _ rfl
        have hM := hR3
        dsimp only at hM
        refine AW_seq fun K21 hK21 => ?_
        obtain ⟨x4, e22, hM⟩ := bind_some hM
        refine AW_region ?_
        simp (maxSteps := 10000000) [go_sem]
        refine by_ctr false (s_l10Node_ctr k a0 x4 e22) (by simp (maxSteps := 10000000) [go_sem]) (by simp) ?_
        simp (maxSteps := 10000000) [go_sem]
        refine hK21 _ ?_
        obtain rfl := Option.some.inj hM
        refine AW_ret ?_
        simp (maxSteps := 10000000) [go_sem]
theorem s_l10All_ctr (k : Nat) : ∀ (a0 : TExpr) (r : Bool) (hM : s_l10All k a0 = some r), Ctr Try.prog 117 [.agg (TExpr.c a0)] true [.one (.bool r)] := (s_l10All_all k)

set_option maxHeartbeats 4000000 in
set_option maxRecDepth 100000 in
theorem s_IsValidExpr_ctr (k : Nat) (a0 : TExpr) (r : Bool) (hM : s_IsValidExpr k a0 = some r) : Ctr Try.prog 99 [.agg (TExpr.c a0)] true [.one (.bool r)] := by
  unfold s_IsValidExpr at hM
  refine Ctr.of_walk (by kernel_rfl) Try.func99 rfl Try.ntmps99 Try.results99 (by simp) ?_; intro N w0 hbad
  refine AW_seq fun K1 hK1 => ?_
  refine AW_region ?_
  simp (maxSteps := 10000000) [go_sem]
  refine hK1 _ ?_
  obtain ⟨e2, hU4, hR3⟩ := bind_some hM; clear hM
  refine AW_mid (ι := Bool) (fun i => ⟨15, [(2, .one (.l (.bool i)))], [], []⟩) (fun i => i = e2) ?_ ?_
  · intro K5 hK5
    have hM := hU4; clear hU4
    obtain ⟨x2, e6, hM⟩ := bind_some hM
    by_cases h7 : (decide (0 ≤ x2)) = true
    · rw [if_pos h7] at hM
      have h7' := h7; try simp at h7'
      have h7'' : ¬ (x2 < 0) := by have := h7; simp at this; omega
      obtain ⟨x3, e8, hM⟩ := bind_some hM
      by_cases h9 : (decide (x3 ≤ 8)) = true
      · rw [if_pos h9] at hM
        have h9' := h9; try simp at h9'
        have h9'' : ¬ (8 < x3) := by have := h9; simp at this; omega
        obtain ⟨x4, e10, hM⟩ := bind_some hM
        refine AW_region ?_
        simp (maxSteps := 10000000) [go_sem, h7, h7', h7'', h9, h9', h9'']
        refine by_ctr false (s_l10Left_ctr k a0 40 x2 e6) (by simp (maxSteps := 10000000) [go_sem, h7, h7', h7'', h9, h9', h9'']) (by simp) ?_
        simp (maxSteps := 10000000) [go_sem, h7, h7', h7'', h9, h9', h9'']
        refine by_ctr false (s_NestingOf_ctr k a0 x3 e8) (by simp (maxSteps := 10000000) [go_sem, h7, h7', h7'', h9, h9', h9'']) (by simp) ?_
        simp (maxSteps := 10000000) [go_sem, h7, h7', h7'', h9, h9', h9'']
        refine by_ctr false (s_l10All_ctr k a0 x4 e10) (by simp (maxSteps := 10000000) [go_sem, h7, h7', h7'', h9, h9', h9'']) (by simp) ?_
        simp (maxSteps := 10000000) [go_sem, h7, h7', h7'', h9, h9', h9'']
        obtain rfl := Option.some.inj hM
        exact hK5 x4 _ rfl (Lift.into (by constructor <;> simp [go_sem, h7, h7', h7'', h9, h9', h9'']))
      · rw [if_neg h9] at hM
        have h9 := Bool.eq_false_iff.2 h9
        have h9' := h9; try simp at h9'
        have h9'' : ¬ (x3 ≤ 8) := by have := h9; simp at this; omega
        refine AW_region ?_
        simp (maxSteps := 10000000) [go_sem, h7, h7', h7'', h9, h9', h9'']
        refine by_ctr false (s_l10Left_ctr k a0 40 x2 e6) (by simp (maxSteps := 10000000) [go_sem, h7, h7', h7'', h9, h9', h9'']) (by simp) ?_
        simp (maxSteps := 10000000) [go_sem, h7, h7', h7'', h9, h9', h9'']
        refine by_ctr false (s_NestingOf_ctr k a0 x3 e8) (by simp (maxSteps := 10000000) [go_sem, h7, h7', h7'', h9, h9', h9'']) (by simp) ?_
        simp (maxSteps := 10000000) [go_sem, h7, h7', h7'', h9, h9', h9'']
        obtain rfl := Option.some.inj hM
        exact hK5 false _ rfl (Lift.into (by constructor <;> simp [go_sem, h7, h7', h7'', h9, h9', h9'']))
    · rw [if_neg h7] at hM
      have h7 := Bool.eq_false_iff.2 h7
      have h7' := h7; try simp at h7'
      have h7'' : ¬ (0 ≤ x2) := by have := h7; simp at this; omega
      refine AW_region ?_
      simp (maxSteps := 10000000) [go_sem, h7, h7', h7'']
      refine by_ctr false (s_l10Left_ctr k a0 40 x2 e6) (by simp (maxSteps := 10000000) [go_sem, h7, h7', h7'']) (by simp) ?_
      simp (maxSteps := 10000000) [go_sem, h7, h7', h7'']
      obtain rfl := Option.some.inj hM
      exact hK5 false _ rfl (Lift.into (by constructor <;> simp [go_sem, h7, h7', h7'']))
  · rintro x1 rfl
    have hM := hR3
    try dsimp only at hM
    obtain rfl := Option.some.inj hM
    refine AW_ret ?_
    simp (maxSteps := 10000000) [go_sem]
set_option maxHeartbeats 4000000 in
set_option maxRecDepth 100000 in
theorem s_l36Tables_ctr (a0 : ByteArray) (r : Int) (hM : s_l36Tables a0 = some r) : Ctr Try.prog 118 [.one (.str a0)] true [.one (.int .i64 r)] := by
  unfold s_l36Tables at hM
  refine Ctr.of_walk (by kernel_rfl) Try.func118 rfl Try.ntmps118 Try.results118 (by simp) ?_; intro N w0 hbad
  refine AW_seq fun K1 hK1 => ?_
  refine AW_region ?_
  simp (maxSteps := 10000000) [go_sem]
  refine hK1 _ ?_
  refine AW_seq fun K2 hK2 => ?_
  refine AW_seq fun K3 hK3 => ?_
  refine AW_region ?_
  simp (maxSteps := 10000000) [go_sem]
  refine hK3 _ ?_
  refine AW_block ?_
  obtain ⟨e4, hU6, hR5⟩ := bind_some hM; clear hM
  refine AW_mid (ι := Bool) (fun i => ⟨11, [(3, .one (.l (.str a0))), (4, .one (.l (.bool i)))], [], []⟩) (fun i => i = e4) ?_ ?_
  · intro K7 hK7
    have hM := hU6; clear hU6
    refine AW_seq fun K8 hK8 => ?_
    refine AW_region ?_
    simp (maxSteps := 10000000) [go_sem]
    refine hK8 _ ?_
    refine AW_cond (b := (decide (a0 = (⟨#[119, 104, 101, 114, 101]⟩ : ByteArray)))) (by simp (maxSteps := 10000000) [go_sem]) (fun h9 => ?_) (fun h9 => ?_)
    · rw [if_pos h9] at hM
      have h9' := h9; try simp at h9'
      refine AW_skip ?_
      obtain rfl := Option.some.inj hM
      exact hK7 true _ rfl (Lift.into (by constructor <;> simp [go_sem, h9, h9']))
    · rw [if_neg (ne_true h9)] at hM
      have h9' := h9; try simp at h9'
      refine AW_seq fun K10 hK10 => ?_
      refine AW_region ?_
      simp (maxSteps := 10000000) [go_sem, h9, h9']
      refine hK10 _ ?_
      refine AW_cond (b := (decide (a0 = (⟨#[107, 101, 101, 112]⟩ : ByteArray)))) (by simp (maxSteps := 10000000) [go_sem, h9, h9']) (fun h11 => ?_) (fun h11 => ?_)
      · rw [if_pos h11] at hM
        have h11' := h11; try simp at h11'
        refine AW_skip ?_
        obtain rfl := Option.some.inj hM
        exact hK7 true _ rfl (Lift.into (by constructor <;> simp [go_sem, h9, h9', h11, h11']))
      · rw [if_neg (ne_true h11)] at hM
        have h11' := h11; try simp at h11'
        refine AW_seq fun K12 hK12 => ?_
        refine AW_region ?_
        simp (maxSteps := 10000000) [go_sem, h9, h9', h11, h11']
        refine hK12 _ ?_
        refine AW_cond (b := (decide (a0 = (⟨#[97, 100, 100]⟩ : ByteArray)))) (by simp (maxSteps := 10000000) [go_sem, h9, h9', h11, h11']) (fun h13 => ?_) (fun h13 => ?_)
        · rw [if_pos h13] at hM
          have h13' := h13; try simp at h13'
          refine AW_skip ?_
          obtain rfl := Option.some.inj hM
          exact hK7 true _ rfl (Lift.into (by constructor <;> simp [go_sem, h9, h9', h11, h11', h13, h13']))
        · rw [if_neg (ne_true h13)] at hM
          have h13' := h13; try simp at h13'
          refine AW_region ?_
          simp (maxSteps := 10000000) [go_sem, h9, h9', h11, h11', h13, h13']
          obtain rfl := Option.some.inj hM
          exact hK7 (decide (a0 = (⟨#[103, 114, 111, 117, 112]⟩ : ByteArray))) _ rfl (Lift.into (by constructor <;> simp [go_sem, h9, h9', h11, h11', h13, h13']))
  · rintro x1 rfl
    have hM := hR5
    try dsimp only at hM
    refine AW_cond (b := x1) (by simp (maxSteps := 10000000) [go_sem]) (fun h14 => ?_) (fun h14 => ?_)
    · rw [if_pos h14] at hM
      have h14' := h14; try simp at h14'
      refine AW_seq fun K15 hK15 => ?_
      refine AW_region ?_
      simp (maxSteps := 10000000) [go_sem, h14, h14']
      refine hK15 _ ?_
      obtain rfl := Option.some.inj hM
      refine AW_ret ?_
      simp (maxSteps := 10000000) [go_sem, h14, h14']
    · rw [if_neg (ne_true h14)] at hM
      have h14' := h14; try simp at h14'
      refine AW_seq fun K16 hK16 => ?_
      refine AW_region ?_
      simp (maxSteps := 10000000) [go_sem, h14, h14']
      refine hK16 _ ?_
      refine AW_cond (b := (decide (a0 = (⟨#[106, 111, 105, 110]⟩ : ByteArray)))) (by simp (maxSteps := 10000000) [go_sem, h14, h14']) (fun h17 => ?_) (fun h17 => ?_)
      · rw [if_pos h17] at hM
        have h17' := h17; try simp at h17'
        refine AW_seq fun K18 hK18 => ?_
        refine AW_region ?_
        simp (maxSteps := 10000000) [go_sem, h14, h14', h17, h17']
        refine hK18 _ ?_
        obtain rfl := Option.some.inj hM
        refine AW_ret ?_
        simp (maxSteps := 10000000) [go_sem, h14, h14', h17, h17']
      · rw [if_neg (ne_true h17)] at hM
        have h17' := h17; try simp at h17'
        refine AW_skip ?_
        refine hK2 _ ?_
        refine AW_seq fun K19 hK19 => ?_
        refine AW_region ?_
        simp (maxSteps := 10000000) [go_sem, h14, h14', h17, h17']
        refine hK19 _ ?_
        obtain rfl := Option.some.inj hM
        refine AW_ret ?_
        simp (maxSteps := 10000000) [go_sem, h14, h14', h17, h17']
set_option maxHeartbeats 4000000 in
set_option maxRecDepth 100000 in
theorem s_l36Pipe_all : ∀ (k : Nat), (∀ (a0 : TExpr) (r : Bool) (hM : s_l36Pipe k a0 = some r), Ctr Try.prog 100 [.agg (TExpr.c a0)] true [.one (.bool r)]) := by
  intro k
  induction k with
  | zero => intro a0 r hM; simp [s_l36Pipe] at hM
  | succ k ih_s_l36Pipe =>
    · intro a0 r hM
      rw [s_l36Pipe] at hM
      refine Ctr.of_walk (by kernel_rfl) Try.func100 rfl Try.ntmps100 Try.results100 (by simp) ?_; intro N w0 hbad
      refine AW_seq fun K1 hK1 => ?_
      refine AW_region ?_
      simp (maxSteps := 10000000) [go_sem]
      refine hK1 _ ?_
      refine AW_seq fun K2 hK2 => ?_
      refine AW_seq fun K3 hK3 => ?_
      refine AW_region ?_
      simp (maxSteps := 10000000) [go_sem]
      refine hK3 _ ?_
      refine AW_cond (b := (decide (a0.kind = 3))) (by simp (maxSteps := 10000000) [go_sem]) (fun h4 => ?_) (fun h4 => ?_)
      · rw [if_pos h4] at hM
        have h4' := h4; try simp at h4'
        refine AW_seq fun K5 hK5 => ?_
        refine AW_region ?_
        simp (maxSteps := 10000000) [go_sem, h4, h4']
        refine hK5 _ ?_
        obtain rfl := Option.some.inj hM
        refine AW_ret ?_
        simp (maxSteps := 10000000) [go_sem, h4, h4']
      · rw [if_neg (ne_true h4)] at hM
        have h4' := h4; try simp at h4'
        refine AW_skip ?_
        refine hK2 _ ?_
        refine AW_seq fun K6 hK6 => ?_
        obtain ⟨x1, e7, hM⟩ := bind_some hM
        refine AW_region ?_
        simp (maxSteps := 10000000) [go_sem, h4, h4']
        refine by_ctr false (s_l36Tables_ctr a0.text x1 e7) (by simp (maxSteps := 10000000) [go_sem, h4, h4']) (by simp) ?_
        simp (maxSteps := 10000000) [go_sem, h4, h4']
        refine hK6 _ ?_
        refine AW_seq fun K8 hK8 => ?_
        obtain ⟨e9, hU11, hR10⟩ := bind_some hM; clear hM
        refine AW_mid (ι := Bool) (fun i => ⟨62, [(1, .one (.box 1 0)), (3, .one (.l (.int .i64 x1))), (18, .one (.l (.bool i)))], [(1, [.l (.int .i64 a0.kind), .l (.int .i64 a0.n), .l (.str a0.text), .l (.sl (a0.args.map TExpr.c))])], []⟩) (fun i => i = e9) ?_ ?_
        · intro K12 hK12
          have hM := hU11; clear hU11
          by_cases h13 : (!decide (a0.kind = 5)) = true
          · rw [if_pos h13] at hM
            have h13' := h13; try simp at h13'
            refine AW_region ?_
            simp (maxSteps := 10000000) [go_sem, h4, h4', h13, h13']
            obtain rfl := Option.some.inj hM
            exact hK12 true _ rfl (Lift.into (by constructor <;> simp [go_sem, h4, h4', h13, h13']))
          · rw [if_neg h13] at hM
            have h13 := Bool.eq_false_iff.2 h13
            have h13' := h13; try simp at h13'
            refine AW_region ?_
            simp (maxSteps := 10000000) [go_sem, h4, h4', h13, h13']
            obtain rfl := Option.some.inj hM
            exact hK12 (decide (x1 = 0)) _ rfl (Lift.into (by constructor <;> simp [go_sem, h4, h4', h13, h13']))
        · rintro x2 rfl
          have hM := hR10
          try dsimp only at hM
          refine AW_cond (b := x2) (by simp (maxSteps := 10000000) [go_sem, h4, h4']) (fun h14 => ?_) (fun h14 => ?_)
          · rw [if_pos h14] at hM
            have h14' := h14; try simp at h14'
            refine AW_seq fun K15 hK15 => ?_
            refine AW_region ?_
            simp (maxSteps := 10000000) [go_sem, h4, h4', h14, h14']
            refine hK15 _ ?_
            obtain rfl := Option.some.inj hM
            refine AW_ret ?_
            simp (maxSteps := 10000000) [go_sem, h4, h4', h14, h14']
          · rw [if_neg (ne_true h14)] at hM
            have h14' := h14; try simp at h14'
            refine AW_skip ?_
            refine hK8 _ ?_
            obtain ⟨e16, hU18, hR17⟩ := bind_some hM; clear hM
            refine AW_mid (ι := Unit) (fun i => ⟨62, [], [], []⟩) (fun i => (.inl i) = e16) ?_ ?_
            · intro K19 hK19
              have hM := hU18; clear hU18
              refine AW_seq fun K20 hK20 => ?_
              refine AW_region ?_
              simp (maxSteps := 10000000) [go_sem, h4, h4', h14, h14']
              refine hK20 _ ?_
              refine AW_block ?_
              refine AW_go (ι := Int) (fun i => ⟨62, [(1, .one (.box 1 0)), (3, .one (.l (.int .i64 x1))), (4, .one (.l (.int .i64 i)))], [(1, [.l (.int .i64 a0.kind), .l (.int .i64 a0.n), .l (.str a0.text), .l (.sl (a0.args.map TExpr.c))])], []⟩) (fun n i => s_l36Pipe_u1 (s_l36Pipe k) a0 x1 n i = some e16) k 0 hM (Lift.into (by constructor <;> simp [go_sem, h4, h4', h14, h14'])) (fun _ h => by simp [s_l36Pipe_u1] at h) ?_
              intro KL21 n x3 hL21 hM
              have hM : s_l36Pipe_u1 (s_l36Pipe k) a0 x1 (n + 1) x3 = some e16 := hM; rw [s_l36Pipe_u1] at hM
              refine AW_seq fun K22 hK22 => ?_
              refine AW_seq fun K23 hK23 => ?_
              refine AW_region ?_
              simp (maxSteps := 10000000) [go_sem]
              refine hK23 _ ?_
              refine AW_cond (b := (decide (x3 < (a0.args.length : Int)))) (by simp (maxSteps := 10000000) [go_sem]) (fun h24 => ?_) (fun h24 => ?_)
              · rw [if_pos h24] at hM
                have h24' := h24; try simp at h24'
                have h24'' : ¬ ((a0.args.length : Int) ≤ x3) := by have := h24; simp at this; omega
                refine AW_skip ?_
                refine hK22 _ ?_
                refine AW_seq fun K25 hK25 => ?_
                refine AW_block ?_
                refine AW_seq fun K26 hK26 => ?_
                obtain ⟨x4, e27, hM⟩ := bind_some hM
                obtain ⟨p28, q29, l30, g31⟩ := at_spec e27
                refine AW_region ?_
                simp (maxSteps := 10000000) [go_sem, h24, h24', h24'', p28, q29, g31]
                refine hK26 _ ?_
                obtain ⟨e32, hU34, hR33⟩ := bind_some hM; clear hM
                refine AW_mid (ι := Bool) (fun i => ⟨62, [(1, .one (.box 1 0)), (3, .one (.l (.int .i64 x1))), (4, .one (.l (.int .i64 x3))), (61, .one (.l (.bool i)))], [(1, [.l (.int .i64 a0.kind), .l (.int .i64 a0.n), .l (.str a0.text), .l (.sl (a0.args.map TExpr.c))])], []⟩) (fun i => i = e32) ?_ ?_
                · intro K35 hK35
                  have hM := hU34; clear hU34
                  by_cases h36 : (decide (x3 < (IntKind.i64.wrap ((a0.args.length : Int) - x1)))) = true
                  · rw [if_pos h36] at hM
                    have h36' := h36; try simp at h36'
                    have h36'' : ¬ ((IntKind.i64.wrap ((a0.args.length : Int) - x1)) ≤ x3) := by have := h36; simp at this; omega
                    by_cases h37 : (!decide (x4.kind = 1)) = true
                    · rw [if_pos h37] at hM
                      have h37' := h37; try simp at h37'
                      by_cases h38 : (!decide (x4.kind = 2)) = true
                      · rw [if_pos h38] at hM
                        have h38' := h38; try simp at h38'
                        refine AW_region ?_
                        simp (maxSteps := 10000000) [go_sem, h24, h24', h24'', p28, q29, g31, h36, h36', h36'', h37, h37', h38, h38']
                        obtain rfl := Option.some.inj hM
                        exact hK35 true _ rfl (Lift.into (by constructor <;> simp [go_sem, h24, h24', h24'', p28, q29, g31, h36, h36', h36'', h37, h37', h38, h38']))
                      · rw [if_neg h38] at hM
                        have h38 := Bool.eq_false_iff.2 h38
                        have h38' := h38; try simp at h38'
                        refine AW_region ?_
                        simp (maxSteps := 10000000) [go_sem, h24, h24', h24'', p28, q29, g31, h36, h36', h36'', h37, h37', h38, h38']
                        obtain rfl := Option.some.inj hM
                        exact hK35 false _ rfl (Lift.into (by constructor <;> simp [go_sem, h24, h24', h24'', p28, q29, g31, h36, h36', h36'', h37, h37', h38, h38']))
                    · rw [if_neg h37] at hM
                      have h37 := Bool.eq_false_iff.2 h37
                      have h37' := h37; try simp at h37'
                      refine AW_region ?_
                      simp (maxSteps := 10000000) [go_sem, h24, h24', h24'', p28, q29, g31, h36, h36', h36'', h37, h37']
                      obtain rfl := Option.some.inj hM
                      exact hK35 false _ rfl (Lift.into (by constructor <;> simp [go_sem, h24, h24', h24'', p28, q29, g31, h36, h36', h36'', h37, h37']))
                  · rw [if_neg h36] at hM
                    have h36 := Bool.eq_false_iff.2 h36
                    have h36' := h36; try simp at h36'
                    have h36'' : ¬ (x3 < (IntKind.i64.wrap ((a0.args.length : Int) - x1))) := by have := h36; simp at this; omega
                    obtain ⟨x6, e39, hM⟩ := bind_some hM
                    refine AW_region ?_
                    simp (maxSteps := 10000000) [go_sem, h24, h24', h24'', p28, q29, g31, h36, h36', h36'']
                    refine by_ctr false (ih_s_l36Pipe x4 x6 e39) (by simp (maxSteps := 10000000) [go_sem, h24, h24', h24'', p28, q29, g31, h36, h36', h36'']) (by simp) ?_
                    simp (maxSteps := 10000000) [go_sem, h24, h24', h24'', p28, q29, g31, h36, h36', h36'']
                    obtain rfl := Option.some.inj hM
                    exact hK35 (!x6) _ rfl (Lift.into (by constructor <;> simp [go_sem, h24, h24', h24'', p28, q29, g31, h36, h36', h36'']))
                · rintro x5 rfl
                  have hM := hR33
                  try dsimp only at hM
                  refine AW_cond (b := x5) (by simp (maxSteps := 10000000) [go_sem, h24, h24', h24'', p28, q29, g31]) (fun h40 => ?_) (fun h40 => ?_)
                  · rw [if_pos h40] at hM
                    have h40' := h40; try simp at h40'
                    refine AW_seq fun K41 hK41 => ?_
                    refine AW_region ?_
                    simp (maxSteps := 10000000) [go_sem, h24, h24', h24'', p28, q29, g31, h40, h40']
                    refine hK41 _ ?_
                    obtain rfl := Option.some.inj hM
                    have hM := hR17; dsimp only at hM
                    obtain rfl := Option.some.inj hM
                    refine AW_ret ?_
                    simp (maxSteps := 10000000) [go_sem, h24, h24', h24'', p28, q29, g31, h40, h40']
                  · rw [if_neg (ne_true h40)] at hM
                    have h40' := h40; try simp at h40'
                    refine AW_skip ?_
                    refine hK25 _ ?_
                    refine AW_region ?_
                    simp (maxSteps := 10000000) [go_sem, h24, h24', h24'', p28, q29, g31, h40, h40']
                    exact hL21 (IntKind.i64.wrap (x3 + 1)) _ hM (Lift.into (by constructor <;> simp [go_sem, h24, h24', h24'', p28, q29, g31, h40, h40']))
              · rw [if_neg (ne_true h24)] at hM
                have h24' := h24; try simp at h24'
                have h24'' : ¬ (x3 < (a0.args.length : Int)) := by have := h24; simp at this; omega
                refine AW_exit ?_
                obtain rfl := Option.some.inj hM
                exact hK19 () _ rfl (Lift.into (by constructor <;> simp [go_sem, h24, h24', h24'']))
            · rintro _ rfl
              have hM := hR17
              dsimp only at hM
              refine AW_seq fun K42 hK42 => ?_
              refine AW_region ?_
              simp (maxSteps := 10000000) [go_sem, h4, h4', h14, h14']
              refine hK42 _ ?_
              obtain rfl := Option.some.inj hM
              refine AW_ret ?_
              simp (maxSteps := 10000000) [go_sem, h4, h4', h14, h14']
theorem s_l36Pipe_ctr (k : Nat) : ∀ (a0 : TExpr) (r : Bool) (hM : s_l36Pipe k a0 = some r), Ctr Try.prog 100 [.agg (TExpr.c a0)] true [.one (.bool r)] := (s_l36Pipe_all k)

set_option maxHeartbeats 4000000 in
set_option maxRecDepth 100000 in
theorem s_IsPipeline_ctr (k : Nat) (a0 : TExpr) (r : Bool) (hM : s_IsPipeline k a0 = some r) : Ctr Try.prog 55 [.agg (TExpr.c a0)] true [.one (.bool r)] := by
  unfold s_IsPipeline at hM
  refine Ctr.of_walk (by kernel_rfl) Try.func55 rfl Try.ntmps55 Try.results55 (by simp) ?_; intro N w0 hbad
  refine AW_seq fun K1 hK1 => ?_
  refine AW_region ?_
  simp (maxSteps := 10000000) [go_sem]
  refine hK1 _ ?_
  obtain ⟨e2, hU4, hR3⟩ := bind_some hM; clear hM
  refine AW_mid (ι := Bool) (fun i => ⟨9, [(2, .one (.l (.bool i)))], [], []⟩) (fun i => i = e2) ?_ ?_
  · intro K5 hK5
    have hM := hU4; clear hU4
    obtain ⟨x2, e6, hM⟩ := bind_some hM
    by_cases h7 : x2 = true
    · rw [if_pos h7] at hM
      have h7' := h7; try simp at h7'
      obtain ⟨x3, e8, hM⟩ := bind_some hM
      refine AW_region ?_
      simp (maxSteps := 10000000) [go_sem, h7, h7']
      refine by_ctr false (s_IsValidExpr_ctr k a0 x2 e6) (by simp (maxSteps := 10000000) [go_sem, h7, h7']) (by simp) ?_
      simp (maxSteps := 10000000) [go_sem, h7, h7']
      refine by_ctr false (s_l36Pipe_ctr k a0 x3 e8) (by simp (maxSteps := 10000000) [go_sem, h7, h7']) (by simp) ?_
      simp (maxSteps := 10000000) [go_sem, h7, h7']
      obtain rfl := Option.some.inj hM
      exact hK5 x3 _ rfl (Lift.into (by constructor <;> simp [go_sem, h7, h7']))
    · rw [if_neg h7] at hM
      have h7 := Bool.eq_false_iff.2 h7
      have h7' := h7; try simp at h7'
      refine AW_region ?_
      simp (maxSteps := 10000000) [go_sem, h7, h7']
      refine by_ctr false (s_IsValidExpr_ctr k a0 x2 e6) (by simp (maxSteps := 10000000) [go_sem, h7, h7']) (by simp) ?_
      simp (maxSteps := 10000000) [go_sem, h7, h7']
      obtain rfl := Option.some.inj hM
      exact hK5 false _ rfl (Lift.into (by constructor <;> simp [go_sem, h7, h7']))
  · rintro x1 rfl
    have hM := hR3
    try dsimp only at hM
    obtain rfl := Option.some.inj hM
    refine AW_ret ?_
    simp (maxSteps := 10000000) [go_sem]
set_option maxHeartbeats 4000000 in
set_option maxRecDepth 100000 in
theorem i_NodeCount_all : ∀ (k : Nat), (∀ (a0 : TExpr) (r : Int) (hM : i_NodeCount k a0 = some r), Ctr Try.prog 119 [.agg (TExpr.c a0)] true [.one (.int .i64 r)]) := by
  intro k
  induction k with
  | zero => intro a0 r hM; simp [i_NodeCount] at hM
  | succ k ih_i_NodeCount =>
    · intro a0 r hM
      rw [i_NodeCount] at hM
      refine Ctr.of_walk (by kernel_rfl) Try.func119 rfl Try.ntmps119 Try.results119 (by simp) ?_; intro N w0 hbad
      refine AW_seq fun K1 hK1 => ?_
      refine AW_region ?_
      simp (maxSteps := 10000000) [go_sem]
      refine hK1 _ ?_
      refine AW_seq fun K2 hK2 => ?_
      refine AW_region ?_
      simp (maxSteps := 10000000) [go_sem]
      refine hK2 _ ?_
      obtain ⟨e3, hU5, hR4⟩ := bind_some hM; clear hM
      refine AW_mid (ι := Int) (fun i => ⟨19, [(3, .one (.l (.int .i64 i)))], [], []⟩) (fun i => i = e3) ?_ ?_
      · intro K6 hK6
        have hM := hU5; clear hU5
        refine AW_seq fun K7 hK7 => ?_
        refine AW_region ?_
        simp (maxSteps := 10000000) [go_sem]
        refine hK7 _ ?_
        refine AW_block ?_
        refine AW_go (ι := Int × Int) (fun i => ⟨19, [(3, .one (.l (.int .i64 i.1))), (7, .one (.l (.sl (a0.args.map TExpr.c)))), (8, .one (.l (.int .i64 (a0.args.length : Int)))), (9, .one (.l (.int .i64 i.2)))], [], []⟩) (fun n i => i_NodeCount_u1 (i_NodeCount k) a0 n i.1 i.2 = some e3) k (1, 0) hM (Lift.into (by constructor <;> simp [go_sem])) (fun _ h => by simp [i_NodeCount_u1] at h) ?_
        intro KL8 n ⟨x2, x3⟩ hL8 hM
        have hM : i_NodeCount_u1 (i_NodeCount k) a0 (n + 1) x2 x3 = some e3 := hM; rw [i_NodeCount_u1] at hM
        refine AW_seq fun K9 hK9 => ?_
        refine AW_region ?_
        simp (maxSteps := 10000000) [go_sem]
        refine hK9 _ ?_
        refine AW_seq fun K10 hK10 => ?_
        refine AW_cond (b := (decide (x3 < (a0.args.length : Int)))) (by simp (maxSteps := 10000000) [go_sem]) (fun h11 => ?_) (fun h11 => ?_)
        · rw [if_pos h11] at hM
          have h11' := h11; try simp at h11'
          have h11'' : ¬ ((a0.args.length : Int) ≤ x3) := by have := h11; simp at this; omega
          refine AW_skip ?_
          refine hK10 _ ?_
          refine AW_seq fun K12 hK12 => ?_
          refine AW_block ?_
          refine AW_seq fun K13 hK13 => ?_
          obtain ⟨x4, e14, hM⟩ := bind_some hM
          obtain ⟨p15, q16, l17, g18⟩ := at_spec e14
          refine AW_region ?_
          simp (maxSteps := 10000000) [go_sem, h11, h11', h11'', p15, q16, g18]
          refine hK13 _ ?_
          obtain ⟨x5, e19, hM⟩ := bind_some hM
          refine AW_region ?_
          simp (maxSteps := 10000000) [go_sem, h11, h11', h11'', p15, q16, g18]
          refine by_ctr false (ih_i_NodeCount x4 x5 e19) (by simp (maxSteps := 10000000) [go_sem, h11, h11', h11'', p15, q16, g18]) (by simp) ?_
          simp (maxSteps := 10000000) [go_sem, h11, h11', h11'', p15, q16, g18]
          refine hK12 _ ?_
          refine AW_region ?_
          simp (maxSteps := 10000000) [go_sem, h11, h11', h11'', p15, q16, g18]
          exact hL8 ((IntKind.i64.wrap (x2 + x5)), (IntKind.i64.wrap (x3 + 1))) _ hM (Lift.into (by constructor <;> simp [go_sem, h11, h11', h11'', p15, q16, g18]))
        · rw [if_neg (ne_true h11)] at hM
          have h11' := h11; try simp at h11'
          have h11'' : ¬ (x3 < (a0.args.length : Int)) := by have := h11; simp at this; omega
          refine AW_exit ?_
          obtain rfl := Option.some.inj hM
          exact hK6 x2 _ rfl (Lift.into (by constructor <;> simp [go_sem, h11, h11', h11'']))
      · rintro x1 rfl
        have hM := hR4
        try dsimp only at hM
        refine AW_seq fun K20 hK20 => ?_
        refine AW_region ?_
        simp (maxSteps := 10000000) [go_sem]
        refine hK20 _ ?_
        obtain rfl := Option.some.inj hM
        refine AW_ret ?_
        simp (maxSteps := 10000000) [go_sem]
theorem i_NodeCount_ctr (k : Nat) : ∀ (a0 : TExpr) (r : Int) (hM : i_NodeCount k a0 = some r), Ctr Try.prog 119 [.agg (TExpr.c a0)] true [.one (.int .i64 r)] := (i_NodeCount_all k)

set_option maxHeartbeats 4000000 in
set_option maxRecDepth 100000 in
theorem i_NestingOf_all : ∀ (k : Nat), (∀ (a0 : TExpr) (r : Int) (hM : i_NestingOf k a0 = some r), Ctr Try.prog 120 [.agg (TExpr.c a0)] true [.one (.int .i64 r)]) := by
  intro k
  induction k with
  | zero => intro a0 r hM; simp [i_NestingOf] at hM
  | succ k ih_i_NestingOf =>
    · intro a0 r hM
      rw [i_NestingOf] at hM
      refine Ctr.of_walk (by kernel_rfl) Try.func120 rfl Try.ntmps120 Try.results120 (by simp) ?_; intro N w0 hbad
      refine AW_seq fun K1 hK1 => ?_
      refine AW_region ?_
      simp (maxSteps := 10000000) [go_sem]
      refine hK1 _ ?_
      refine AW_seq fun K2 hK2 => ?_
      refine AW_region ?_
      simp (maxSteps := 10000000) [go_sem]
      refine hK2 _ ?_
      obtain ⟨e3, hU5, hR4⟩ := bind_some hM; clear hM
      refine AW_mid (ι := Int) (fun i => ⟨20, [(3, .one (.l (.int .i64 i)))], [], []⟩) (fun i => i = e3) ?_ ?_
      · intro K6 hK6
        have hM := hU5; clear hU5
        refine AW_seq fun K7 hK7 => ?_
        refine AW_region ?_
        simp (maxSteps := 10000000) [go_sem]
        refine hK7 _ ?_
        refine AW_block ?_
        refine AW_go (ι := Int × Int) (fun i => ⟨20, [(3, .one (.l (.int .i64 i.1))), (7, .one (.l (.sl (a0.args.map TExpr.c)))), (8, .one (.l (.int .i64 (a0.args.length : Int)))), (9, .one (.l (.int .i64 i.2)))], [], []⟩) (fun n i => i_NestingOf_u1 (i_NestingOf k) a0 n i.1 i.2 = some e3) k (0, 0) hM (Lift.into (by constructor <;> simp [go_sem])) (fun _ h => by simp [i_NestingOf_u1] at h) ?_
        intro KL8 n ⟨x2, x3⟩ hL8 hM
        have hM : i_NestingOf_u1 (i_NestingOf k) a0 (n + 1) x2 x3 = some e3 := hM; rw [i_NestingOf_u1] at hM
        refine AW_seq fun K9 hK9 => ?_
        refine AW_region ?_
        simp (maxSteps := 10000000) [go_sem]
        refine hK9 _ ?_
        refine AW_seq fun K10 hK10 => ?_
        refine AW_cond (b := (decide (x3 < (a0.args.length : Int)))) (by simp (maxSteps := 10000000) [go_sem]) (fun h11 => ?_) (fun h11 => ?_)
        · rw [if_pos h11] at hM
          have h11' := h11; try simp at h11'
          have h11'' : ¬ ((a0.args.length : Int) ≤ x3) := by have := h11; simp at this; omega
          refine AW_skip ?_
          refine hK10 _ ?_
          refine AW_seq fun K12 hK12 => ?_
          refine AW_block ?_
          refine AW_seq fun K13 hK13 => ?_
          obtain ⟨x4, e14, hM⟩ := bind_some hM
          obtain ⟨p15, q16, l17, g18⟩ := at_spec e14
          refine AW_region ?_
          simp (maxSteps := 10000000) [go_sem, h11, h11', h11'', p15, q16, g18]
          refine hK13 _ ?_
          obtain ⟨x5, e19, hM⟩ := bind_some hM
          refine AW_region ?_
          simp (maxSteps := 10000000) [go_sem, h11, h11', h11'', p15, q16, g18]
          refine by_ctr false (ih_i_NestingOf x4 x5 e19) (by simp (maxSteps := 10000000) [go_sem, h11, h11', h11'', p15, q16, g18]) (by simp) ?_
          simp (maxSteps := 10000000) [go_sem, h11, h11', h11'', p15, q16, g18]
          refine hK12 _ ?_
          refine AW_region ?_
          simp (maxSteps := 10000000) [go_sem, h11, h11', h11'', p15, q16, g18]
          exact hL8 ((if x5 > x2 then x5 else x2), (IntKind.i64.wrap (x3 + 1))) _ hM (Lift.into (by constructor <;> simp [go_sem, h11, h11', h11'', p15, q16, g18]))
        · rw [if_neg (ne_true h11)] at hM
          have h11' := h11; try simp at h11'
          have h11'' : ¬ (x3 < (a0.args.length : Int)) := by have := h11; simp at this; omega
          refine AW_exit ?_
          obtain rfl := Option.some.inj hM
          exact hK6 x2 _ rfl (Lift.into (by constructor <;> simp [go_sem, h11, h11', h11'']))
      · rintro x1 rfl
        have hM := hR4
        try dsimp only at hM
        refine AW_seq fun K20 hK20 => ?_
        refine AW_region ?_
        simp (maxSteps := 10000000) [go_sem]
        refine hK20 _ ?_
        obtain rfl := Option.some.inj hM
        refine AW_ret ?_
        simp (maxSteps := 10000000) [go_sem]
theorem i_NestingOf_ctr (k : Nat) : ∀ (a0 : TExpr) (r : Int) (hM : i_NestingOf k a0 = some r), Ctr Try.prog 120 [.agg (TExpr.c a0)] true [.one (.int .i64 r)] := (i_NestingOf_all k)

set_option maxHeartbeats 4000000 in
set_option maxRecDepth 100000 in
theorem i_IsValidText_ctr (k : Nat) (a0 : ByteArray) (r : Bool) (hM : i_IsValidText k a0 = some r) : Ctr Try.prog 128 [.one (.str a0)] true [.one (.bool r)] := by
  unfold i_IsValidText at hM
  refine Ctr.of_walk (by kernel_rfl) Try.func128 rfl Try.ntmps128 Try.results128 (by simp) ?_; intro N w0 hbad
  refine AW_seq fun K1 hK1 => ?_
  refine AW_region ?_
  simp (maxSteps := 10000000) [go_sem]
  refine hK1 _ ?_
  obtain ⟨e2, hU4, hR3⟩ := bind_some hM; clear hM
  refine AW_mid (ι := Unit) (fun i => ⟨29, [(0, .one (.l (.str a0)))], [], []⟩) (fun i => (.inl i) = e2) ?_ ?_
  · intro K5 hK5
    have hM := hU4; clear hU4
    refine AW_seq fun K6 hK6 => ?_
    refine AW_region ?_
    simp (maxSteps := 10000000) [go_sem]
    refine hK6 _ ?_
    refine AW_block ?_
    refine AW_go (ι := Int) (fun i => ⟨29, [(0, .one (.l (.str a0))), (3, .one (.l (.int .i64 i)))], [], []⟩) (fun n i => i_IsValidText_u1 a0 n i = some e2) k 0 hM (Lift.into (by constructor <;> simp [go_sem])) (fun _ h => by simp [i_IsValidText_u1] at h) ?_
    intro KL7 n x1 hL7 hM
    have hM : i_IsValidText_u1 a0 (n + 1) x1 = some e2 := hM; rw [i_IsValidText_u1] at hM
    refine AW_seq fun K8 hK8 => ?_
    refine AW_seq fun K9 hK9 => ?_
    refine AW_region ?_
    simp (maxSteps := 10000000) [go_sem]
    refine hK9 _ ?_
    refine AW_cond (b := (decide (x1 < (a0.size : Int)))) (by simp (maxSteps := 10000000) [go_sem]) (fun h10 => ?_) (fun h10 => ?_)
    · rw [if_pos h10] at hM
      have h10' := h10; try simp at h10'
      have h10'' : ¬ ((a0.size : Int) ≤ x1) := by have := h10; simp at this; omega
      refine AW_skip ?_
      refine hK8 _ ?_
      refine AW_seq fun K11 hK11 => ?_
      refine AW_block ?_
      obtain ⟨e12, hU14, hR13⟩ := bind_some hM; clear hM
      refine AW_mid (ι := Bool) (fun i => ⟨29, [(0, .one (.l (.str a0))), (3, .one (.l (.int .i64 x1))), (25, .one (.l (.bool i)))], [], []⟩) (fun i => i = e12) ?_ ?_
      · intro K15 hK15
        have hM := hU14; clear hU14
        obtain ⟨x3, e16, hM⟩ := bind_some hM
        obtain ⟨p17, q18, l19, g20⟩ := at_spec e16
        by_cases h21 : (decide ((x3.toNat : Int) < 32)) = true
        · rw [if_pos h21] at hM
          have h21' := h21; try simp at h21'
          have h21'' : ¬ (32 ≤ (x3.toNat : Int)) := by have := h21; simp at this; omega
          refine AW_region ?_
          simp (maxSteps := 10000000) [go_sem, h10, h10', h10'', p17, q18, g20, h21, h21', h21'']
          obtain rfl := Option.some.inj hM
          exact hK15 true _ rfl (Lift.into (by constructor <;> simp [go_sem, h10, h10', h10'', p17, q18, g20, h21, h21', h21'']))
        · rw [if_neg h21] at hM
          have h21 := Bool.eq_false_iff.2 h21
          have h21' := h21; try simp at h21'
          have h21'' : ¬ ((x3.toNat : Int) < 32) := by have := h21; simp at this; omega
          by_cases h22 : (decide (126 < (x3.toNat : Int))) = true
          · rw [if_pos h22] at hM
            have h22' := h22; try simp at h22'
            have h22'' : ¬ ((x3.toNat : Int) ≤ 126) := by have := h22; simp at this; omega
            refine AW_region ?_
            simp (maxSteps := 10000000) [go_sem, h10, h10', h10'', p17, q18, g20, h21, h21', h21'', h22, h22', h22'']
            obtain rfl := Option.some.inj hM
            exact hK15 true _ rfl (Lift.into (by constructor <;> simp [go_sem, h10, h10', h10'', p17, q18, g20, h21, h21', h21'', h22, h22', h22'']))
          · rw [if_neg h22] at hM
            have h22 := Bool.eq_false_iff.2 h22
            have h22' := h22; try simp at h22'
            have h22'' : ¬ (126 < (x3.toNat : Int)) := by have := h22; simp at this; omega
            refine AW_region ?_
            simp (maxSteps := 10000000) [go_sem, h10, h10', h10'', p17, q18, g20, h21, h21', h21'', h22, h22', h22'']
            obtain rfl := Option.some.inj hM
            exact hK15 (decide ((x3.toNat : Int) = 34)) _ rfl (Lift.into (by constructor <;> simp [go_sem, h10, h10', h10'', p17, q18, g20, h21, h21', h21'', h22, h22', h22'']))
      · rintro x2 rfl
        have hM := hR13
        try dsimp only at hM
        refine AW_cond (b := x2) (by simp (maxSteps := 10000000) [go_sem, h10, h10', h10'']) (fun h23 => ?_) (fun h23 => ?_)
        · rw [if_pos h23] at hM
          have h23' := h23; try simp at h23'
          refine AW_seq fun K24 hK24 => ?_
          refine AW_region ?_
          simp (maxSteps := 10000000) [go_sem, h10, h10', h10'', h23, h23']
          refine hK24 _ ?_
          obtain rfl := Option.some.inj hM
          have hM := hR3; dsimp only at hM
          obtain rfl := Option.some.inj hM
          refine AW_ret ?_
          simp (maxSteps := 10000000) [go_sem, h10, h10', h10'', h23, h23']
        · rw [if_neg (ne_true h23)] at hM
          have h23' := h23; try simp at h23'
          refine AW_skip ?_
          refine hK11 _ ?_
          refine AW_region ?_
          simp (maxSteps := 10000000) [go_sem, h10, h10', h10'', h23, h23']
          exact hL7 (IntKind.i64.wrap (x1 + 1)) _ hM (Lift.into (by constructor <;> simp [go_sem, h10, h10', h10'', h23, h23']))
    · rw [if_neg (ne_true h10)] at hM
      have h10' := h10; try simp at h10'
      have h10'' : ¬ (x1 < (a0.size : Int)) := by have := h10; simp at this; omega
      refine AW_exit ?_
      obtain rfl := Option.some.inj hM
      exact hK5 () _ rfl (Lift.into (by constructor <;> simp [go_sem, h10, h10', h10'']))
  · rintro _ rfl
    have hM := hR3
    dsimp only at hM
    refine AW_seq fun K25 hK25 => ?_
    refine AW_region ?_
    simp (maxSteps := 10000000) [go_sem]
    refine hK25 _ ?_
    obtain rfl := Option.some.inj hM
    refine AW_ret ?_
    simp (maxSteps := 10000000) [go_sem]
set_option maxHeartbeats 4000000 in
set_option maxRecDepth 100000 in
theorem i_isWord_ctr (k : Nat) (a0 : ByteArray) (r : Bool) (hM : i_isWord k a0 = some r) : Ctr Try.prog 133 [.one (.str a0)] true [.one (.bool r)] := by
  unfold i_isWord at hM
  refine Ctr.of_walk (by kernel_rfl) Try.func133 rfl Try.ntmps133 Try.results133 (by simp) ?_; intro N w0 hbad
  refine AW_seq fun K1 hK1 => ?_
  refine AW_region ?_
  simp (maxSteps := 10000000) [go_sem]
  refine hK1 _ ?_
  obtain ⟨e2, hU4, hR3⟩ := bind_some hM; clear hM
  refine AW_mid (ι := Unit) (fun i => ⟨42, [(0, .one (.l (.str a0)))], [], []⟩) (fun i => (.inl i) = e2) ?_ ?_
  · intro K5 hK5
    have hM := hU4; clear hU4
    refine AW_seq fun K6 hK6 => ?_
    refine AW_region ?_
    simp (maxSteps := 10000000) [go_sem]
    refine hK6 _ ?_
    refine AW_block ?_
    refine AW_go (ι := Int) (fun i => ⟨42, [(0, .one (.l (.str a0))), (3, .one (.l (.int .i64 i)))], [], []⟩) (fun n i => i_isWord_u1 a0 n i = some e2) k 0 hM (Lift.into (by constructor <;> simp [go_sem])) (fun _ h => by simp [i_isWord_u1] at h) ?_
    intro KL7 n x1 hL7 hM
    have hM : i_isWord_u1 a0 (n + 1) x1 = some e2 := hM; rw [i_isWord_u1] at hM
    refine AW_seq fun K8 hK8 => ?_
    refine AW_seq fun K9 hK9 => ?_
    refine AW_region ?_
    simp (maxSteps := 10000000) [go_sem]
    refine hK9 _ ?_
    refine AW_cond (b := (decide (x1 < (a0.size : Int)))) (by simp (maxSteps := 10000000) [go_sem]) (fun h10 => ?_) (fun h10 => ?_)
    · rw [if_pos h10] at hM
      have h10' := h10; try simp at h10'
      have h10'' : ¬ ((a0.size : Int) ≤ x1) := by have := h10; simp at this; omega
      refine AW_skip ?_
      refine hK8 _ ?_
      refine AW_seq fun K11 hK11 => ?_
      refine AW_block ?_
      obtain ⟨e12, hU14, hR13⟩ := bind_some hM; clear hM
      refine AW_mid (ι := Bool) (fun i => ⟨42, [(0, .one (.l (.str a0))), (3, .one (.l (.int .i64 x1))), (4, .one (.l (.bool i)))], [], []⟩) (fun i => i = e12) ?_ ?_
      · intro K15 hK15
        have hM := hU14; clear hU14
        obtain ⟨x3, e16, hM⟩ := bind_some hM
        obtain ⟨p17, q18, l19, g20⟩ := at_spec e16
        by_cases h21 : (decide (97 ≤ (x3.toNat : Int))) = true
        · rw [if_pos h21] at hM
          have h21' := h21; try simp at h21'
          have h21'' : ¬ ((x3.toNat : Int) < 97) := by have := h21; simp at this; omega
          refine AW_region ?_
          simp (maxSteps := 10000000) [go_sem, h10, h10', h10'', p17, q18, g20, h21, h21', h21'']
          obtain rfl := Option.some.inj hM
          exact hK15 (decide ((x3.toNat : Int) ≤ 122)) _ rfl (Lift.into (by constructor <;> simp [go_sem, h10, h10', h10'', p17, q18, g20, h21, h21', h21'']))
        · rw [if_neg h21] at hM
          have h21 := Bool.eq_false_iff.2 h21
          have h21' := h21; try simp at h21'
          have h21'' : ¬ (97 ≤ (x3.toNat : Int)) := by have := h21; simp at this; omega
          refine AW_region ?_
          simp (maxSteps := 10000000) [go_sem, h10, h10', h10'', p17, q18, g20, h21, h21', h21'']
          obtain rfl := Option.some.inj hM
          exact hK15 false _ rfl (Lift.into (by constructor <;> simp [go_sem, h10, h10', h10'', p17, q18, g20, h21, h21', h21'']))
      · rintro x2 rfl
        have hM := hR13
        try dsimp only at hM
        obtain ⟨e22, hU24, hR23⟩ := bind_some hM; clear hM
        refine AW_mid (ι := Bool) (fun i => ⟨42, [(0, .one (.l (.str a0))), (3, .one (.l (.int .i64 x1))), (38, .one (.l (.bool i)))], [], []⟩) (fun i => i = e22) ?_ ?_
        · intro K25 hK25
          have hM := hU24; clear hU24
          by_cases h26 : (!x2) = true
          · rw [if_pos h26] at hM
            have h26' := h26; try simp at h26'
            by_cases h27 : (decide (x1 = 0)) = true
            · rw [if_pos h27] at hM
              have h27' := h27; try simp at h27'
              refine AW_region ?_
              simp (maxSteps := 10000000) [go_sem, h10, h10', h10'', h26, h26', h27, h27']
              obtain rfl := Option.some.inj hM
              exact hK25 true _ rfl (Lift.into (by constructor <;> simp [go_sem, h10, h10', h10'', h26, h26', h27, h27']))
            · rw [if_neg h27] at hM
              have h27 := Bool.eq_false_iff.2 h27
              have h27' := h27; try simp at h27'
              obtain ⟨x5, e28, hM⟩ := bind_some hM
              obtain ⟨p29, q30, l31, g32⟩ := at_spec e28
              by_cases h33 : (decide ((x5.toNat : Int) < 48)) = true
              · rw [if_pos h33] at hM
                have h33' := h33; try simp at h33'
                have h33'' : ¬ (48 ≤ (x5.toNat : Int)) := by have := h33; simp at this; omega
                refine AW_region ?_
                simp (maxSteps := 10000000) [go_sem, h10, h10', h10'', h26, h26', h27, h27', p29, q30, g32, h33, h33', h33'']
                obtain rfl := Option.some.inj hM
                exact hK25 true _ rfl (Lift.into (by constructor <;> simp [go_sem, h10, h10', h10'', h26, h26', h27, h27', p29, q30, g32, h33, h33', h33'']))
              · rw [if_neg h33] at hM
                have h33 := Bool.eq_false_iff.2 h33
                have h33' := h33; try simp at h33'
                have h33'' : ¬ ((x5.toNat : Int) < 48) := by have := h33; simp at this; omega
                refine AW_region ?_
                simp (maxSteps := 10000000) [go_sem, h10, h10', h10'', h26, h26', h27, h27', p29, q30, g32, h33, h33', h33'']
                obtain rfl := Option.some.inj hM
                exact hK25 (decide (57 < (x5.toNat : Int))) _ rfl (Lift.into (by constructor <;> simp [go_sem, h10, h10', h10'', h26, h26', h27, h27', p29, q30, g32, h33, h33', h33'']))
          · rw [if_neg h26] at hM
            have h26 := Bool.eq_false_iff.2 h26
            have h26' := h26; try simp at h26'
            refine AW_region ?_
            simp (maxSteps := 10000000) [go_sem, h10, h10', h10'', h26, h26']
            obtain rfl := Option.some.inj hM
            exact hK25 false _ rfl (Lift.into (by constructor <;> simp [go_sem, h10, h10', h10'', h26, h26']))
        · rintro x4 rfl
          have hM := hR23
          try dsimp only at hM
          refine AW_cond (b := x4) (by simp (maxSteps := 10000000) [go_sem, h10, h10', h10'']) (fun h34 => ?_) (fun h34 => ?_)
          · rw [if_pos h34] at hM
            have h34' := h34; try simp at h34'
            refine AW_seq fun K35 hK35 => ?_
            refine AW_region ?_
            simp (maxSteps := 10000000) [go_sem, h10, h10', h10'', h34, h34']
            refine hK35 _ ?_
            obtain rfl := Option.some.inj hM
            have hM := hR3; dsimp only at hM
            obtain rfl := Option.some.inj hM
            refine AW_ret ?_
            simp (maxSteps := 10000000) [go_sem, h10, h10', h10'', h34, h34']
          · rw [if_neg (ne_true h34)] at hM
            have h34' := h34; try simp at h34'
            refine AW_skip ?_
            refine hK11 _ ?_
            refine AW_region ?_
            simp (maxSteps := 10000000) [go_sem, h10, h10', h10'', h34, h34']
            exact hL7 (IntKind.i64.wrap (x1 + 1)) _ hM (Lift.into (by constructor <;> simp [go_sem, h10, h10', h10'', h34, h34']))
    · rw [if_neg (ne_true h10)] at hM
      have h10' := h10; try simp at h10'
      have h10'' : ¬ (x1 < (a0.size : Int)) := by have := h10; simp at this; omega
      refine AW_exit ?_
      obtain rfl := Option.some.inj hM
      exact hK5 () _ rfl (Lift.into (by constructor <;> simp [go_sem, h10, h10', h10'']))
  · rintro _ rfl
    have hM := hR3
    dsimp only at hM
    refine AW_seq fun K36 hK36 => ?_
    obtain ⟨x6, e37, hM⟩ := bind_some hM
    refine AW_region ?_
    simp (maxSteps := 10000000) [go_sem]
    refine by_ctr false (i_within_ctr (a0.size : Int) 1 8 x6 e37) (by simp (maxSteps := 10000000) [go_sem]) (by simp) ?_
    simp (maxSteps := 10000000) [go_sem]
    refine hK36 _ ?_
    obtain rfl := Option.some.inj hM
    refine AW_ret ?_
    simp (maxSteps := 10000000) [go_sem]
set_option maxHeartbeats 4000000 in
set_option maxRecDepth 100000 in
theorem i_ArgumentCount_ctr (a0 : ByteArray) (r : Int) (hM : i_ArgumentCount a0 = some r) : Ctr Try.prog 130 [.one (.str a0)] true [.one (.int .i64 r)] := by
  unfold i_ArgumentCount at hM
  refine Ctr.of_walk (by kernel_rfl) Try.func130 rfl Try.ntmps130 Try.results130 (by simp) ?_; intro N w0 hbad
  refine AW_seq fun K1 hK1 => ?_
  refine AW_region ?_
  simp (maxSteps := 10000000) [go_sem]
  refine hK1 _ ?_
  refine AW_seq fun K2 hK2 => ?_
  refine AW_seq fun K3 hK3 => ?_
  refine AW_region ?_
  simp (maxSteps := 10000000) [go_sem]
  refine hK3 _ ?_
  refine AW_block ?_
  refine AW_seq fun K4 hK4 => ?_
  refine AW_region ?_
  simp (maxSteps := 10000000) [go_sem]
  refine hK4 _ ?_
  refine AW_cond (b := (decide (a0 = (⟨#[99, 108, 111, 99, 107]⟩ : ByteArray)))) (by simp (maxSteps := 10000000) [go_sem]) (fun h5 => ?_) (fun h5 => ?_)
  · rw [if_pos h5] at hM
    have h5' := h5; try simp at h5'
    refine AW_seq fun K6 hK6 => ?_
    refine AW_region ?_
    simp (maxSteps := 10000000) [go_sem, h5, h5']
    refine hK6 _ ?_
    obtain rfl := Option.some.inj hM
    refine AW_ret ?_
    simp (maxSteps := 10000000) [go_sem, h5, h5']
  · rw [if_neg (ne_true h5)] at hM
    have h5' := h5; try simp at h5'
    obtain ⟨e7, hU9, hR8⟩ := bind_some hM; clear hM
    refine AW_mid (ι := Bool) (fun i => ⟨26, [(3, .one (.l (.str a0))), (6, .one (.l (.bool i)))], [], []⟩) (fun i => i = e7) ?_ ?_
    · intro K10 hK10
      have hM := hU9; clear hU9
      refine AW_seq fun K11 hK11 => ?_
      refine AW_region ?_
      simp (maxSteps := 10000000) [go_sem, h5, h5']
      refine hK11 _ ?_
      refine AW_cond (b := (decide (a0 = (⟨#[108, 101, 110]⟩ : ByteArray)))) (by simp (maxSteps := 10000000) [go_sem, h5, h5']) (fun h12 => ?_) (fun h12 => ?_)
      · rw [if_pos h12] at hM
        have h12' := h12; try simp at h12'
        refine AW_skip ?_
        obtain rfl := Option.some.inj hM
        exact hK10 true _ rfl (Lift.into (by constructor <;> simp [go_sem, h5, h5', h12, h12']))
      · rw [if_neg (ne_true h12)] at hM
        have h12' := h12; try simp at h12'
        refine AW_seq fun K13 hK13 => ?_
        refine AW_region ?_
        simp (maxSteps := 10000000) [go_sem, h5, h5', h12, h12']
        refine hK13 _ ?_
        refine AW_cond (b := (decide (a0 = (⟨#[115, 117, 109]⟩ : ByteArray)))) (by simp (maxSteps := 10000000) [go_sem, h5, h5', h12, h12']) (fun h14 => ?_) (fun h14 => ?_)
        · rw [if_pos h14] at hM
          have h14' := h14; try simp at h14'
          refine AW_skip ?_
          obtain rfl := Option.some.inj hM
          exact hK10 true _ rfl (Lift.into (by constructor <;> simp [go_sem, h5, h5', h12, h12', h14, h14']))
        · rw [if_neg (ne_true h14)] at hM
          have h14' := h14; try simp at h14'
          refine AW_seq fun K15 hK15 => ?_
          refine AW_region ?_
          simp (maxSteps := 10000000) [go_sem, h5, h5', h12, h12', h14, h14']
          refine hK15 _ ?_
          refine AW_cond (b := (decide (a0 = (⟨#[114, 111, 119, 115]⟩ : ByteArray)))) (by simp (maxSteps := 10000000) [go_sem, h5, h5', h12, h12', h14, h14']) (fun h16 => ?_) (fun h16 => ?_)
          · rw [if_pos h16] at hM
            have h16' := h16; try simp at h16'
            refine AW_skip ?_
            obtain rfl := Option.some.inj hM
            exact hK10 true _ rfl (Lift.into (by constructor <;> simp [go_sem, h5, h5', h12, h12', h14, h14', h16, h16']))
          · rw [if_neg (ne_true h16)] at hM
            have h16' := h16; try simp at h16'
            refine AW_seq fun K17 hK17 => ?_
            refine AW_region ?_
            simp (maxSteps := 10000000) [go_sem, h5, h5', h12, h12', h14, h14', h16, h16']
            refine hK17 _ ?_
            refine AW_cond (b := (decide (a0 = (⟨#[99, 104, 97, 110, 99, 101]⟩ : ByteArray)))) (by simp (maxSteps := 10000000) [go_sem, h5, h5', h12, h12', h14, h14', h16, h16']) (fun h18 => ?_) (fun h18 => ?_)
            · rw [if_pos h18] at hM
              have h18' := h18; try simp at h18'
              refine AW_skip ?_
              obtain rfl := Option.some.inj hM
              exact hK10 true _ rfl (Lift.into (by constructor <;> simp [go_sem, h5, h5', h12, h12', h14, h14', h16, h16', h18, h18']))
            · rw [if_neg (ne_true h18)] at hM
              have h18' := h18; try simp at h18'
              refine AW_region ?_
              simp (maxSteps := 10000000) [go_sem, h5, h5', h12, h12', h14, h14', h16, h16', h18, h18']
              obtain rfl := Option.some.inj hM
              exact hK10 (decide (a0 = (⟨#[102, 105, 108, 101]⟩ : ByteArray))) _ rfl (Lift.into (by constructor <;> simp [go_sem, h5, h5', h12, h12', h14, h14', h16, h16', h18, h18']))
    · rintro x1 rfl
      have hM := hR8
      try dsimp only at hM
      refine AW_cond (b := x1) (by simp (maxSteps := 10000000) [go_sem, h5, h5']) (fun h19 => ?_) (fun h19 => ?_)
      · rw [if_pos h19] at hM
        have h19' := h19; try simp at h19'
        refine AW_seq fun K20 hK20 => ?_
        refine AW_region ?_
        simp (maxSteps := 10000000) [go_sem, h5, h5', h19, h19']
        refine hK20 _ ?_
        obtain rfl := Option.some.inj hM
        refine AW_ret ?_
        simp (maxSteps := 10000000) [go_sem, h5, h5', h19, h19']
      · rw [if_neg (ne_true h19)] at hM
        have h19' := h19; try simp at h19'
        obtain ⟨e21, hU23, hR22⟩ := bind_some hM; clear hM
        refine AW_mid (ι := Bool) (fun i => ⟨26, [(3, .one (.l (.str a0))), (12, .one (.l (.bool i)))], [], []⟩) (fun i => i = e21) ?_ ?_
        · intro K24 hK24
          have hM := hU23; clear hU23
          refine AW_seq fun K25 hK25 => ?_
          refine AW_region ?_
          simp (maxSteps := 10000000) [go_sem, h5, h5', h19, h19']
          refine hK25 _ ?_
          refine AW_cond (b := (decide (a0 = (⟨#[116, 97, 107, 101]⟩ : ByteArray)))) (by simp (maxSteps := 10000000) [go_sem, h5, h5', h19, h19']) (fun h26 => ?_) (fun h26 => ?_)
          · rw [if_pos h26] at hM
            have h26' := h26; try simp at h26'
            refine AW_skip ?_
            obtain rfl := Option.some.inj hM
            exact hK24 true _ rfl (Lift.into (by constructor <;> simp [go_sem, h5, h5', h19, h19', h26, h26']))
          · rw [if_neg (ne_true h26)] at hM
            have h26' := h26; try simp at h26'
            refine AW_seq fun K27 hK27 => ?_
            refine AW_region ?_
            simp (maxSteps := 10000000) [go_sem, h5, h5', h19, h19', h26, h26']
            refine hK27 _ ?_
            refine AW_cond (b := (decide (a0 = (⟨#[115, 107, 105, 112]⟩ : ByteArray)))) (by simp (maxSteps := 10000000) [go_sem, h5, h5', h19, h19', h26, h26']) (fun h28 => ?_) (fun h28 => ?_)
            · rw [if_pos h28] at hM
              have h28' := h28; try simp at h28'
              refine AW_skip ?_
              obtain rfl := Option.some.inj hM
              exact hK24 true _ rfl (Lift.into (by constructor <;> simp [go_sem, h5, h5', h19, h19', h26, h26', h28, h28']))
            · rw [if_neg (ne_true h28)] at hM
              have h28' := h28; try simp at h28'
              refine AW_seq fun K29 hK29 => ?_
              refine AW_region ?_
              simp (maxSteps := 10000000) [go_sem, h5, h5', h19, h19', h26, h26', h28, h28']
              refine hK29 _ ?_
              refine AW_cond (b := (decide (a0 = (⟨#[114, 97, 110, 103, 101]⟩ : ByteArray)))) (by simp (maxSteps := 10000000) [go_sem, h5, h5', h19, h19', h26, h26', h28, h28']) (fun h30 => ?_) (fun h30 => ?_)
              · rw [if_pos h30] at hM
                have h30' := h30; try simp at h30'
                refine AW_skip ?_
                obtain rfl := Option.some.inj hM
                exact hK24 true _ rfl (Lift.into (by constructor <;> simp [go_sem, h5, h5', h19, h19', h26, h26', h28, h28', h30, h30']))
              · rw [if_neg (ne_true h30)] at hM
                have h30' := h30; try simp at h30'
                refine AW_seq fun K31 hK31 => ?_
                refine AW_region ?_
                simp (maxSteps := 10000000) [go_sem, h5, h5', h19, h19', h26, h26', h28, h28', h30, h30']
                refine hK31 _ ?_
                refine AW_cond (b := (decide (a0 = (⟨#[110, 116, 104]⟩ : ByteArray)))) (by simp (maxSteps := 10000000) [go_sem, h5, h5', h19, h19', h26, h26', h28, h28', h30, h30']) (fun h32 => ?_) (fun h32 => ?_)
                · rw [if_pos h32] at hM
                  have h32' := h32; try simp at h32'
                  refine AW_skip ?_
                  obtain rfl := Option.some.inj hM
                  exact hK24 true _ rfl (Lift.into (by constructor <;> simp [go_sem, h5, h5', h19, h19', h26, h26', h28, h28', h30, h30', h32, h32']))
                · rw [if_neg (ne_true h32)] at hM
                  have h32' := h32; try simp at h32'
                  refine AW_seq fun K33 hK33 => ?_
                  refine AW_region ?_
                  simp (maxSteps := 10000000) [go_sem, h5, h5', h19, h19', h26, h26', h28, h28', h30, h30', h32, h32']
                  refine hK33 _ ?_
                  refine AW_cond (b := (decide (a0 = (⟨#[107, 101, 101, 112]⟩ : ByteArray)))) (by simp (maxSteps := 10000000) [go_sem, h5, h5', h19, h19', h26, h26', h28, h28', h30, h30', h32, h32']) (fun h34 => ?_) (fun h34 => ?_)
                  · rw [if_pos h34] at hM
                    have h34' := h34; try simp at h34'
                    refine AW_skip ?_
                    obtain rfl := Option.some.inj hM
                    exact hK24 true _ rfl (Lift.into (by constructor <;> simp [go_sem, h5, h5', h19, h19', h26, h26', h28, h28', h30, h30', h32, h32', h34, h34']))
                  · rw [if_neg (ne_true h34)] at hM
                    have h34' := h34; try simp at h34'
                    refine AW_seq fun K35 hK35 => ?_
                    refine AW_region ?_
                    simp (maxSteps := 10000000) [go_sem, h5, h5', h19, h19', h26, h26', h28, h28', h30, h30', h32, h32', h34, h34']
                    refine hK35 _ ?_
                    refine AW_cond (b := (decide (a0 = (⟨#[99, 111, 108, 117, 109, 110]⟩ : ByteArray)))) (by simp (maxSteps := 10000000) [go_sem, h5, h5', h19, h19', h26, h26', h28, h28', h30, h30', h32, h32', h34, h34']) (fun h36 => ?_) (fun h36 => ?_)
                    · rw [if_pos h36] at hM
                      have h36' := h36; try simp at h36'
                      refine AW_skip ?_
                      obtain rfl := Option.some.inj hM
                      exact hK24 true _ rfl (Lift.into (by constructor <;> simp [go_sem, h5, h5', h19, h19', h26, h26', h28, h28', h30, h30', h32, h32', h34, h34', h36, h36']))
                    · rw [if_neg (ne_true h36)] at hM
                      have h36' := h36; try simp at h36'
                      refine AW_region ?_
                      simp (maxSteps := 10000000) [go_sem, h5, h5', h19, h19', h26, h26', h28, h28', h30, h30', h32, h32', h34, h34', h36, h36']
                      obtain rfl := Option.some.inj hM
                      exact hK24 (decide (a0 = (⟨#[116, 97, 98, 108, 101]⟩ : ByteArray))) _ rfl (Lift.into (by constructor <;> simp [go_sem, h5, h5', h19, h19', h26, h26', h28, h28', h30, h30', h32, h32', h34, h34', h36, h36']))
        · rintro x2 rfl
          have hM := hR22
          try dsimp only at hM
          refine AW_cond (b := x2) (by simp (maxSteps := 10000000) [go_sem, h5, h5', h19, h19']) (fun h37 => ?_) (fun h37 => ?_)
          · rw [if_pos h37] at hM
            have h37' := h37; try simp at h37'
            refine AW_seq fun K38 hK38 => ?_
            refine AW_region ?_
            simp (maxSteps := 10000000) [go_sem, h5, h5', h19, h19', h37, h37']
            refine hK38 _ ?_
            obtain rfl := Option.some.inj hM
            refine AW_ret ?_
            simp (maxSteps := 10000000) [go_sem, h5, h5', h19, h19', h37, h37']
          · rw [if_neg (ne_true h37)] at hM
            have h37' := h37; try simp at h37'
            obtain ⟨e39, hU41, hR40⟩ := bind_some hM; clear hM
            refine AW_mid (ι := Bool) (fun i => ⟨26, [(3, .one (.l (.str a0))), (20, .one (.l (.bool i)))], [], []⟩) (fun i => i = e39) ?_ ?_
            · intro K42 hK42
              have hM := hU41; clear hU41
              refine AW_seq fun K43 hK43 => ?_
              refine AW_region ?_
              simp (maxSteps := 10000000) [go_sem, h5, h5', h19, h19', h37, h37']
              refine hK43 _ ?_
              refine AW_cond (b := (decide (a0 = (⟨#[119, 104, 101, 114, 101]⟩ : ByteArray)))) (by simp (maxSteps := 10000000) [go_sem, h5, h5', h19, h19', h37, h37']) (fun h44 => ?_) (fun h44 => ?_)
              · rw [if_pos h44] at hM
                have h44' := h44; try simp at h44'
                refine AW_skip ?_
                obtain rfl := Option.some.inj hM
                exact hK42 true _ rfl (Lift.into (by constructor <;> simp [go_sem, h5, h5', h19, h19', h37, h37', h44, h44']))
              · rw [if_neg (ne_true h44)] at hM
                have h44' := h44; try simp at h44'
                refine AW_seq fun K45 hK45 => ?_
                refine AW_region ?_
                simp (maxSteps := 10000000) [go_sem, h5, h5', h19, h19', h37, h37', h44, h44']
                refine hK45 _ ?_
                refine AW_cond (b := (decide (a0 = (⟨#[103, 114, 111, 117, 112]⟩ : ByteArray)))) (by simp (maxSteps := 10000000) [go_sem, h5, h5', h19, h19', h37, h37', h44, h44']) (fun h46 => ?_) (fun h46 => ?_)
                · rw [if_pos h46] at hM
                  have h46' := h46; try simp at h46'
                  refine AW_skip ?_
                  obtain rfl := Option.some.inj hM
                  exact hK42 true _ rfl (Lift.into (by constructor <;> simp [go_sem, h5, h5', h19, h19', h37, h37', h44, h44', h46, h46']))
                · rw [if_neg (ne_true h46)] at hM
                  have h46' := h46; try simp at h46'
                  refine AW_region ?_
                  simp (maxSteps := 10000000) [go_sem, h5, h5', h19, h19', h37, h37', h44, h44', h46, h46']
                  obtain rfl := Option.some.inj hM
                  exact hK42 (decide (a0 = (⟨#[106, 111, 105, 110]⟩ : ByteArray))) _ rfl (Lift.into (by constructor <;> simp [go_sem, h5, h5', h19, h19', h37, h37', h44, h44', h46, h46']))
            · rintro x3 rfl
              have hM := hR40
              try dsimp only at hM
              refine AW_cond (b := x3) (by simp (maxSteps := 10000000) [go_sem, h5, h5', h19, h19', h37, h37']) (fun h47 => ?_) (fun h47 => ?_)
              · rw [if_pos h47] at hM
                have h47' := h47; try simp at h47'
                refine AW_seq fun K48 hK48 => ?_
                refine AW_region ?_
                simp (maxSteps := 10000000) [go_sem, h5, h5', h19, h19', h37, h37', h47, h47']
                refine hK48 _ ?_
                obtain rfl := Option.some.inj hM
                refine AW_ret ?_
                simp (maxSteps := 10000000) [go_sem, h5, h5', h19, h19', h37, h37', h47, h47']
              · rw [if_neg (ne_true h47)] at hM
                have h47' := h47; try simp at h47'
                refine AW_seq fun K49 hK49 => ?_
                refine AW_region ?_
                simp (maxSteps := 10000000) [go_sem, h5, h5', h19, h19', h37, h37', h47, h47']
                refine hK49 _ ?_
                refine AW_cond (b := (decide (a0 = (⟨#[97, 100, 100]⟩ : ByteArray)))) (by simp (maxSteps := 10000000) [go_sem, h5, h5', h19, h19', h37, h37', h47, h47']) (fun h50 => ?_) (fun h50 => ?_)
                · rw [if_pos h50] at hM
                  have h50' := h50; try simp at h50'
                  refine AW_seq fun K51 hK51 => ?_
                  refine AW_region ?_
                  simp (maxSteps := 10000000) [go_sem, h5, h5', h19, h19', h37, h37', h47, h47', h50, h50']
                  refine hK51 _ ?_
                  obtain rfl := Option.some.inj hM
                  refine AW_ret ?_
                  simp (maxSteps := 10000000) [go_sem, h5, h5', h19, h19', h37, h37', h47, h47', h50, h50']
                · rw [if_neg (ne_true h50)] at hM
                  have h50' := h50; try simp at h50'
                  refine AW_skip ?_
                  refine hK2 _ ?_
                  refine AW_seq fun K52 hK52 => ?_
                  refine AW_region ?_
                  simp (maxSteps := 10000000) [go_sem, h5, h5', h19, h19', h37, h37', h47, h47', h50, h50']
                  refine hK52 _ ?_
                  obtain rfl := Option.some.inj hM
                  refine AW_ret ?_
                  simp (maxSteps := 10000000) [go_sem, h5, h5', h19, h19', h37, h37', h47, h47', h50, h50']
set_option maxHeartbeats 4000000 in
set_option maxRecDepth 100000 in
theorem i_IsReserved_ctr (a0 : ByteArray) (r : Bool) (hM : i_IsReserved a0 = some r) : Ctr Try.prog 134 [.one (.str a0)] true [.one (.bool r)] := by
  unfold i_IsReserved at hM
  refine Ctr.of_walk (by kernel_rfl) Try.func134 rfl Try.ntmps134 Try.results134 (by simp) ?_; intro N w0 hbad
  refine AW_seq fun K1 hK1 => ?_
  refine AW_region ?_
  simp (maxSteps := 10000000) [go_sem]
  refine hK1 _ ?_
  refine AW_seq fun K2 hK2 => ?_
  refine AW_seq fun K3 hK3 => ?_
  refine AW_region ?_
  simp (maxSteps := 10000000) [go_sem]
  refine hK3 _ ?_
  refine AW_block ?_
  obtain ⟨e4, hU6, hR5⟩ := bind_some hM; clear hM
  refine AW_mid (ι := Bool) (fun i => ⟨15, [(0, .one (.l (.str a0))), (4, .one (.l (.bool i)))], [], []⟩) (fun i => i = e4) ?_ ?_
  · intro K7 hK7
    have hM := hU6; clear hU6
    refine AW_seq fun K8 hK8 => ?_
    refine AW_region ?_
    simp (maxSteps := 10000000) [go_sem]
    refine hK8 _ ?_
    refine AW_cond (b := (decide (a0 = (⟨#[108, 101, 116]⟩ : ByteArray)))) (by simp (maxSteps := 10000000) [go_sem]) (fun h9 => ?_) (fun h9 => ?_)
    · rw [if_pos h9] at hM
      have h9' := h9; try simp at h9'
      refine AW_skip ?_
      obtain rfl := Option.some.inj hM
      exact hK7 true _ rfl (Lift.into (by constructor <;> simp [go_sem, h9, h9']))
    · rw [if_neg (ne_true h9)] at hM
      have h9' := h9; try simp at h9'
      refine AW_seq fun K10 hK10 => ?_
      refine AW_region ?_
      simp (maxSteps := 10000000) [go_sem, h9, h9']
      refine hK10 _ ?_
      refine AW_cond (b := (decide (a0 = (⟨#[105, 110]⟩ : ByteArray)))) (by simp (maxSteps := 10000000) [go_sem, h9, h9']) (fun h11 => ?_) (fun h11 => ?_)
      · rw [if_pos h11] at hM
        have h11' := h11; try simp at h11'
        refine AW_skip ?_
        obtain rfl := Option.some.inj hM
        exact hK7 true _ rfl (Lift.into (by constructor <;> simp [go_sem, h9, h9', h11, h11']))
      · rw [if_neg (ne_true h11)] at hM
        have h11' := h11; try simp at h11'
        refine AW_seq fun K12 hK12 => ?_
        refine AW_region ?_
        simp (maxSteps := 10000000) [go_sem, h9, h9', h11, h11']
        refine hK12 _ ?_
        refine AW_cond (b := (decide (a0 = (⟨#[105, 102]⟩ : ByteArray)))) (by simp (maxSteps := 10000000) [go_sem, h9, h9', h11, h11']) (fun h13 => ?_) (fun h13 => ?_)
        · rw [if_pos h13] at hM
          have h13' := h13; try simp at h13'
          refine AW_skip ?_
          obtain rfl := Option.some.inj hM
          exact hK7 true _ rfl (Lift.into (by constructor <;> simp [go_sem, h9, h9', h11, h11', h13, h13']))
        · rw [if_neg (ne_true h13)] at hM
          have h13' := h13; try simp at h13'
          refine AW_seq fun K14 hK14 => ?_
          refine AW_region ?_
          simp (maxSteps := 10000000) [go_sem, h9, h9', h11, h11', h13, h13']
          refine hK14 _ ?_
          refine AW_cond (b := (decide (a0 = (⟨#[116, 104, 101, 110]⟩ : ByteArray)))) (by simp (maxSteps := 10000000) [go_sem, h9, h9', h11, h11', h13, h13']) (fun h15 => ?_) (fun h15 => ?_)
          · rw [if_pos h15] at hM
            have h15' := h15; try simp at h15'
            refine AW_skip ?_
            obtain rfl := Option.some.inj hM
            exact hK7 true _ rfl (Lift.into (by constructor <;> simp [go_sem, h9, h9', h11, h11', h13, h13', h15, h15']))
          · rw [if_neg (ne_true h15)] at hM
            have h15' := h15; try simp at h15'
            refine AW_seq fun K16 hK16 => ?_
            refine AW_region ?_
            simp (maxSteps := 10000000) [go_sem, h9, h9', h11, h11', h13, h13', h15, h15']
            refine hK16 _ ?_
            refine AW_cond (b := (decide (a0 = (⟨#[101, 108, 115, 101]⟩ : ByteArray)))) (by simp (maxSteps := 10000000) [go_sem, h9, h9', h11, h11', h13, h13', h15, h15']) (fun h17 => ?_) (fun h17 => ?_)
            · rw [if_pos h17] at hM
              have h17' := h17; try simp at h17'
              refine AW_skip ?_
              obtain rfl := Option.some.inj hM
              exact hK7 true _ rfl (Lift.into (by constructor <;> simp [go_sem, h9, h9', h11, h11', h13, h13', h15, h15', h17, h17']))
            · rw [if_neg (ne_true h17)] at hM
              have h17' := h17; try simp at h17'
              refine AW_seq fun K18 hK18 => ?_
              refine AW_region ?_
              simp (maxSteps := 10000000) [go_sem, h9, h9', h11, h11', h13, h13', h15, h15', h17, h17']
              refine hK18 _ ?_
              refine AW_cond (b := (decide (a0 = (⟨#[102, 111, 114]⟩ : ByteArray)))) (by simp (maxSteps := 10000000) [go_sem, h9, h9', h11, h11', h13, h13', h15, h15', h17, h17']) (fun h19 => ?_) (fun h19 => ?_)
              · rw [if_pos h19] at hM
                have h19' := h19; try simp at h19'
                refine AW_skip ?_
                obtain rfl := Option.some.inj hM
                exact hK7 true _ rfl (Lift.into (by constructor <;> simp [go_sem, h9, h9', h11, h11', h13, h13', h15, h15', h17, h17', h19, h19']))
              · rw [if_neg (ne_true h19)] at hM
                have h19' := h19; try simp at h19'
                refine AW_region ?_
                simp (maxSteps := 10000000) [go_sem, h9, h9', h11, h11', h13, h13', h15, h15', h17, h17', h19, h19']
                obtain rfl := Option.some.inj hM
                exact hK7 (decide (a0 = (⟨#[100, 111]⟩ : ByteArray))) _ rfl (Lift.into (by constructor <;> simp [go_sem, h9, h9', h11, h11', h13, h13', h15, h15', h17, h17', h19, h19']))
  · rintro x1 rfl
    have hM := hR5
    try dsimp only at hM
    refine AW_cond (b := x1) (by simp (maxSteps := 10000000) [go_sem]) (fun h20 => ?_) (fun h20 => ?_)
    · rw [if_pos h20] at hM
      have h20' := h20; try simp at h20'
      refine AW_seq fun K21 hK21 => ?_
      refine AW_region ?_
      simp (maxSteps := 10000000) [go_sem, h20, h20']
      refine hK21 _ ?_
      obtain rfl := Option.some.inj hM
      refine AW_ret ?_
      simp (maxSteps := 10000000) [go_sem, h20, h20']
    · rw [if_neg (ne_true h20)] at hM
      have h20' := h20; try simp at h20'
      refine AW_skip ?_
      refine hK2 _ ?_
      refine AW_seq fun K22 hK22 => ?_
      obtain ⟨x2, e23, hM⟩ := bind_some hM
      refine AW_region ?_
      simp (maxSteps := 10000000) [go_sem, h20, h20']
      refine by_ctr false (i_ArgumentCount_ctr a0 x2 e23) (by simp (maxSteps := 10000000) [go_sem, h20, h20']) (by simp) ?_
      simp (maxSteps := 10000000) [go_sem, h20, h20']
      refine hK22 _ ?_
      obtain rfl := Option.some.inj hM
      refine AW_ret ?_
      simp (maxSteps := 10000000) [go_sem, h20, h20']
end Go.Proofs.Ytopjlbifglacpaa
