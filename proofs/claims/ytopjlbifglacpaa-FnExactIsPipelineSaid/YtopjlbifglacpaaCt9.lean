/- Contracts of the program's functions: where the mirrored function answers, the program's function returns this answer. Written by a program of mine. -/
import Derived.Test.YtopjlbifglacpaaWn
import Derived.Test.YtopjlbifglacpaaMd
import Derived.Test.YtopjlbifglacpaaCt4
import Derived.Test.YtopjlbifglacpaaCt6
import Derived.Test.YtopjlbifglacpaaCt7
import Derived.Test.YtopjlbifglacpaaCt8
set_option linter.unusedSimpArgs false
set_option linter.unusedVariables false
namespace Go.Proofs.Ytopjlbifglacpaa
open Go.RowKit Am

set_option maxHeartbeats 4000000 in
set_option maxRecDepth 100000 in
theorem i_IsValidName_ctr (k : Nat) (a0 : ByteArray) (r : Bool) (hM : i_IsValidName k a0 = some r) : Ctr Try.prog 129 [.one (.str a0)] true [.one (.bool r)] := by
  unfold i_IsValidName at hM
  refine Ctr.of_walk (by kernel_rfl) Try.func129 rfl Try.ntmps129 Try.results129 (by simp) ?_; intro N w0 hbad
  refine AW_seq fun K1 hK1 => ?_
  refine AW_region ?_
  simp (maxSteps := 10000000) [go_sem]
  refine hK1 _ ?_
  obtain ⟨e2, hU4, hR3⟩ := bind_some hM; clear hM
  refine AW_mid (ι := Bool) (fun i => ⟨10, [(2, .one (.l (.bool i)))], [], []⟩) (fun i => i = e2) ?_ ?_
  · intro K5 hK5
    have hM := hU4; clear hU4
    obtain ⟨x2, e6, hM⟩ := bind_some hM
    by_cases h7 : x2 = true
    · rw [if_pos h7] at hM
      have h7' := h7; try simp at h7'
      obtain ⟨x3, e8, hM⟩ := bind_some hM
      refine AW_region ?_
      simp (maxSteps := 10000000) [go_sem, h7, h7']
      refine by_ctr false (i_isWord_ctr k a0 x2 e6) (by simp (maxSteps := 10000000) [go_sem, h7, h7']) (by simp) ?_
      simp (maxSteps := 10000000) [go_sem, h7, h7']
      refine by_ctr false (i_IsReserved_ctr a0 x3 e8) (by simp (maxSteps := 10000000) [go_sem, h7, h7']) (by simp) ?_
      simp (maxSteps := 10000000) [go_sem, h7, h7']
      obtain rfl := Option.some.inj hM
      exact hK5 (!x3) _ rfl (Lift.into (by constructor <;> simp [go_sem, h7, h7']))
    · rw [if_neg h7] at hM
      have h7 := Bool.eq_false_iff.2 h7
      have h7' := h7; try simp at h7'
      refine AW_region ?_
      simp (maxSteps := 10000000) [go_sem, h7, h7']
      refine by_ctr false (i_isWord_ctr k a0 x2 e6) (by simp (maxSteps := 10000000) [go_sem, h7, h7']) (by simp) ?_
      simp (maxSteps := 10000000) [go_sem, h7, h7']
      obtain rfl := Option.some.inj hM
      exact hK5 false _ rfl (Lift.into (by constructor <;> simp [go_sem, h7, h7']))
  · rintro x1 rfl
    have hM := hR3
    try dsimp only at hM
    obtain rfl := Option.some.inj hM
    refine AW_ret ?_
    simp (maxSteps := 10000000) [go_sem]
set_option maxHeartbeats 4000000 in
set_option maxRecDepth 100000 in
theorem i_isNode_ctr (k : Nat) (a0 : TExpr) (r : Bool) (hM : i_isNode k a0 = some r) : Ctr Try.prog 124 [.agg (TExpr.c a0)] true [.one (.bool r)] := by
  unfold i_isNode at hM
  refine Ctr.of_walk (by kernel_rfl) Try.func124 rfl Try.ntmps124 Try.results124 (by simp) ?_; intro N w0 hbad
  refine AW_seq fun K1 hK1 => ?_
  refine AW_region ?_
  simp (maxSteps := 10000000) [go_sem]
  refine hK1 _ ?_
  refine AW_seq fun K2 hK2 => ?_
  refine AW_region ?_
  simp (maxSteps := 10000000) [go_sem]
  refine hK2 _ ?_
  refine AW_seq fun K3 hK3 => ?_
  refine AW_seq fun K4 hK4 => ?_
  refine AW_region ?_
  simp (maxSteps := 10000000) [go_sem]
  refine hK4 _ ?_
  refine AW_block ?_
  refine AW_seq fun K5 hK5 => ?_
  refine AW_region ?_
  simp (maxSteps := 10000000) [go_sem]
  refine hK5 _ ?_
  refine AW_cond (b := (decide (a0.kind = 1))) (by simp (maxSteps := 10000000) [go_sem]) (fun h6 => ?_) (fun h6 => ?_)
  · rw [if_pos h6] at hM
    have h6' := h6; try simp at h6'
    obtain ⟨e7, hU9, hR8⟩ := bind_some hM; clear hM
    refine AW_mid (ι := Bool) (fun i => ⟨120, [(2, .one (.l (.bool i)))], [], []⟩) (fun i => i = e7) ?_ ?_
    · intro K10 hK10
      have hM := hU9; clear hU9
      obtain ⟨x2, e11, hM⟩ := bind_some hM
      by_cases h12 : x2 = true
      · rw [if_pos h12] at hM
        have h12' := h12; try simp at h12'
        by_cases h13 : (decide (a0.text = (⟨#[]⟩ : ByteArray))) = true
        · rw [if_pos h13] at hM
          have h13' := h13; try simp at h13'
          refine AW_region ?_
          simp (maxSteps := 10000000) [go_sem, h6, h6', h12, h12', h13, h13']
          refine by_ctr false (i_within_ctr a0.n 0 1000000000 x2 e11) (by simp (maxSteps := 10000000) [go_sem, h6, h6', h12, h12', h13, h13']) (by simp) ?_
          simp (maxSteps := 10000000) [go_sem, h6, h6', h12, h12', h13, h13']
          obtain rfl := Option.some.inj hM
          exact hK10 (decide ((a0.args.length : Int) = 0)) _ rfl (Lift.into (by constructor <;> simp [go_sem, h6, h6', h12, h12', h13, h13']))
        · rw [if_neg h13] at hM
          have h13 := Bool.eq_false_iff.2 h13
          have h13' := h13; try simp at h13'
          refine AW_region ?_
          simp (maxSteps := 10000000) [go_sem, h6, h6', h12, h12', h13, h13']
          refine by_ctr false (i_within_ctr a0.n 0 1000000000 x2 e11) (by simp (maxSteps := 10000000) [go_sem, h6, h6', h12, h12', h13, h13']) (by simp) ?_
          simp (maxSteps := 10000000) [go_sem, h6, h6', h12, h12', h13, h13']
          obtain rfl := Option.some.inj hM
          exact hK10 false _ rfl (Lift.into (by constructor <;> simp [go_sem, h6, h6', h12, h12', h13, h13']))
      · rw [if_neg h12] at hM
        have h12 := Bool.eq_false_iff.2 h12
        have h12' := h12; try simp at h12'
        refine AW_region ?_
        simp (maxSteps := 10000000) [go_sem, h6, h6', h12, h12']
        refine by_ctr false (i_within_ctr a0.n 0 1000000000 x2 e11) (by simp (maxSteps := 10000000) [go_sem, h6, h6', h12, h12']) (by simp) ?_
        simp (maxSteps := 10000000) [go_sem, h6, h6', h12, h12']
        obtain rfl := Option.some.inj hM
        exact hK10 false _ rfl (Lift.into (by constructor <;> simp [go_sem, h6, h6', h12, h12']))
    · rintro x1 rfl
      have hM := hR8
      try dsimp only at hM
      obtain rfl := Option.some.inj hM
      refine AW_ret ?_
      simp (maxSteps := 10000000) [go_sem, h6, h6']
  · rw [if_neg (ne_true h6)] at hM
    have h6' := h6; try simp at h6'
    refine AW_seq fun K14 hK14 => ?_
    refine AW_region ?_
    simp (maxSteps := 10000000) [go_sem, h6, h6']
    refine hK14 _ ?_
    refine AW_cond (b := (decide (a0.kind = 2))) (by simp (maxSteps := 10000000) [go_sem, h6, h6']) (fun h15 => ?_) (fun h15 => ?_)
    · rw [if_pos h15] at hM
      have h15' := h15; try simp at h15'
      obtain ⟨e16, hU18, hR17⟩ := bind_some hM; clear hM
      refine AW_mid (ι := Bool) (fun i => ⟨120, [(2, .one (.l (.bool i)))], [], []⟩) (fun i => i = e16) ?_ ?_
      · intro K19 hK19
        have hM := hU18; clear hU18
        by_cases h20 : (decide (a0.n = 0)) = true
        · rw [if_pos h20] at hM
          have h20' := h20; try simp at h20'
          obtain ⟨x4, e21, hM⟩ := bind_some hM
          by_cases h22 : x4 = true
          · rw [if_pos h22] at hM
            have h22' := h22; try simp at h22'
            refine AW_region ?_
            simp (maxSteps := 10000000) [go_sem, h6, h6', h15, h15', h20, h20', h22, h22']
            refine by_ctr false (i_IsValidText_ctr k a0.text x4 e21) (by simp (maxSteps := 10000000) [go_sem, h6, h6', h15, h15', h20, h20', h22, h22']) (by simp) ?_
            simp (maxSteps := 10000000) [go_sem, h6, h6', h15, h15', h20, h20', h22, h22']
            obtain rfl := Option.some.inj hM
            exact hK19 (decide ((a0.args.length : Int) = 0)) _ rfl (Lift.into (by constructor <;> simp [go_sem, h6, h6', h15, h15', h20, h20', h22, h22']))
          · rw [if_neg h22] at hM
            have h22 := Bool.eq_false_iff.2 h22
            have h22' := h22; try simp at h22'
            refine AW_region ?_
            simp (maxSteps := 10000000) [go_sem, h6, h6', h15, h15', h20, h20', h22, h22']
            refine by_ctr false (i_IsValidText_ctr k a0.text x4 e21) (by simp (maxSteps := 10000000) [go_sem, h6, h6', h15, h15', h20, h20', h22, h22']) (by simp) ?_
            simp (maxSteps := 10000000) [go_sem, h6, h6', h15, h15', h20, h20', h22, h22']
            obtain rfl := Option.some.inj hM
            exact hK19 false _ rfl (Lift.into (by constructor <;> simp [go_sem, h6, h6', h15, h15', h20, h20', h22, h22']))
        · rw [if_neg h20] at hM
          have h20 := Bool.eq_false_iff.2 h20
          have h20' := h20; try simp at h20'
          refine AW_region ?_
          simp (maxSteps := 10000000) [go_sem, h6, h6', h15, h15', h20, h20']
          obtain rfl := Option.some.inj hM
          exact hK19 false _ rfl (Lift.into (by constructor <;> simp [go_sem, h6, h6', h15, h15', h20, h20']))
      · rintro x3 rfl
        have hM := hR17
        try dsimp only at hM
        obtain rfl := Option.some.inj hM
        refine AW_ret ?_
        simp (maxSteps := 10000000) [go_sem, h6, h6', h15, h15']
    · rw [if_neg (ne_true h15)] at hM
      have h15' := h15; try simp at h15'
      refine AW_seq fun K23 hK23 => ?_
      refine AW_region ?_
      simp (maxSteps := 10000000) [go_sem, h6, h6', h15, h15']
      refine hK23 _ ?_
      refine AW_cond (b := (decide (a0.kind = 3))) (by simp (maxSteps := 10000000) [go_sem, h6, h6', h15, h15']) (fun h24 => ?_) (fun h24 => ?_)
      · rw [if_pos h24] at hM
        have h24' := h24; try simp at h24'
        obtain ⟨e25, hU27, hR26⟩ := bind_some hM; clear hM
        refine AW_mid (ι := Bool) (fun i => ⟨120, [(2, .one (.l (.bool i)))], [], []⟩) (fun i => i = e25) ?_ ?_
        · intro K28 hK28
          have hM := hU27; clear hU27
          by_cases h29 : (decide (a0.n = 0)) = true
          · rw [if_pos h29] at hM
            have h29' := h29; try simp at h29'
            obtain ⟨x6, e30, hM⟩ := bind_some hM
            by_cases h31 : x6 = true
            · rw [if_pos h31] at hM
              have h31' := h31; try simp at h31'
              refine AW_region ?_
              simp (maxSteps := 10000000) [go_sem, h6, h6', h15, h15', h24, h24', h29, h29', h31, h31']
              refine by_ctr false (i_IsValidName_ctr k a0.text x6 e30) (by simp (maxSteps := 10000000) [go_sem, h6, h6', h15, h15', h24, h24', h29, h29', h31, h31']) (by simp) ?_
              simp (maxSteps := 10000000) [go_sem, h6, h6', h15, h15', h24, h24', h29, h29', h31, h31']
              obtain rfl := Option.some.inj hM
              exact hK28 (decide ((a0.args.length : Int) = 0)) _ rfl (Lift.into (by constructor <;> simp [go_sem, h6, h6', h15, h15', h24, h24', h29, h29', h31, h31']))
            · rw [if_neg h31] at hM
              have h31 := Bool.eq_false_iff.2 h31
              have h31' := h31; try simp at h31'
              refine AW_region ?_
              simp (maxSteps := 10000000) [go_sem, h6, h6', h15, h15', h24, h24', h29, h29', h31, h31']
              refine by_ctr false (i_IsValidName_ctr k a0.text x6 e30) (by simp (maxSteps := 10000000) [go_sem, h6, h6', h15, h15', h24, h24', h29, h29', h31, h31']) (by simp) ?_
              simp (maxSteps := 10000000) [go_sem, h6, h6', h15, h15', h24, h24', h29, h29', h31, h31']
              obtain rfl := Option.some.inj hM
              exact hK28 false _ rfl (Lift.into (by constructor <;> simp [go_sem, h6, h6', h15, h15', h24, h24', h29, h29', h31, h31']))
          · rw [if_neg h29] at hM
            have h29 := Bool.eq_false_iff.2 h29
            have h29' := h29; try simp at h29'
            refine AW_region ?_
            simp (maxSteps := 10000000) [go_sem, h6, h6', h15, h15', h24, h24', h29, h29']
            obtain rfl := Option.some.inj hM
            exact hK28 false _ rfl (Lift.into (by constructor <;> simp [go_sem, h6, h6', h15, h15', h24, h24', h29, h29']))
        · rintro x5 rfl
          have hM := hR26
          try dsimp only at hM
          obtain rfl := Option.some.inj hM
          refine AW_ret ?_
          simp (maxSteps := 10000000) [go_sem, h6, h6', h15, h15', h24, h24']
      · rw [if_neg (ne_true h24)] at hM
        have h24' := h24; try simp at h24'
        refine AW_seq fun K32 hK32 => ?_
        refine AW_region ?_
        simp (maxSteps := 10000000) [go_sem, h6, h6', h15, h15', h24, h24']
        refine hK32 _ ?_
        refine AW_cond (b := (decide (a0.kind = 4))) (by simp (maxSteps := 10000000) [go_sem, h6, h6', h15, h15', h24, h24']) (fun h33 => ?_) (fun h33 => ?_)
        · rw [if_pos h33] at hM
          have h33' := h33; try simp at h33'
          obtain ⟨e34, hU36, hR35⟩ := bind_some hM; clear hM
          refine AW_mid (ι := Bool) (fun i => ⟨120, [(2, .one (.l (.bool i)))], [], []⟩) (fun i => i = e34) ?_ ?_
          · intro K37 hK37
            have hM := hU36; clear hU36
            by_cases h38 : (decide (a0.n = 0)) = true
            · rw [if_pos h38] at hM
              have h38' := h38; try simp at h38'
              by_cases h39 : (decide (a0.text = (⟨#[]⟩ : ByteArray))) = true
              · rw [if_pos h39] at hM
                have h39' := h39; try simp at h39'
                refine AW_region ?_
                simp (maxSteps := 10000000) [go_sem, h6, h6', h15, h15', h24, h24', h33, h33', h38, h38', h39, h39']
                obtain rfl := Option.some.inj hM
                exact hK37 (decide ((a0.args.length : Int) ≤ 8)) _ rfl (Lift.into (by constructor <;> simp [go_sem, h6, h6', h15, h15', h24, h24', h33, h33', h38, h38', h39, h39']))
              · rw [if_neg h39] at hM
                have h39 := Bool.eq_false_iff.2 h39
                have h39' := h39; try simp at h39'
                refine AW_region ?_
                simp (maxSteps := 10000000) [go_sem, h6, h6', h15, h15', h24, h24', h33, h33', h38, h38', h39, h39']
                obtain rfl := Option.some.inj hM
                exact hK37 false _ rfl (Lift.into (by constructor <;> simp [go_sem, h6, h6', h15, h15', h24, h24', h33, h33', h38, h38', h39, h39']))
            · rw [if_neg h38] at hM
              have h38 := Bool.eq_false_iff.2 h38
              have h38' := h38; try simp at h38'
              refine AW_region ?_
              simp (maxSteps := 10000000) [go_sem, h6, h6', h15, h15', h24, h24', h33, h33', h38, h38']
              obtain rfl := Option.some.inj hM
              exact hK37 false _ rfl (Lift.into (by constructor <;> simp [go_sem, h6, h6', h15, h15', h24, h24', h33, h33', h38, h38']))
          · rintro x7 rfl
            have hM := hR35
            try dsimp only at hM
            obtain rfl := Option.some.inj hM
            refine AW_ret ?_
            simp (maxSteps := 10000000) [go_sem, h6, h6', h15, h15', h24, h24', h33, h33']
        · rw [if_neg (ne_true h33)] at hM
          have h33' := h33; try simp at h33'
          refine AW_seq fun K40 hK40 => ?_
          refine AW_region ?_
          simp (maxSteps := 10000000) [go_sem, h6, h6', h15, h15', h24, h24', h33, h33']
          refine hK40 _ ?_
          refine AW_cond (b := (decide (a0.kind = 5))) (by simp (maxSteps := 10000000) [go_sem, h6, h6', h15, h15', h24, h24', h33, h33']) (fun h41 => ?_) (fun h41 => ?_)
          · rw [if_pos h41] at hM
            have h41' := h41; try simp at h41'
            obtain ⟨e42, hU44, hR43⟩ := bind_some hM; clear hM
            refine AW_mid (ι := Bool) (fun i => ⟨120, [(2, .one (.l (.bool i)))], [], []⟩) (fun i => i = e42) ?_ ?_
            · intro K45 hK45
              have hM := hU44; clear hU44
              by_cases h46 : (decide (a0.n = 0)) = true
              · rw [if_pos h46] at hM
                have h46' := h46; try simp at h46'
                obtain ⟨x9, e47, hM⟩ := bind_some hM
                refine AW_region ?_
                simp (maxSteps := 10000000) [go_sem, h6, h6', h15, h15', h24, h24', h33, h33', h41, h41', h46, h46']
                refine by_ctr false (i_ArgumentCount_ctr a0.text x9 e47) (by simp (maxSteps := 10000000) [go_sem, h6, h6', h15, h15', h24, h24', h33, h33', h41, h41', h46, h46']) (by simp) ?_
                simp (maxSteps := 10000000) [go_sem, h6, h6', h15, h15', h24, h24', h33, h33', h41, h41', h46, h46']
                obtain rfl := Option.some.inj hM
                exact hK45 (decide ((a0.args.length : Int) = x9)) _ rfl (Lift.into (by constructor <;> simp [go_sem, h6, h6', h15, h15', h24, h24', h33, h33', h41, h41', h46, h46']))
              · rw [if_neg h46] at hM
                have h46 := Bool.eq_false_iff.2 h46
                have h46' := h46; try simp at h46'
                refine AW_region ?_
                simp (maxSteps := 10000000) [go_sem, h6, h6', h15, h15', h24, h24', h33, h33', h41, h41', h46, h46']
                obtain rfl := Option.some.inj hM
                exact hK45 false _ rfl (Lift.into (by constructor <;> simp [go_sem, h6, h6', h15, h15', h24, h24', h33, h33', h41, h41', h46, h46']))
            · rintro x8 rfl
              have hM := hR43
              try dsimp only at hM
              obtain rfl := Option.some.inj hM
              refine AW_ret ?_
              simp (maxSteps := 10000000) [go_sem, h6, h6', h15, h15', h24, h24', h33, h33', h41, h41']
          · rw [if_neg (ne_true h41)] at hM
            have h41' := h41; try simp at h41'
            refine AW_seq fun K48 hK48 => ?_
            refine AW_region ?_
            simp (maxSteps := 10000000) [go_sem, h6, h6', h15, h15', h24, h24', h33, h33', h41, h41']
            refine hK48 _ ?_
            refine AW_cond (b := (decide (a0.kind = 6))) (by simp (maxSteps := 10000000) [go_sem, h6, h6', h15, h15', h24, h24', h33, h33', h41, h41']) (fun h49 => ?_) (fun h49 => ?_)
            · rw [if_pos h49] at hM
              have h49' := h49; try simp at h49'
              obtain ⟨e50, hU52, hR51⟩ := bind_some hM; clear hM
              refine AW_mid (ι := Bool) (fun i => ⟨120, [(2, .one (.l (.bool i)))], [], []⟩) (fun i => i = e50) ?_ ?_
              · intro K53 hK53
                have hM := hU52; clear hU52
                obtain ⟨x11, e54, hM⟩ := bind_some hM
                by_cases h55 : x11 = true
                · rw [if_pos h55] at hM
                  have h55' := h55; try simp at h55'
                  by_cases h56 : (decide (a0.text = (⟨#[]⟩ : ByteArray))) = true
                  · rw [if_pos h56] at hM
                    have h56' := h56; try simp at h56'
                    refine AW_region ?_
                    simp (maxSteps := 10000000) [go_sem, h6, h6', h15, h15', h24, h24', h33, h33', h41, h41', h49, h49', h55, h55', h56, h56']
                    refine by_ctr false (i_within_ctr a0.n 1 5 x11 e54) (by simp (maxSteps := 10000000) [go_sem, h6, h6', h15, h15', h24, h24', h33, h33', h41, h41', h49, h49', h55, h55', h56, h56']) (by simp) ?_
                    simp (maxSteps := 10000000) [go_sem, h6, h6', h15, h15', h24, h24', h33, h33', h41, h41', h49, h49', h55, h55', h56, h56']
                    obtain rfl := Option.some.inj hM
                    exact hK53 (decide ((a0.args.length : Int) = 2)) _ rfl (Lift.into (by constructor <;> simp [go_sem, h6, h6', h15, h15', h24, h24', h33, h33', h41, h41', h49, h49', h55, h55', h56, h56']))
                  · rw [if_neg h56] at hM
                    have h56 := Bool.eq_false_iff.2 h56
                    have h56' := h56; try simp at h56'
                    refine AW_region ?_
                    simp (maxSteps := 10000000) [go_sem, h6, h6', h15, h15', h24, h24', h33, h33', h41, h41', h49, h49', h55, h55', h56, h56']
                    refine by_ctr false (i_within_ctr a0.n 1 5 x11 e54) (by simp (maxSteps := 10000000) [go_sem, h6, h6', h15, h15', h24, h24', h33, h33', h41, h41', h49, h49', h55, h55', h56, h56']) (by simp) ?_
                    simp (maxSteps := 10000000) [go_sem, h6, h6', h15, h15', h24, h24', h33, h33', h41, h41', h49, h49', h55, h55', h56, h56']
                    obtain rfl := Option.some.inj hM
                    exact hK53 false _ rfl (Lift.into (by constructor <;> simp [go_sem, h6, h6', h15, h15', h24, h24', h33, h33', h41, h41', h49, h49', h55, h55', h56, h56']))
                · rw [if_neg h55] at hM
                  have h55 := Bool.eq_false_iff.2 h55
                  have h55' := h55; try simp at h55'
                  refine AW_region ?_
                  simp (maxSteps := 10000000) [go_sem, h6, h6', h15, h15', h24, h24', h33, h33', h41, h41', h49, h49', h55, h55']
                  refine by_ctr false (i_within_ctr a0.n 1 5 x11 e54) (by simp (maxSteps := 10000000) [go_sem, h6, h6', h15, h15', h24, h24', h33, h33', h41, h41', h49, h49', h55, h55']) (by simp) ?_
                  simp (maxSteps := 10000000) [go_sem, h6, h6', h15, h15', h24, h24', h33, h33', h41, h41', h49, h49', h55, h55']
                  obtain rfl := Option.some.inj hM
                  exact hK53 false _ rfl (Lift.into (by constructor <;> simp [go_sem, h6, h6', h15, h15', h24, h24', h33, h33', h41, h41', h49, h49', h55, h55']))
              · rintro x10 rfl
                have hM := hR51
                try dsimp only at hM
                obtain rfl := Option.some.inj hM
                refine AW_ret ?_
                simp (maxSteps := 10000000) [go_sem, h6, h6', h15, h15', h24, h24', h33, h33', h41, h41', h49, h49']
            · rw [if_neg (ne_true h49)] at hM
              have h49' := h49; try simp at h49'
              obtain ⟨e57, hU59, hR58⟩ := bind_some hM; clear hM
              refine AW_mid (ι := Bool) (fun i => ⟨120, [(1, .one (.box 1 0)), (3, .one (.l (.int .i64 (a0.args.length : Int)))), (8, .one (.l (.int .i64 a0.kind))), (91, .one (.l (.bool i)))], [(1, [.l (.int .i64 a0.kind), .l (.int .i64 a0.n), .l (.str a0.text), .l (.sl (a0.args.map TExpr.c))])], []⟩) (fun i => i = e57) ?_ ?_
              · intro K60 hK60
                have hM := hU59; clear hU59
                refine AW_seq fun K61 hK61 => ?_
                refine AW_region ?_
                simp (maxSteps := 10000000) [go_sem, h6, h6', h15, h15', h24, h24', h33, h33', h41, h41', h49, h49']
                refine hK61 _ ?_
                refine AW_cond (b := (decide (a0.kind = 7))) (by simp (maxSteps := 10000000) [go_sem, h6, h6', h15, h15', h24, h24', h33, h33', h41, h41', h49, h49']) (fun h62 => ?_) (fun h62 => ?_)
                · rw [if_pos h62] at hM
                  have h62' := h62; try simp at h62'
                  refine AW_skip ?_
                  obtain rfl := Option.some.inj hM
                  exact hK60 true _ rfl (Lift.into (by constructor <;> simp [go_sem, h6, h6', h15, h15', h24, h24', h33, h33', h41, h41', h49, h49', h62, h62']))
                · rw [if_neg (ne_true h62)] at hM
                  have h62' := h62; try simp at h62'
                  refine AW_region ?_
                  simp (maxSteps := 10000000) [go_sem, h6, h6', h15, h15', h24, h24', h33, h33', h41, h41', h49, h49', h62, h62']
                  obtain rfl := Option.some.inj hM
                  exact hK60 (decide (a0.kind = 9)) _ rfl (Lift.into (by constructor <;> simp [go_sem, h6, h6', h15, h15', h24, h24', h33, h33', h41, h41', h49, h49', h62, h62']))
              · rintro x12 rfl
                have hM := hR58
                try dsimp only at hM
                refine AW_cond (b := x12) (by simp (maxSteps := 10000000) [go_sem, h6, h6', h15, h15', h24, h24', h33, h33', h41, h41', h49, h49']) (fun h63 => ?_) (fun h63 => ?_)
                · rw [if_pos h63] at hM
                  have h63' := h63; try simp at h63'
                  obtain ⟨e64, hU66, hR65⟩ := bind_some hM; clear hM
                  refine AW_mid (ι := Bool) (fun i => ⟨120, [(2, .one (.l (.bool i)))], [], []⟩) (fun i => i = e64) ?_ ?_
                  · intro K67 hK67
                    have hM := hU66; clear hU66
                    by_cases h68 : (decide (a0.n = 0)) = true
                    · rw [if_pos h68] at hM
                      have h68' := h68; try simp at h68'
                      obtain ⟨x14, e69, hM⟩ := bind_some hM
                      by_cases h70 : x14 = true
                      · rw [if_pos h70] at hM
                        have h70' := h70; try simp at h70'
                        refine AW_region ?_
                        simp (maxSteps := 10000000) [go_sem, h6, h6', h15, h15', h24, h24', h33, h33', h41, h41', h49, h49', h63, h63', h68, h68', h70, h70']
                        refine by_ctr false (i_IsValidName_ctr k a0.text x14 e69) (by simp (maxSteps := 10000000) [go_sem, h6, h6', h15, h15', h24, h24', h33, h33', h41, h41', h49, h49', h63, h63', h68, h68', h70, h70']) (by simp) ?_
                        simp (maxSteps := 10000000) [go_sem, h6, h6', h15, h15', h24, h24', h33, h33', h41, h41', h49, h49', h63, h63', h68, h68', h70, h70']
                        obtain rfl := Option.some.inj hM
                        exact hK67 (decide ((a0.args.length : Int) = 2)) _ rfl (Lift.into (by constructor <;> simp [go_sem, h6, h6', h15, h15', h24, h24', h33, h33', h41, h41', h49, h49', h63, h63', h68, h68', h70, h70']))
                      · rw [if_neg h70] at hM
                        have h70 := Bool.eq_false_iff.2 h70
                        have h70' := h70; try simp at h70'
                        refine AW_region ?_
                        simp (maxSteps := 10000000) [go_sem, h6, h6', h15, h15', h24, h24', h33, h33', h41, h41', h49, h49', h63, h63', h68, h68', h70, h70']
                        refine by_ctr false (i_IsValidName_ctr k a0.text x14 e69) (by simp (maxSteps := 10000000) [go_sem, h6, h6', h15, h15', h24, h24', h33, h33', h41, h41', h49, h49', h63, h63', h68, h68', h70, h70']) (by simp) ?_
                        simp (maxSteps := 10000000) [go_sem, h6, h6', h15, h15', h24, h24', h33, h33', h41, h41', h49, h49', h63, h63', h68, h68', h70, h70']
                        obtain rfl := Option.some.inj hM
                        exact hK67 false _ rfl (Lift.into (by constructor <;> simp [go_sem, h6, h6', h15, h15', h24, h24', h33, h33', h41, h41', h49, h49', h63, h63', h68, h68', h70, h70']))
                    · rw [if_neg h68] at hM
                      have h68 := Bool.eq_false_iff.2 h68
                      have h68' := h68; try simp at h68'
                      refine AW_region ?_
                      simp (maxSteps := 10000000) [go_sem, h6, h6', h15, h15', h24, h24', h33, h33', h41, h41', h49, h49', h63, h63', h68, h68']
                      obtain rfl := Option.some.inj hM
                      exact hK67 false _ rfl (Lift.into (by constructor <;> simp [go_sem, h6, h6', h15, h15', h24, h24', h33, h33', h41, h41', h49, h49', h63, h63', h68, h68']))
                  · rintro x13 rfl
                    have hM := hR65
                    try dsimp only at hM
                    obtain rfl := Option.some.inj hM
                    refine AW_ret ?_
                    simp (maxSteps := 10000000) [go_sem, h6, h6', h15, h15', h24, h24', h33, h33', h41, h41', h49, h49', h63, h63']
                · rw [if_neg (ne_true h63)] at hM
                  have h63' := h63; try simp at h63'
                  refine AW_seq fun K71 hK71 => ?_
                  refine AW_region ?_
                  simp (maxSteps := 10000000) [go_sem, h6, h6', h15, h15', h24, h24', h33, h33', h41, h41', h49, h49', h63, h63']
                  refine hK71 _ ?_
                  refine AW_cond (b := (decide (a0.kind = 8))) (by simp (maxSteps := 10000000) [go_sem, h6, h6', h15, h15', h24, h24', h33, h33', h41, h41', h49, h49', h63, h63']) (fun h72 => ?_) (fun h72 => ?_)
                  · rw [if_pos h72] at hM
                    have h72' := h72; try simp at h72'
                    obtain ⟨e73, hU75, hR74⟩ := bind_some hM; clear hM
                    refine AW_mid (ι := Bool) (fun i => ⟨120, [(2, .one (.l (.bool i)))], [], []⟩) (fun i => i = e73) ?_ ?_
                    · intro K76 hK76
                      have hM := hU75; clear hU75
                      by_cases h77 : (decide (a0.n = 0)) = true
                      · rw [if_pos h77] at hM
                        have h77' := h77; try simp at h77'
                        by_cases h78 : (decide (a0.text = (⟨#[]⟩ : ByteArray))) = true
                        · rw [if_pos h78] at hM
                          have h78' := h78; try simp at h78'
                          refine AW_region ?_
                          simp (maxSteps := 10000000) [go_sem, h6, h6', h15, h15', h24, h24', h33, h33', h41, h41', h49, h49', h63, h63', h72, h72', h77, h77', h78, h78']
                          obtain rfl := Option.some.inj hM
                          exact hK76 (decide ((a0.args.length : Int) = 3)) _ rfl (Lift.into (by constructor <;> simp [go_sem, h6, h6', h15, h15', h24, h24', h33, h33', h41, h41', h49, h49', h63, h63', h72, h72', h77, h77', h78, h78']))
                        · rw [if_neg h78] at hM
                          have h78 := Bool.eq_false_iff.2 h78
                          have h78' := h78; try simp at h78'
                          refine AW_region ?_
                          simp (maxSteps := 10000000) [go_sem, h6, h6', h15, h15', h24, h24', h33, h33', h41, h41', h49, h49', h63, h63', h72, h72', h77, h77', h78, h78']
                          obtain rfl := Option.some.inj hM
                          exact hK76 false _ rfl (Lift.into (by constructor <;> simp [go_sem, h6, h6', h15, h15', h24, h24', h33, h33', h41, h41', h49, h49', h63, h63', h72, h72', h77, h77', h78, h78']))
                      · rw [if_neg h77] at hM
                        have h77 := Bool.eq_false_iff.2 h77
                        have h77' := h77; try simp at h77'
                        refine AW_region ?_
                        simp (maxSteps := 10000000) [go_sem, h6, h6', h15, h15', h24, h24', h33, h33', h41, h41', h49, h49', h63, h63', h72, h72', h77, h77']
                        obtain rfl := Option.some.inj hM
                        exact hK76 false _ rfl (Lift.into (by constructor <;> simp [go_sem, h6, h6', h15, h15', h24, h24', h33, h33', h41, h41', h49, h49', h63, h63', h72, h72', h77, h77']))
                    · rintro x15 rfl
                      have hM := hR74
                      try dsimp only at hM
                      obtain rfl := Option.some.inj hM
                      refine AW_ret ?_
                      simp (maxSteps := 10000000) [go_sem, h6, h6', h15, h15', h24, h24', h33, h33', h41, h41', h49, h49', h63, h63', h72, h72']
                  · rw [if_neg (ne_true h72)] at hM
                    have h72' := h72; try simp at h72'
                    refine AW_skip ?_
                    refine hK3 _ ?_
                    refine AW_seq fun K79 hK79 => ?_
                    refine AW_region ?_
                    simp (maxSteps := 10000000) [go_sem, h6, h6', h15, h15', h24, h24', h33, h33', h41, h41', h49, h49', h63, h63', h72, h72']
                    refine hK79 _ ?_
                    obtain rfl := Option.some.inj hM
                    refine AW_ret ?_
                    simp (maxSteps := 10000000) [go_sem, h6, h6', h15, h15', h24, h24', h33, h33', h41, h41', h49, h49', h63, h63', h72, h72']
set_option maxHeartbeats 4000000 in
set_option maxRecDepth 100000 in
theorem i_areNodes_all : ∀ (k : Nat), (∀ (a0 : TExpr) (r : Bool) (hM : i_areNodes k a0 = some r), Ctr Try.prog 121 [.agg (TExpr.c a0)] true [.one (.bool r)]) := by
  intro k
  induction k with
  | zero => intro a0 r hM; simp [i_areNodes] at hM
  | succ k ih_i_areNodes =>
    · intro a0 r hM
      rw [i_areNodes] at hM
      refine Ctr.of_walk (by kernel_rfl) Try.func121 rfl Try.ntmps121 Try.results121 (by simp) ?_; intro N w0 hbad
      refine AW_seq fun K1 hK1 => ?_
      refine AW_region ?_
      simp (maxSteps := 10000000) [go_sem]
      refine hK1 _ ?_
      obtain ⟨e2, hU4, hR3⟩ := bind_some hM; clear hM
      refine AW_mid (ι := Unit) (fun i => ⟨18, [(1, .one (.box 1 0))], [(1, [.l (.int .i64 a0.kind), .l (.int .i64 a0.n), .l (.str a0.text), .l (.sl (a0.args.map TExpr.c))])], []⟩) (fun i => (.inl i) = e2) ?_ ?_
      · intro K5 hK5
        have hM := hU4; clear hU4
        refine AW_seq fun K6 hK6 => ?_
        refine AW_region ?_
        simp (maxSteps := 10000000) [go_sem]
        refine hK6 _ ?_
        refine AW_block ?_
        refine AW_go (ι := Int) (fun i => ⟨18, [(1, .one (.box 1 0)), (6, .one (.l (.sl (a0.args.map TExpr.c)))), (7, .one (.l (.int .i64 (a0.args.length : Int)))), (8, .one (.l (.int .i64 i)))], [(1, [.l (.int .i64 a0.kind), .l (.int .i64 a0.n), .l (.str a0.text), .l (.sl (a0.args.map TExpr.c))])], []⟩) (fun n i => i_areNodes_u1 (i_areNodes k) a0 n i = some e2) k 0 hM (Lift.into (by constructor <;> simp [go_sem])) (fun _ h => by simp [i_areNodes_u1] at h) ?_
        intro KL7 n x1 hL7 hM
        have hM : i_areNodes_u1 (i_areNodes k) a0 (n + 1) x1 = some e2 := hM; rw [i_areNodes_u1] at hM
        refine AW_seq fun K8 hK8 => ?_
        refine AW_region ?_
        simp (maxSteps := 10000000) [go_sem]
        refine hK8 _ ?_
        refine AW_seq fun K9 hK9 => ?_
        refine AW_cond (b := (decide (x1 < (a0.args.length : Int)))) (by simp (maxSteps := 10000000) [go_sem]) (fun h10 => ?_) (fun h10 => ?_)
        · rw [if_pos h10] at hM
          have h10' := h10; try simp at h10'
          have h10'' : ¬ ((a0.args.length : Int) ≤ x1) := by have := h10; simp at this; omega
          refine AW_skip ?_
          refine hK9 _ ?_
          refine AW_seq fun K11 hK11 => ?_
          refine AW_block ?_
          refine AW_seq fun K12 hK12 => ?_
          obtain ⟨x2, e13, hM⟩ := bind_some hM
          obtain ⟨p14, q15, l16, g17⟩ := at_spec e13
          refine AW_region ?_
          simp (maxSteps := 10000000) [go_sem, h10, h10', h10'', p14, q15, g17]
          refine hK12 _ ?_
          refine AW_seq fun K18 hK18 => ?_
          obtain ⟨x3, e19, hM⟩ := bind_some hM
          refine AW_region ?_
          simp (maxSteps := 10000000) [go_sem, h10, h10', h10'', p14, q15, g17]
          refine by_ctr false (ih_i_areNodes x2 x3 e19) (by simp (maxSteps := 10000000) [go_sem, h10, h10', h10'', p14, q15, g17]) (by simp) ?_
          simp (maxSteps := 10000000) [go_sem, h10, h10', h10'', p14, q15, g17]
          refine hK18 _ ?_
          refine AW_cond (b := (!x3)) (by simp (maxSteps := 10000000) [go_sem, h10, h10', h10'', p14, q15, g17]) (fun h20 => ?_) (fun h20 => ?_)
          · rw [if_pos h20] at hM
            have h20' := h20; try simp at h20'
            refine AW_seq fun K21 hK21 => ?_
            refine AW_region ?_
            simp (maxSteps := 10000000) [go_sem, h10, h10', h10'', p14, q15, g17, h20, h20']
            refine hK21 _ ?_
            obtain rfl := Option.some.inj hM
            have hM := hR3; dsimp only at hM
            obtain rfl := Option.some.inj hM
            refine AW_ret ?_
            simp (maxSteps := 10000000) [go_sem, h10, h10', h10'', p14, q15, g17, h20, h20']
          · rw [if_neg (ne_true h20)] at hM
            have h20' := h20; try simp at h20'
            refine AW_skip ?_
            refine hK11 _ ?_
            refine AW_region ?_
            simp (maxSteps := 10000000) [go_sem, h10, h10', h10'', p14, q15, g17, h20, h20']
            exact hL7 (IntKind.i64.wrap (x1 + 1)) _ hM (Lift.into (by constructor <;> simp [go_sem, h10, h10', h10'', p14, q15, g17, h20, h20']))
        · rw [if_neg (ne_true h10)] at hM
          have h10' := h10; try simp at h10'
          have h10'' : ¬ (x1 < (a0.args.length : Int)) := by have := h10; simp at this; omega
          refine AW_exit ?_
          obtain rfl := Option.some.inj hM
          exact hK5 () _ rfl (Lift.into (by constructor <;> simp [go_sem, h10, h10', h10'']))
      · rintro _ rfl
        have hM := hR3
        dsimp only at hM
        refine AW_seq fun K22 hK22 => ?_
        obtain ⟨x4, e23, hM⟩ := bind_some hM
        refine AW_region ?_
        simp (maxSteps := 10000000) [go_sem]
        refine by_ctr false (i_isNode_ctr k a0 x4 e23) (by simp (maxSteps := 10000000) [go_sem]) (by simp) ?_
        simp (maxSteps := 10000000) [go_sem]
        refine hK22 _ ?_
        obtain rfl := Option.some.inj hM
        refine AW_ret ?_
        simp (maxSteps := 10000000) [go_sem]
theorem i_areNodes_ctr (k : Nat) : ∀ (a0 : TExpr) (r : Bool) (hM : i_areNodes k a0 = some r), Ctr Try.prog 121 [.agg (TExpr.c a0)] true [.one (.bool r)] := (i_areNodes_all k)

set_option maxHeartbeats 4000000 in
set_option maxRecDepth 100000 in
theorem i_IsValidExpr_ctr (k : Nat) (a0 : TExpr) (r : Bool) (hM : i_IsValidExpr k a0 = some r) : Ctr Try.prog 102 [.agg (TExpr.c a0)] true [.one (.bool r)] := by
  unfold i_IsValidExpr at hM
  refine Ctr.of_walk (by kernel_rfl) Try.func102 rfl Try.ntmps102 Try.results102 (by simp) ?_; intro N w0 hbad
  refine AW_seq fun K1 hK1 => ?_
  refine AW_region ?_
  simp (maxSteps := 10000000) [go_sem]
  refine hK1 _ ?_
  obtain ⟨e2, hU4, hR3⟩ := bind_some hM; clear hM
  refine AW_mid (ι := Bool) (fun i => ⟨15, [(2, .one (.l (.bool i)))], [], []⟩) (fun i => i = e2) ?_ ?_
  · intro K5 hK5
    have hM := hU4; clear hU4
    obtain ⟨x2, e6, hM⟩ := bind_some hM
    by_cases h7 : (decide (x2 ≤ 40)) = true
    · rw [if_pos h7] at hM
      have h7' := h7; try simp at h7'
      have h7'' : ¬ (40 < x2) := by have := h7; simp at this; omega
      obtain ⟨x3, e8, hM⟩ := bind_some hM
      by_cases h9 : (decide (x3 ≤ 8)) = true
      · rw [if_pos h9] at hM
        have h9' := h9; try simp at h9'
        have h9'' : ¬ (8 < x3) := by have := h9; simp at this; omega
        obtain ⟨x4, e10, hM⟩ := bind_some hM
        refine AW_region ?_
        simp (maxSteps := 10000000) [go_sem, h7, h7', h7'', h9, h9', h9'']
        refine by_ctr false (i_NodeCount_ctr k a0 x2 e6) (by simp (maxSteps := 10000000) [go_sem, h7, h7', h7'', h9, h9', h9'']) (by simp) ?_
        simp (maxSteps := 10000000) [go_sem, h7, h7', h7'', h9, h9', h9'']
        refine by_ctr false (i_NestingOf_ctr k a0 x3 e8) (by simp (maxSteps := 10000000) [go_sem, h7, h7', h7'', h9, h9', h9'']) (by simp) ?_
        simp (maxSteps := 10000000) [go_sem, h7, h7', h7'', h9, h9', h9'']
        refine by_ctr false (i_areNodes_ctr k a0 x4 e10) (by simp (maxSteps := 10000000) [go_sem, h7, h7', h7'', h9, h9', h9'']) (by simp) ?_
        simp (maxSteps := 10000000) [go_sem, h7, h7', h7'', h9, h9', h9'']
        obtain rfl := Option.some.inj hM
        exact hK5 x4 _ rfl (Lift.into (by constructor <;> simp [go_sem, h7, h7', h7'', h9, h9', h9'']))
      · rw [if_neg h9] at hM
        have h9 := Bool.eq_false_iff.2 h9
        have h9' := h9; try simp at h9'
        have h9'' : ¬ (x3 ≤ 8) := by have := h9; simp at this; omega
        refine AW_region ?_
        simp (maxSteps := 10000000) [go_sem, h7, h7', h7'', h9, h9', h9'']
        refine by_ctr false (i_NodeCount_ctr k a0 x2 e6) (by simp (maxSteps := 10000000) [go_sem, h7, h7', h7'', h9, h9', h9'']) (by simp) ?_
        simp (maxSteps := 10000000) [go_sem, h7, h7', h7'', h9, h9', h9'']
        refine by_ctr false (i_NestingOf_ctr k a0 x3 e8) (by simp (maxSteps := 10000000) [go_sem, h7, h7', h7'', h9, h9', h9'']) (by simp) ?_
        simp (maxSteps := 10000000) [go_sem, h7, h7', h7'', h9, h9', h9'']
        obtain rfl := Option.some.inj hM
        exact hK5 false _ rfl (Lift.into (by constructor <;> simp [go_sem, h7, h7', h7'', h9, h9', h9'']))
    · rw [if_neg h7] at hM
      have h7 := Bool.eq_false_iff.2 h7
      have h7' := h7; try simp at h7'
      have h7'' : ¬ (x2 ≤ 40) := by have := h7; simp at this; omega
      refine AW_region ?_
      simp (maxSteps := 10000000) [go_sem, h7, h7', h7'']
      refine by_ctr false (i_NodeCount_ctr k a0 x2 e6) (by simp (maxSteps := 10000000) [go_sem, h7, h7', h7'']) (by simp) ?_
      simp (maxSteps := 10000000) [go_sem, h7, h7', h7'']
      obtain rfl := Option.some.inj hM
      exact hK5 false _ rfl (Lift.into (by constructor <;> simp [go_sem, h7, h7', h7'']))
  · rintro x1 rfl
    have hM := hR3
    try dsimp only at hM
    obtain rfl := Option.some.inj hM
    refine AW_ret ?_
    simp (maxSteps := 10000000) [go_sem]
set_option maxHeartbeats 4000000 in
set_option maxRecDepth 100000 in
theorem i_isPipe_all : ∀ (k : Nat), (∀ (a0 : TExpr) (r : Bool) (hM : i_isPipe k a0 = some r), Ctr Try.prog 103 [.agg (TExpr.c a0)] true [.one (.bool r)]) := by
  intro k
  induction k with
  | zero => intro a0 r hM; simp [i_isPipe] at hM
  | succ k ih_i_isPipe =>
    · intro a0 r hM
      rw [i_isPipe] at hM
      refine Ctr.of_walk (by kernel_rfl) Try.func103 rfl Try.ntmps103 Try.results103 (by simp) ?_; intro N w0 hbad
      refine AW_seq fun K1 hK1 => ?_
      refine AW_region ?_
      simp (maxSteps := 10000000) [go_sem]
      refine hK1 _ ?_
      refine AW_seq fun K2 hK2 => ?_
      refine AW_seq fun K3 hK3 => ?_
      refine AW_region ?_
      simp (maxSteps := 10000000) [go_sem]
      refine hK3 _ ?_
      refine AW_cond (b := (decide (a0.kind = 3))) (by simp (maxSteps := 10000000) [go_sem]) (fun h4 => ?_) (fun h4 => ?_)
      · rw [if_pos h4] at hM
        have h4' := h4; try simp at h4'
        refine AW_seq fun K5 hK5 => ?_
        refine AW_region ?_
        simp (maxSteps := 10000000) [go_sem, h4, h4']
        refine hK5 _ ?_
        obtain rfl := Option.some.inj hM
        refine AW_ret ?_
        simp (maxSteps := 10000000) [go_sem, h4, h4']
      · rw [if_neg (ne_true h4)] at hM
        have h4' := h4; try simp at h4'
        refine AW_skip ?_
        refine hK2 _ ?_
        refine AW_seq fun K6 hK6 => ?_
        refine AW_region ?_
        simp (maxSteps := 10000000) [go_sem, h4, h4']
        refine hK6 _ ?_
        obtain ⟨e7, hU9, hR8⟩ := bind_some hM; clear hM
        refine AW_mid (ι := Int) (fun i => ⟨48, [(1, .one (.box 1 0)), (3, .one (.l (.int .i64 i)))], [(1, [.l (.int .i64 a0.kind), .l (.int .i64 a0.n), .l (.str a0.text), .l (.sl (a0.args.map TExpr.c))])], []⟩) (fun i => (.inl i) = e7) ?_ ?_
        · intro K10 hK10
          have hM := hU9; clear hU9
          refine AW_seq fun K11 hK11 => ?_
          refine AW_region ?_
          simp (maxSteps := 10000000) [go_sem, h4, h4']
          refine hK11 _ ?_
          refine AW_block ?_
          obtain ⟨e12, hU14, hR13⟩ := bind_some hM; clear hM
          refine AW_mid (ι := Bool) (fun i => ⟨48, [(1, .one (.box 1 0)), (3, .one (.l (.int .i64 1))), (10, .one (.l (.str a0.text))), (11, .one (.l (.bool i)))], [(1, [.l (.int .i64 a0.kind), .l (.int .i64 a0.n), .l (.str a0.text), .l (.sl (a0.args.map TExpr.c))])], []⟩) (fun i => i = e12) ?_ ?_
          · intro K15 hK15
            have hM := hU14; clear hU14
            refine AW_seq fun K16 hK16 => ?_
            refine AW_region ?_
            simp (maxSteps := 10000000) [go_sem, h4, h4']
            refine hK16 _ ?_
            refine AW_cond (b := (decide (a0.text = (⟨#[119, 104, 101, 114, 101]⟩ : ByteArray)))) (by simp (maxSteps := 10000000) [go_sem, h4, h4']) (fun h17 => ?_) (fun h17 => ?_)
            · rw [if_pos h17] at hM
              have h17' := h17; try simp at h17'
              refine AW_skip ?_
              obtain rfl := Option.some.inj hM
              exact hK15 true _ rfl (Lift.into (by constructor <;> simp [go_sem, h4, h4', h17, h17']))
            · rw [if_neg (ne_true h17)] at hM
              have h17' := h17; try simp at h17'
              refine AW_seq fun K18 hK18 => ?_
              refine AW_region ?_
              simp (maxSteps := 10000000) [go_sem, h4, h4', h17, h17']
              refine hK18 _ ?_
              refine AW_cond (b := (decide (a0.text = (⟨#[107, 101, 101, 112]⟩ : ByteArray)))) (by simp (maxSteps := 10000000) [go_sem, h4, h4', h17, h17']) (fun h19 => ?_) (fun h19 => ?_)
              · rw [if_pos h19] at hM
                have h19' := h19; try simp at h19'
                refine AW_skip ?_
                obtain rfl := Option.some.inj hM
                exact hK15 true _ rfl (Lift.into (by constructor <;> simp [go_sem, h4, h4', h17, h17', h19, h19']))
              · rw [if_neg (ne_true h19)] at hM
                have h19' := h19; try simp at h19'
                refine AW_seq fun K20 hK20 => ?_
                refine AW_region ?_
                simp (maxSteps := 10000000) [go_sem, h4, h4', h17, h17', h19, h19']
                refine hK20 _ ?_
                refine AW_cond (b := (decide (a0.text = (⟨#[97, 100, 100]⟩ : ByteArray)))) (by simp (maxSteps := 10000000) [go_sem, h4, h4', h17, h17', h19, h19']) (fun h21 => ?_) (fun h21 => ?_)
                · rw [if_pos h21] at hM
                  have h21' := h21; try simp at h21'
                  refine AW_skip ?_
                  obtain rfl := Option.some.inj hM
                  exact hK15 true _ rfl (Lift.into (by constructor <;> simp [go_sem, h4, h4', h17, h17', h19, h19', h21, h21']))
                · rw [if_neg (ne_true h21)] at hM
                  have h21' := h21; try simp at h21'
                  refine AW_region ?_
                  simp (maxSteps := 10000000) [go_sem, h4, h4', h17, h17', h19, h19', h21, h21']
                  obtain rfl := Option.some.inj hM
                  exact hK15 (decide (a0.text = (⟨#[103, 114, 111, 117, 112]⟩ : ByteArray))) _ rfl (Lift.into (by constructor <;> simp [go_sem, h4, h4', h17, h17', h19, h19', h21, h21']))
          · rintro x2 rfl
            have hM := hR13
            try dsimp only at hM
            refine AW_cond (b := x2) (by simp (maxSteps := 10000000) [go_sem, h4, h4']) (fun h22 => ?_) (fun h22 => ?_)
            · rw [if_pos h22] at hM
              have h22' := h22; try simp at h22'
              refine AW_skip ?_
              obtain rfl := Option.some.inj hM
              exact hK10 1 _ rfl (Lift.into (by constructor <;> simp [go_sem, h4, h4', h22, h22']))
            · rw [if_neg (ne_true h22)] at hM
              have h22' := h22; try simp at h22'
              refine AW_seq fun K23 hK23 => ?_
              refine AW_region ?_
              simp (maxSteps := 10000000) [go_sem, h4, h4', h22, h22']
              refine hK23 _ ?_
              refine AW_cond (b := (decide (a0.text = (⟨#[106, 111, 105, 110]⟩ : ByteArray)))) (by simp (maxSteps := 10000000) [go_sem, h4, h4', h22, h22']) (fun h24 => ?_) (fun h24 => ?_)
              · rw [if_pos h24] at hM
                have h24' := h24; try simp at h24'
                refine AW_region ?_
                simp (maxSteps := 10000000) [go_sem, h4, h4', h22, h22', h24, h24']
                obtain rfl := Option.some.inj hM
                exact hK10 2 _ rfl (Lift.into (by constructor <;> simp [go_sem, h4, h4', h22, h22', h24, h24']))
              · rw [if_neg (ne_true h24)] at hM
                have h24' := h24; try simp at h24'
                refine AW_seq fun K25 hK25 => ?_
                refine AW_region ?_
                simp (maxSteps := 10000000) [go_sem, h4, h4', h22, h22', h24, h24']
                refine hK25 _ ?_
                obtain rfl := Option.some.inj hM
                have hM := hR8; dsimp only at hM
                obtain rfl := Option.some.inj hM
                refine AW_ret ?_
                simp (maxSteps := 10000000) [go_sem, h4, h4', h22, h22', h24, h24']
        · rintro x1 rfl
          have hM := hR8
          dsimp only at hM
          refine AW_seq fun K26 hK26 => ?_
          refine AW_seq fun K27 hK27 => ?_
          refine AW_region ?_
          simp (maxSteps := 10000000) [go_sem, h4, h4']
          refine hK27 _ ?_
          refine AW_cond (b := (!decide (a0.kind = 5))) (by simp (maxSteps := 10000000) [go_sem, h4, h4']) (fun h28 => ?_) (fun h28 => ?_)
          · rw [if_pos h28] at hM
            have h28' := h28; try simp at h28'
            refine AW_seq fun K29 hK29 => ?_
            refine AW_region ?_
            simp (maxSteps := 10000000) [go_sem, h4, h4', h28, h28']
            refine hK29 _ ?_
            obtain rfl := Option.some.inj hM
            refine AW_ret ?_
            simp (maxSteps := 10000000) [go_sem, h4, h4', h28, h28']
          · rw [if_neg (ne_true h28)] at hM
            have h28' := h28; try simp at h28'
            refine AW_skip ?_
            refine hK26 _ ?_
            obtain ⟨e30, hU32, hR31⟩ := bind_some hM; clear hM
            refine AW_mid (ι := Unit) (fun i => ⟨48, [], [], []⟩) (fun i => (.inl i) = e30) ?_ ?_
            · intro K33 hK33
              have hM := hU32; clear hU32
              refine AW_seq fun K34 hK34 => ?_
              refine AW_region ?_
              simp (maxSteps := 10000000) [go_sem, h4, h4', h28, h28']
              refine hK34 _ ?_
              refine AW_block ?_
              refine AW_go (ι := Int) (fun i => ⟨48, [(1, .one (.box 1 0)), (3, .one (.l (.int .i64 x1))), (22, .one (.l (.sl (a0.args.map TExpr.c)))), (23, .one (.l (.int .i64 (a0.args.length : Int)))), (24, .one (.l (.int .i64 i)))], [(1, [.l (.int .i64 a0.kind), .l (.int .i64 a0.n), .l (.str a0.text), .l (.sl (a0.args.map TExpr.c))])], []⟩) (fun n i => i_isPipe_u1 (i_isPipe k) a0 x1 n i = some e30) k 0 hM (Lift.into (by constructor <;> simp [go_sem, h4, h4', h28, h28'])) (fun _ h => by simp [i_isPipe_u1] at h) ?_
              intro KL35 n x3 hL35 hM
              have hM : i_isPipe_u1 (i_isPipe k) a0 x1 (n + 1) x3 = some e30 := hM; rw [i_isPipe_u1] at hM
              refine AW_seq fun K36 hK36 => ?_
              refine AW_region ?_
              simp (maxSteps := 10000000) [go_sem]
              refine hK36 _ ?_
              refine AW_seq fun K37 hK37 => ?_
              refine AW_cond (b := (decide (x3 < (a0.args.length : Int)))) (by simp (maxSteps := 10000000) [go_sem]) (fun h38 => ?_) (fun h38 => ?_)
              · rw [if_pos h38] at hM
                have h38' := h38; try simp at h38'
                have h38'' : ¬ ((a0.args.length : Int) ≤ x3) := by have := h38; simp at this; omega
                refine AW_skip ?_
                refine hK37 _ ?_
                obtain ⟨e39, hU41, hR40⟩ := bind_some hM; clear hM
                refine AW_mid (ι := Unit) (fun i => ⟨48, [(1, .one (.box 1 0)), (3, .one (.l (.int .i64 x1))), (22, .one (.l (.sl (a0.args.map TExpr.c)))), (23, .one (.l (.int .i64 (a0.args.length : Int)))), (24, .one (.l (.int .i64 x3)))], [(1, [.l (.int .i64 a0.kind), .l (.int .i64 a0.n), .l (.str a0.text), .l (.sl (a0.args.map TExpr.c))])], []⟩) (fun i => (.inl i) = e39) ?_ ?_
                · intro K42 hK42
                  have hM := hU41; clear hU41
                  refine AW_block ?_
                  refine AW_seq fun K43 hK43 => ?_
                  obtain ⟨x4, e44, hM⟩ := bind_some hM
                  obtain ⟨p45, q46, l47, g48⟩ := at_spec e44
                  refine AW_region ?_
                  simp (maxSteps := 10000000) [go_sem, h38, h38', h38'', p45, q46, g48]
                  refine hK43 _ ?_
                  refine AW_seq fun K49 hK49 => ?_
                  refine AW_region ?_
                  simp (maxSteps := 10000000) [go_sem, h38, h38', h38'', p45, q46, g48]
                  refine hK49 _ ?_
                  refine AW_cond (b := (decide ((IntKind.i64.wrap ((a0.args.length : Int) - x1)) ≤ x3))) (by simp (maxSteps := 10000000) [go_sem, h38, h38', h38'', p45, q46, g48]) (fun h50 => ?_) (fun h50 => ?_)
                  · rw [if_pos h50] at hM
                    have h50' := h50; try simp at h50'
                    have h50'' : ¬ (x3 < (IntKind.i64.wrap ((a0.args.length : Int) - x1))) := by have := h50; simp at this; omega
                    refine AW_seq fun K51 hK51 => ?_
                    obtain ⟨x5, e52, hM⟩ := bind_some hM
                    refine AW_region ?_
                    simp (maxSteps := 10000000) [go_sem, h38, h38', h38'', p45, q46, g48, h50, h50', h50'']
                    refine by_ctr false (ih_i_isPipe x4 x5 e52) (by simp (maxSteps := 10000000) [go_sem, h38, h38', h38'', p45, q46, g48, h50, h50', h50'']) (by simp) ?_
                    simp (maxSteps := 10000000) [go_sem, h38, h38', h38'', p45, q46, g48, h50, h50', h50'']
                    refine hK51 _ ?_
                    refine AW_cond (b := (!x5)) (by simp (maxSteps := 10000000) [go_sem, h38, h38', h38'', p45, q46, g48, h50, h50', h50'']) (fun h53 => ?_) (fun h53 => ?_)
                    · rw [if_pos h53] at hM
                      have h53' := h53; try simp at h53'
                      refine AW_seq fun K54 hK54 => ?_
                      refine AW_region ?_
                      simp (maxSteps := 10000000) [go_sem, h38, h38', h38'', p45, q46, g48, h50, h50', h50'', h53, h53']
                      refine hK54 _ ?_
                      obtain rfl := Option.some.inj hM
                      have hM := hR40; dsimp only at hM
                      obtain rfl := Option.some.inj hM
                      have hM := hR31; dsimp only at hM
                      obtain rfl := Option.some.inj hM
                      refine AW_ret ?_
                      simp (maxSteps := 10000000) [go_sem, h38, h38', h38'', p45, q46, g48, h50, h50', h50'', h53, h53']
                    · rw [if_neg (ne_true h53)] at hM
                      have h53' := h53; try simp at h53'
                      refine AW_skip ?_
                      obtain rfl := Option.some.inj hM
                      exact hK42 () _ rfl (Lift.into (by constructor <;> simp [go_sem, h38, h38', h38'', p45, q46, g48, h50, h50', h50'', h53, h53']))
                  · rw [if_neg (ne_true h50)] at hM
                    have h50' := h50; try simp at h50'
                    have h50'' : ¬ ((IntKind.i64.wrap ((a0.args.length : Int) - x1)) ≤ x3) := by have := h50; simp at this; omega
                    obtain ⟨e55, hU57, hR56⟩ := bind_some hM; clear hM
                    refine AW_mid (ι := Bool) (fun i => ⟨48, [(1, .one (.box 1 0)), (3, .one (.l (.int .i64 x1))), (22, .one (.l (.sl (a0.args.map TExpr.c)))), (23, .one (.l (.int .i64 (a0.args.length : Int)))), (24, .one (.l (.int .i64 x3))), (46, .one (.l (.bool i)))], [(1, [.l (.int .i64 a0.kind), .l (.int .i64 a0.n), .l (.str a0.text), .l (.sl (a0.args.map TExpr.c))])], []⟩) (fun i => i = e55) ?_ ?_
                    · intro K58 hK58
                      have hM := hU57; clear hU57
                      by_cases h59 : (!decide (x4.kind = 1)) = true
                      · rw [if_pos h59] at hM
                        have h59' := h59; try simp at h59'
                        refine AW_region ?_
                        simp (maxSteps := 10000000) [go_sem, h38, h38', h38'', p45, q46, g48, h50, h50', h50'', h59, h59']
                        obtain rfl := Option.some.inj hM
                        exact hK58 (!decide (x4.kind = 2)) _ rfl (Lift.into (by constructor <;> simp [go_sem, h38, h38', h38'', p45, q46, g48, h50, h50', h50'', h59, h59']))
                      · rw [if_neg h59] at hM
                        have h59 := Bool.eq_false_iff.2 h59
                        have h59' := h59; try simp at h59'
                        refine AW_region ?_
                        simp (maxSteps := 10000000) [go_sem, h38, h38', h38'', p45, q46, g48, h50, h50', h50'', h59, h59']
                        obtain rfl := Option.some.inj hM
                        exact hK58 false _ rfl (Lift.into (by constructor <;> simp [go_sem, h38, h38', h38'', p45, q46, g48, h50, h50', h50'', h59, h59']))
                    · rintro x6 rfl
                      have hM := hR56
                      try dsimp only at hM
                      refine AW_cond (b := x6) (by simp (maxSteps := 10000000) [go_sem, h38, h38', h38'', p45, q46, g48, h50, h50', h50'']) (fun h60 => ?_) (fun h60 => ?_)
                      · rw [if_pos h60] at hM
                        have h60' := h60; try simp at h60'
                        refine AW_seq fun K61 hK61 => ?_
                        refine AW_region ?_
                        simp (maxSteps := 10000000) [go_sem, h38, h38', h38'', p45, q46, g48, h50, h50', h50'', h60, h60']
                        refine hK61 _ ?_
                        obtain rfl := Option.some.inj hM
                        have hM := hR40; dsimp only at hM
                        obtain rfl := Option.some.inj hM
                        have hM := hR31; dsimp only at hM
                        obtain rfl := Option.some.inj hM
                        refine AW_ret ?_
                        simp (maxSteps := 10000000) [go_sem, h38, h38', h38'', p45, q46, g48, h50, h50', h50'', h60, h60']
                      · rw [if_neg (ne_true h60)] at hM
                        have h60' := h60; try simp at h60'
                        refine AW_skip ?_
                        obtain rfl := Option.some.inj hM
                        exact hK42 () _ rfl (Lift.into (by constructor <;> simp [go_sem, h38, h38', h38'', p45, q46, g48, h50, h50', h50'', h60, h60']))
                · rintro _ rfl
                  have hM := hR40
                  dsimp only at hM
                  refine AW_region ?_
                  simp (maxSteps := 10000000) [go_sem, h38, h38', h38'']
                  exact hL35 (IntKind.i64.wrap (x3 + 1)) _ hM (Lift.into (by constructor <;> simp [go_sem, h38, h38', h38'']))
              · rw [if_neg (ne_true h38)] at hM
                have h38' := h38; try simp at h38'
                have h38'' : ¬ (x3 < (a0.args.length : Int)) := by have := h38; simp at this; omega
                refine AW_exit ?_
                obtain rfl := Option.some.inj hM
                exact hK33 () _ rfl (Lift.into (by constructor <;> simp [go_sem, h38, h38', h38'']))
            · rintro _ rfl
              have hM := hR31
              dsimp only at hM
              refine AW_seq fun K62 hK62 => ?_
              refine AW_region ?_
              simp (maxSteps := 10000000) [go_sem, h4, h4', h28, h28']
              refine hK62 _ ?_
              obtain rfl := Option.some.inj hM
              refine AW_ret ?_
              simp (maxSteps := 10000000) [go_sem, h4, h4', h28, h28']
theorem i_isPipe_ctr (k : Nat) : ∀ (a0 : TExpr) (r : Bool) (hM : i_isPipe k a0 = some r), Ctr Try.prog 103 [.agg (TExpr.c a0)] true [.one (.bool r)] := (i_isPipe_all k)

set_option maxHeartbeats 4000000 in
set_option maxRecDepth 100000 in
theorem i_IsPipeline_ctr (k : Nat) (a0 : TExpr) (r : Bool) (hM : i_IsPipeline k a0 = some r) : Ctr Try.prog 57 [.agg (TExpr.c a0)] true [.one (.bool r)] := by
  unfold i_IsPipeline at hM
  refine Ctr.of_walk (by kernel_rfl) Try.func57 rfl Try.ntmps57 Try.results57 (by simp) ?_; intro N w0 hbad
  refine AW_seq fun K1 hK1 => ?_
  refine AW_region ?_
  simp (maxSteps := 10000000) [go_sem]
  refine hK1 _ ?_
  obtain ⟨e2, hU4, hR3⟩ := bind_some hM; clear hM
  refine AW_mid (ι := Bool) (fun i => ⟨9, [(2, .one (.l (.bool i)))], [], []⟩) (fun i => i = e2) ?_ ?_
  · intro K5 hK5
    have hM := hU4; clear hU4
    obtain ⟨x2, e6, hM⟩ := bind_some hM
    by_cases h7 : x2 = true
    · rw [if_pos h7] at hM
      have h7' := h7; try simp at h7'
      obtain ⟨x3, e8, hM⟩ := bind_some hM
      refine AW_region ?_
      simp (maxSteps := 10000000) [go_sem, h7, h7']
      refine by_ctr false (i_IsValidExpr_ctr k a0 x2 e6) (by simp (maxSteps := 10000000) [go_sem, h7, h7']) (by simp) ?_
      simp (maxSteps := 10000000) [go_sem, h7, h7']
      refine by_ctr false (i_isPipe_ctr k a0 x3 e8) (by simp (maxSteps := 10000000) [go_sem, h7, h7']) (by simp) ?_
      simp (maxSteps := 10000000) [go_sem, h7, h7']
      obtain rfl := Option.some.inj hM
      exact hK5 x3 _ rfl (Lift.into (by constructor <;> simp [go_sem, h7, h7']))
    · rw [if_neg h7] at hM
      have h7 := Bool.eq_false_iff.2 h7
      have h7' := h7; try simp at h7'
      refine AW_region ?_
      simp (maxSteps := 10000000) [go_sem, h7, h7']
      refine by_ctr false (i_IsValidExpr_ctr k a0 x2 e6) (by simp (maxSteps := 10000000) [go_sem, h7, h7']) (by simp) ?_
      simp (maxSteps := 10000000) [go_sem, h7, h7']
      obtain rfl := Option.some.inj hM
      exact hK5 false _ rfl (Lift.into (by constructor <;> simp [go_sem, h7, h7']))
  · rintro x1 rfl
    have hM := hR3
    try dsimp only at hM
    obtain rfl := Option.some.inj hM
    refine AW_ret ?_
    simp (maxSteps := 10000000) [go_sem]
set_option maxHeartbeats 4000000 in
set_option maxRecDepth 100000 in
theorem w_eqExprS_all : ∀ (k : Nat), (∀ (a0 : List TExpr) (a1 : List TExpr) (r : Bool) (hM : w_eqExprS k a0 a1 = some r), Ctr Try.prog 104 [.one (.sl (a0.map TExpr.c)), .one (.sl (a1.map TExpr.c))] true [.one (.bool r)]) ∧
    (∀ (a0 : TExpr) (a1 : TExpr) (r : Bool) (hM : w_eqExpr k a0 a1 = some r), Ctr Try.prog 58 [.agg (TExpr.c a0), .agg (TExpr.c a1)] true [.one (.bool r)]) := by
  intro k
  induction k with
  | zero => exact ⟨by intro a0 a1 r hM; simp [w_eqExprS] at hM, by intro a0 a1 r hM; simp [w_eqExpr] at hM⟩
  | succ k ih =>
    obtain ⟨ih_w_eqExprS, ih_w_eqExpr⟩ := ih
    refine ⟨?_, ?_⟩
    · intro a0 a1 r hM
      rw [w_eqExprS] at hM
      refine Ctr.of_walk (by kernel_rfl) Try.func104 rfl Try.ntmps104 Try.results104 (by simp) ?_; intro N w0 hbad
      refine AW_seq fun K1 hK1 => ?_
      refine AW_region ?_
      simp (maxSteps := 10000000) [go_sem]
      refine hK1 _ ?_
      refine AW_seq fun K2 hK2 => ?_
      refine AW_seq fun K3 hK3 => ?_
      refine AW_region ?_
      simp (maxSteps := 10000000) [go_sem]
      refine hK3 _ ?_
      refine AW_cond (b := (!decide ((a0.length : Int) = (a1.length : Int)))) (by simp (maxSteps := 10000000) [go_sem]) (fun h4 => ?_) (fun h4 => ?_)
      · rw [if_pos h4] at hM
        have h4' := h4; try simp at h4'
        refine AW_seq fun K5 hK5 => ?_
        refine AW_region ?_
        simp (maxSteps := 10000000) [go_sem, h4, h4']
        refine hK5 _ ?_
        obtain rfl := Option.some.inj hM
        refine AW_ret ?_
        simp (maxSteps := 10000000) [go_sem, h4, h4']
      · rw [if_neg (ne_true h4)] at hM
        have h4' := h4; try simp at h4'
        refine AW_skip ?_
        refine hK2 _ ?_
        obtain ⟨e6, hU8, hR7⟩ := bind_some hM; clear hM
        refine AW_mid (ι := Unit) (fun i => ⟨27, [], [], []⟩) (fun i => (.inl i) = e6) ?_ ?_
        · intro K9 hK9
          have hM := hU8; clear hU8
          refine AW_seq fun K10 hK10 => ?_
          refine AW_region ?_
          simp (maxSteps := 10000000) [go_sem, h4, h4']
          refine hK10 _ ?_
          refine AW_block ?_
          refine AW_go (ι := Int) (fun i => ⟨27, [(0, .one (.l (.sl (a0.map TExpr.c)))), (1, .one (.l (.sl (a1.map TExpr.c)))), (5, .one (.l (.int .i64 i)))], [], []⟩) (fun n i => w_eqExprS_u1 (w_eqExpr k) a0 a1 n i = some e6) k 0 hM (Lift.into (by constructor <;> simp [go_sem, h4, h4'])) (fun _ h => by simp [w_eqExprS_u1] at h) ?_
          intro KL11 n x1 hL11 hM
          have hM : w_eqExprS_u1 (w_eqExpr k) a0 a1 (n + 1) x1 = some e6 := hM; rw [w_eqExprS_u1] at hM
          refine AW_seq fun K12 hK12 => ?_
          refine AW_seq fun K13 hK13 => ?_
          refine AW_region ?_
          simp (maxSteps := 10000000) [go_sem]
          refine hK13 _ ?_
          refine AW_cond (b := (decide (x1 < (a0.length : Int)))) (by simp (maxSteps := 10000000) [go_sem]) (fun h14 => ?_) (fun h14 => ?_)
          · rw [if_pos h14] at hM
            have h14' := h14; try simp at h14'
            have h14'' : ¬ ((a0.length : Int) ≤ x1) := by have := h14; simp at this; omega
            refine AW_skip ?_
            refine hK12 _ ?_
            refine AW_seq fun K15 hK15 => ?_
            refine AW_block ?_
            refine AW_seq fun K16 hK16 => ?_
            obtain ⟨x2, e17, hM⟩ := bind_some hM
            obtain ⟨p18, q19, l20, g21⟩ := at_spec e17
            obtain ⟨x3, e22, hM⟩ := bind_some hM
            obtain ⟨p23, q24, l25, g26⟩ := at_spec e22
            obtain ⟨x4, e27, hM⟩ := bind_some hM
            refine AW_quick [[], [], [0, 1], [0, 1, 2], [], [], [4, 5], [4, 5, 6], [0, 1, 2, 3, 4, 5, 6, 7], [0, 1, 2, 3, 4, 5, 6, 7, 8]] 8 mixed (by kernel_rfl) (by kernel_rfl) ?_
            simp (maxSteps := 10000000) [go_sem, h14, h14', h14'', p18, q19, g21, p23, q24, g26]
            refine by_ctr false (ih_w_eqExpr x2 x3 x4 e27) (by simp (maxSteps := 10000000) [go_sem, h14, h14', h14'', p18, q19, g21, p23, q24, g26]) (by simp) ?_
            simp (maxSteps := 10000000) [go_sem, h14, h14', h14'', p18, q19, g21, p23, q24, g26]
            refine hK16 _ ?_
            refine AW_cond (b := (!x4)) (by simp (maxSteps := 10000000) [go_sem, h14, h14', h14'', p18, q19, g21, p23, q24, g26]) (fun h28 => ?_) (fun h28 => ?_)
            · rw [if_pos h28] at hM
              have h28' := h28; try simp at h28'
              refine AW_seq fun K29 hK29 => ?_
              refine AW_region ?_
              simp (maxSteps := 10000000) [go_sem, h14, h14', h14'', p18, q19, g21, p23, q24, g26, h28, h28']
              refine hK29 _ ?_
              obtain rfl := Option.some.inj hM
              have hM := hR7; dsimp only at hM
              obtain rfl := Option.some.inj hM
              refine AW_ret ?_
              simp (maxSteps := 10000000) [go_sem, h14, h14', h14'', p18, q19, g21, p23, q24, g26, h28, h28']
            · rw [if_neg (ne_true h28)] at hM
              have h28' := h28; try simp at h28'
              refine AW_skip ?_
              refine hK15 _ ?_
              refine AW_region ?_
              simp (maxSteps := 10000000) [go_sem, h14, h14', h14'', p18, q19, g21, p23, q24, g26, h28, h28']
              exact hL11 (IntKind.i64.wrap (x1 + 1)) _ hM (Lift.into (by constructor <;> simp [go_sem, h14, h14', h14'', p18, q19, g21, p23, q24, g26, h28, h28']))
          · rw [if_neg (ne_true h14)] at hM
            have h14' := h14; try simp at h14'
            have h14'' : ¬ (x1 < (a0.length : Int)) := by have := h14; simp at this; omega
            refine AW_exit ?_
            obtain rfl := Option.some.inj hM
            exact hK9 () _ rfl (Lift.into (by constructor <;> simp [go_sem, h14, h14', h14'']))
        · rintro _ rfl
          have hM := hR7
          dsimp only at hM
          refine AW_seq fun K30 hK30 => ?_
          refine AW_region ?_
          simp (maxSteps := 10000000) [go_sem, h4, h4']
          refine hK30 _ ?_
          obtain rfl := Option.some.inj hM
          refine AW_ret ?_
          simp (maxSteps := 10000000) [go_sem, h4, h4']
    · intro a0 a1 r hM
      rw [w_eqExpr] at hM
      refine Ctr.of_walk (by kernel_rfl) Try.func58 rfl Try.ntmps58 Try.results58 (by simp) ?_; intro N w0 hbad
      refine AW_seq fun K1 hK1 => ?_
      refine AW_region ?_
      simp (maxSteps := 10000000) [go_sem]
      refine hK1 _ ?_
      refine AW_seq fun K2 hK2 => ?_
      refine AW_seq fun K3 hK3 => ?_
      refine AW_region ?_
      simp (maxSteps := 10000000) [go_sem]
      refine hK3 _ ?_
      refine AW_cond (b := (!decide (a0.kind = a1.kind))) (by simp (maxSteps := 10000000) [go_sem]) (fun h4 => ?_) (fun h4 => ?_)
      · rw [if_pos h4] at hM
        have h4' := h4; try simp at h4'
        refine AW_seq fun K5 hK5 => ?_
        refine AW_region ?_
        simp (maxSteps := 10000000) [go_sem, h4, h4']
        refine hK5 _ ?_
        obtain rfl := Option.some.inj hM
        refine AW_ret ?_
        simp (maxSteps := 10000000) [go_sem, h4, h4']
      · rw [if_neg (ne_true h4)] at hM
        have h4' := h4; try simp at h4'
        refine AW_skip ?_
        refine hK2 _ ?_
        refine AW_seq fun K6 hK6 => ?_
        refine AW_seq fun K7 hK7 => ?_
        refine AW_region ?_
        simp (maxSteps := 10000000) [go_sem, h4, h4']
        refine hK7 _ ?_
        refine AW_cond (b := (!decide (a0.n = a1.n))) (by simp (maxSteps := 10000000) [go_sem, h4, h4']) (fun h8 => ?_) (fun h8 => ?_)
        · rw [if_pos h8] at hM
          have h8' := h8; try simp at h8'
          refine AW_seq fun K9 hK9 => ?_
          refine AW_region ?_
          simp (maxSteps := 10000000) [go_sem, h4, h4', h8, h8']
          refine hK9 _ ?_
          obtain rfl := Option.some.inj hM
          refine AW_ret ?_
          simp (maxSteps := 10000000) [go_sem, h4, h4', h8, h8']
        · rw [if_neg (ne_true h8)] at hM
          have h8' := h8; try simp at h8'
          refine AW_skip ?_
          refine hK6 _ ?_
          refine AW_seq fun K10 hK10 => ?_
          refine AW_seq fun K11 hK11 => ?_
          refine AW_region ?_
          simp (maxSteps := 10000000) [go_sem, h4, h4', h8, h8']
          refine hK11 _ ?_
          refine AW_cond (b := (!decide (a0.text = a1.text))) (by simp (maxSteps := 10000000) [go_sem, h4, h4', h8, h8']) (fun h12 => ?_) (fun h12 => ?_)
          · rw [if_pos h12] at hM
            have h12' := h12; try simp at h12'
            refine AW_seq fun K13 hK13 => ?_
            refine AW_region ?_
            simp (maxSteps := 10000000) [go_sem, h4, h4', h8, h8', h12, h12']
            refine hK13 _ ?_
            obtain rfl := Option.some.inj hM
            refine AW_ret ?_
            simp (maxSteps := 10000000) [go_sem, h4, h4', h8, h8', h12, h12']
          · rw [if_neg (ne_true h12)] at hM
            have h12' := h12; try simp at h12'
            refine AW_skip ?_
            refine hK10 _ ?_
            refine AW_seq fun K14 hK14 => ?_
            refine AW_seq fun K15 hK15 => ?_
            obtain ⟨x1, e16, hM⟩ := bind_some hM
            refine AW_region ?_
            simp (maxSteps := 10000000) [go_sem, h4, h4', h8, h8', h12, h12']
            refine by_ctr false (ih_w_eqExprS a0.args a1.args x1 e16) (by simp (maxSteps := 10000000) [go_sem, h4, h4', h8, h8', h12, h12']) (by simp) ?_
            simp (maxSteps := 10000000) [go_sem, h4, h4', h8, h8', h12, h12']
            refine hK15 _ ?_
            refine AW_cond (b := (!x1)) (by simp (maxSteps := 10000000) [go_sem, h4, h4', h8, h8', h12, h12']) (fun h17 => ?_) (fun h17 => ?_)
            · rw [if_pos h17] at hM
              have h17' := h17; try simp at h17'
              refine AW_seq fun K18 hK18 => ?_
              refine AW_region ?_
              simp (maxSteps := 10000000) [go_sem, h4, h4', h8, h8', h12, h12', h17, h17']
              refine hK18 _ ?_
              obtain rfl := Option.some.inj hM
              refine AW_ret ?_
              simp (maxSteps := 10000000) [go_sem, h4, h4', h8, h8', h12, h12', h17, h17']
            · rw [if_neg (ne_true h17)] at hM
              have h17' := h17; try simp at h17'
              refine AW_skip ?_
              refine hK14 _ ?_
              refine AW_seq fun K19 hK19 => ?_
              refine AW_region ?_
              simp (maxSteps := 10000000) [go_sem, h4, h4', h8, h8', h12, h12', h17, h17']
              refine hK19 _ ?_
              obtain rfl := Option.some.inj hM
              refine AW_ret ?_
              simp (maxSteps := 10000000) [go_sem, h4, h4', h8, h8', h12, h12', h17, h17']
theorem w_eqExprS_ctr (k : Nat) : ∀ (a0 : List TExpr) (a1 : List TExpr) (r : Bool) (hM : w_eqExprS k a0 a1 = some r), Ctr Try.prog 104 [.one (.sl (a0.map TExpr.c)), .one (.sl (a1.map TExpr.c))] true [.one (.bool r)] := (w_eqExprS_all k).1
theorem w_eqExpr_ctr (k : Nat) : ∀ (a0 : TExpr) (a1 : TExpr) (r : Bool) (hM : w_eqExpr k a0 a1 = some r), Ctr Try.prog 58 [.agg (TExpr.c a0), .agg (TExpr.c a1)] true [.one (.bool r)] := (w_eqExprS_all k).2

set_option maxHeartbeats 4000000 in
set_option maxRecDepth 100000 in
theorem w_FnExactIsPipeline_ctr (k : Nat) (a0 : TExpr) (r : Bool) (hM : w_FnExactIsPipeline k a0 = some r) : Ctr Try.prog 11 [.agg (TExpr.c a0)] true [.one (.bool r)] := by
  unfold w_FnExactIsPipeline at hM
  refine Ctr.of_walk (by kernel_rfl) Try.func11 rfl Try.ntmps11 Try.results11 (by simp) ?_; intro N w0 hbad
  refine AW_seq fun K1 hK1 => ?_
  refine AW_region ?_
  simp (maxSteps := 10000000) [go_sem]
  refine hK1 _ ?_
  refine AW_seq fun K2 hK2 => ?_
  refine AW_region ?_
  simp (maxSteps := 10000000) [go_sem]
  refine hK2 _ ?_
  refine AW_seq fun K3 hK3 => ?_
  obtain ⟨x1, e4, hM⟩ := bind_some hM
  refine AW_region ?_
  simp (maxSteps := 10000000) [go_sem]
  refine by_ctr false (w_szExpr_ctr k a0 1048576 x1 e4) (by simp (maxSteps := 10000000) [go_sem]) (by simp) ?_
  simp (maxSteps := 10000000) [go_sem]
  refine hK3 _ ?_
  refine AW_seq fun K5 hK5 => ?_
  refine AW_seq fun K6 hK6 => ?_
  refine AW_region ?_
  simp (maxSteps := 10000000) [go_sem]
  refine hK6 _ ?_
  refine AW_cond (b := (decide (x1 < 0))) (by simp (maxSteps := 10000000) [go_sem]) (fun h7 => ?_) (fun h7 => ?_)
  · rw [if_pos h7] at hM
    have h7' := h7; try simp at h7'
    have h7'' : ¬ (0 ≤ x1) := by have := h7; simp at this; omega
    refine AW_seq fun K8 hK8 => ?_
    refine AW_region ?_
    simp (maxSteps := 10000000) [go_sem, h7, h7', h7'']
    refine hK8 _ ?_
    obtain rfl := Option.some.inj hM
    refine AW_ret ?_
    simp (maxSteps := 10000000) [go_sem, h7, h7', h7'']
  · rw [if_neg (ne_true h7)] at hM
    have h7' := h7; try simp at h7'
    have h7'' : ¬ (x1 < 0) := by have := h7; simp at this; omega
    refine AW_skip ?_
    refine hK5 _ ?_
    refine AW_seq fun K9 hK9 => ?_
    obtain ⟨x2, e10, hM⟩ := bind_some hM
    obtain ⟨x3, e11, hM⟩ := bind_some hM
    refine AW_region ?_
    simp (maxSteps := 10000000) [go_sem, h7, h7', h7'']
    refine by_ctr false (w_toExpr_ctr k a0 x2 e10) (by simp (maxSteps := 10000000) [go_sem, h7, h7', h7'']) (by simp) ?_
    simp (maxSteps := 10000000) [go_sem, h7, h7', h7'']
    refine by_ctr false (s_IsPipeline_ctr k x2 x3 e11) (by simp (maxSteps := 10000000) [go_sem, h7, h7', h7'']) (by simp) ?_
    simp (maxSteps := 10000000) [go_sem, h7, h7', h7'']
    refine hK9 _ ?_
    refine AW_seq fun K12 hK12 => ?_
    obtain ⟨x4, e13, hM⟩ := bind_some hM
    refine AW_region ?_
    simp (maxSteps := 10000000) [go_sem, h7, h7', h7'']
    refine by_ctr false (w_toExpr_ctr k a0 x4 e13) (by simp (maxSteps := 10000000) [go_sem, h7, h7', h7'']) (by simp) ?_
    simp (maxSteps := 10000000) [go_sem, h7, h7', h7'']
    refine hK12 _ ?_
    refine AW_seq fun K14 hK14 => ?_
    obtain ⟨x5, e15, hM⟩ := bind_some hM
    refine AW_region ?_
    simp (maxSteps := 10000000) [go_sem, h7, h7', h7'']
    refine by_ctr false (i_IsPipeline_ctr k x4 x5 e15) (by simp (maxSteps := 10000000) [go_sem, h7, h7', h7'']) (by simp) ?_
    simp (maxSteps := 10000000) [go_sem, h7, h7', h7'']
    refine hK14 _ ?_
    refine AW_seq fun K16 hK16 => ?_
    refine AW_seq fun K17 hK17 => ?_
    refine AW_region ?_
    simp (maxSteps := 10000000) [go_sem, h7, h7', h7'']
    refine hK17 _ ?_
    refine AW_cond (b := (!(x5 == x3))) (by simp (maxSteps := 10000000) [go_sem, h7, h7', h7'']) (fun h18 => ?_) (fun h18 => ?_)
    · rw [if_pos h18] at hM
      have h18' := h18; try simp at h18'
      refine AW_seq fun K19 hK19 => ?_
      refine AW_region ?_
      simp (maxSteps := 10000000) [go_sem, h7, h7', h7'', h18, h18']
      refine hK19 _ ?_
      obtain rfl := Option.some.inj hM
      refine AW_ret ?_
      simp (maxSteps := 10000000) [go_sem, h7, h7', h7'', h18, h18']
    · rw [if_neg (ne_true h18)] at hM
      have h18' := h18; try simp at h18'
      refine AW_skip ?_
      refine hK16 _ ?_
      refine AW_seq fun K20 hK20 => ?_
      refine AW_seq fun K21 hK21 => ?_
      obtain ⟨x6, e22, hM⟩ := bind_some hM
      obtain ⟨x7, e23, hM⟩ := bind_some hM
      refine AW_open [[], [], [1], [0, 1, 2], [0, 1, 2, 3]] mixed (by kernel_rfl) ?_
      simp (maxSteps := 10000000) [go_sem, h7, h7', h7'', h18, h18']
      refine by_ctr false (w_toExpr_ctr k a0 x6 e22) (by simp (maxSteps := 10000000) [go_sem, h7, h7', h7'', h18, h18']) (by simp) ?_
      simp (maxSteps := 10000000) [go_sem, h7, h7', h7'', h18, h18']
      refine by_ctr false (w_eqExpr_ctr k x4 x6 x7 e23) (by simp (maxSteps := 10000000) [go_sem, h7, h7', h7'', h18, h18']) (by simp) ?_
      simp (maxSteps := 10000000) [go_sem, h7, h7', h7'', h18, h18']
      refine hK21 _ ?_
      refine AW_cond (b := (!x7)) (by simp (maxSteps := 10000000) [go_sem, h7, h7', h7'', h18, h18']) (fun h24 => ?_) (fun h24 => ?_)
      · rw [if_pos h24] at hM
        have h24' := h24; try simp at h24'
        refine AW_seq fun K25 hK25 => ?_
        refine AW_region ?_
        simp (maxSteps := 10000000) [go_sem, h7, h7', h7'', h18, h18', h24, h24']
        refine hK25 _ ?_
        obtain rfl := Option.some.inj hM
        refine AW_ret ?_
        simp (maxSteps := 10000000) [go_sem, h7, h7', h7'', h18, h18', h24, h24']
      · rw [if_neg (ne_true h24)] at hM
        have h24' := h24; try simp at h24'
        refine AW_skip ?_
        refine hK20 _ ?_
        refine AW_seq fun K26 hK26 => ?_
        refine AW_region ?_
        simp (maxSteps := 10000000) [go_sem, h7, h7', h7'', h18, h18', h24, h24']
        refine hK26 _ ?_
        obtain rfl := Option.some.inj hM
        refine AW_ret ?_
        simp (maxSteps := 10000000) [go_sem, h7, h7', h7'', h18, h18', h24, h24']
end Go.Proofs.Ytopjlbifglacpaa
