/- Contracts of the program's functions: where the mirrored function answers, the program's function returns this answer. Written by a program of mine. -/
import Derived.Test.YtopjlbifglacpaaWn
import Derived.Test.YtopjlbifglacpaaMd
import Derived.Test.YtopjlbifglacpaaCt3
set_option linter.unusedSimpArgs false
set_option linter.unusedVariables false
namespace Go.Proofs.Ytopjlbifglacpaa
open Go.RowKit Am

set_option maxHeartbeats 4000000 in
set_option maxRecDepth 100000 in
theorem i_ChangedCells_ctr (k : Nat) (a0 : TNotebook) (a1 : TNotebook) (r : List Int) (hM : i_ChangedCells k a0 a1 = some r) : Ctr Try.prog 40 [.agg (TNotebook.c a0), .agg (TNotebook.c a1)] true [.one (.sl (r.map iC))] := by
  unfold i_ChangedCells at hM
  refine Ctr.of_walk (by kernel_rfl) Try.func40 rfl Try.ntmps40 Try.results40 (by simp) ?_; intro N w0 hbad
  refine AW_seq fun K1 hK1 => ?_
  refine AW_region ?_
  simp (maxSteps := 10000000) [go_sem]
  refine hK1 _ ?_
  refine AW_seq fun K2 hK2 => ?_
  refine AW_region ?_
  simp (maxSteps := 10000000) [go_sem]
  refine hK2 _ ?_
  obtain ⟨e3, hU5, hR4⟩ := bind_some hM; clear hM
  refine AW_mid (ι := List Int) (fun i => ⟨39, [(5, .one (.own 576 i.length))], [], [(576, some ⟨true, i.map iC⟩)]⟩) (fun i => i = e3) ?_ ?_
  · intro K6 hK6
    have hM := hU5; clear hU5
    refine AW_seq fun K7 hK7 => ?_
    refine AW_region ?_
    simp (maxSteps := 10000000) [go_sem]
    refine hK7 _ ?_
    refine AW_block ?_
    refine AW_go (ι := (List Int) × Int) (fun i => ⟨39, [(2, .one (.box 2 0)), (5, .one (.own 576 i.1.length)), (11, .one (.l (.sl (a1.cells.map TCell.c)))), (12, .one (.l (.int .i64 (a1.cells.length : Int)))), (13, .one (.l (.int .i64 i.2)))], [(2, [.l (.sl (a0.cells.map TCell.c))])], [(576, some ⟨true, i.1.map iC⟩)]⟩) (fun n i => i_ChangedCells_u1 k a0 a1 n i.1 i.2 = some e3) k (([] : List Int), 0) hM (Lift.into (by constructor <;> simp [go_sem])) (fun _ h => by simp [i_ChangedCells_u1] at h) ?_
    intro KL8 n ⟨x2, x3⟩ hL8 hM
    have hM : i_ChangedCells_u1 k a0 a1 (n + 1) x2 x3 = some e3 := hM; rw [i_ChangedCells_u1] at hM
    refine AW_seq fun K9 hK9 => ?_
    refine AW_region ?_
    simp (maxSteps := 10000000) [go_sem]
    refine hK9 _ ?_
    refine AW_seq fun K10 hK10 => ?_
    refine AW_cond (b := (decide (x3 < (a1.cells.length : Int)))) (by simp (maxSteps := 10000000) [go_sem]) (fun h11 => ?_) (fun h11 => ?_)
    · rw [if_pos h11] at hM
      have h11' := h11; try simp at h11'
      have h11'' : ¬ ((a1.cells.length : Int) ≤ x3) := by have := h11; simp at this; omega
      refine AW_skip ?_
      refine hK10 _ ?_
      obtain ⟨e12, hU14, hR13⟩ := bind_some hM; clear hM
      refine AW_mid (ι := List Int) (fun i => ⟨39, [(2, .one (.box 2 0)), (5, .one (.own 576 i.length)), (11, .one (.l (.sl (a1.cells.map TCell.c)))), (12, .one (.l (.int .i64 (a1.cells.length : Int)))), (13, .one (.l (.int .i64 x3)))], [(2, [.l (.sl (a0.cells.map TCell.c))])], [(576, some ⟨true, i.map iC⟩)]⟩) (fun i => i = e12) ?_ ?_
      · intro K15 hK15
        have hM := hU14; clear hU14
        refine AW_block ?_
        refine AW_seq fun K16 hK16 => ?_
        obtain ⟨x5, e17, hM⟩ := bind_some hM
        obtain ⟨p18, q19, l20, g21⟩ := at_spec e17
        refine AW_region ?_
        simp (maxSteps := 10000000) [go_sem, h11, h11', h11'', p18, q19, g21]
        refine hK16 _ ?_
        refine AW_seq fun K22 hK22 => ?_
        obtain ⟨x6, e23, hM⟩ := bind_some hM
        refine AW_region ?_
        simp (maxSteps := 10000000) [go_sem, h11, h11', h11'', p18, q19, g21]
        refine by_ctr false (i_CellIndex_ctr k a0 x5.id x6 e23) (by simp (maxSteps := 10000000) [go_sem, h11, h11', h11'', p18, q19, g21]) (by simp) ?_
        simp (maxSteps := 10000000) [go_sem, h11, h11', h11'', p18, q19, g21]
        refine hK22 _ ?_
        obtain ⟨e24, hU26, hR25⟩ := bind_some hM; clear hM
        refine AW_mid (ι := Bool) (fun i => ⟨39, [(2, .one (.box 2 0)), (5, .one (.own 576 x2.length)), (7, .one (.box 7 0)), (11, .one (.l (.sl (a1.cells.map TCell.c)))), (12, .one (.l (.int .i64 (a1.cells.length : Int)))), (13, .one (.l (.int .i64 x3))), (31, .one (.l (.bool i)))], [(2, [.l (.sl (a0.cells.map TCell.c))]), (7, [.l (.int .i64 x5.id), .l (.int .i64 x5.version), .l (.int .i64 x5.kind), .l (.str x5.name), .l (.str x5.code), .l (.int .i64 x5.n)])], [(576, some ⟨true, x2.map iC⟩)]⟩) (fun i => i = e24) ?_ ?_
        · intro K27 hK27
          have hM := hU26; clear hU26
          by_cases h28 : (decide (x6 < 0)) = true
          · rw [if_pos h28] at hM
            have h28' := h28; try simp at h28'
            have h28'' : ¬ (0 ≤ x6) := by have := h28; simp at this; omega
            refine AW_quick [[], [0], [0, 1], [0, 1, 2], [0, 1, 2, 3], [0, 1, 2], [0, 1, 2, 3, 4, 5], [0, 1, 2, 3, 4, 5, 6], [0, 1, 2], [0, 1, 2, 3, 4, 5, 6, 7, 8], [0, 1, 2, 3, 4, 5, 6, 7, 8, 9]] 9 mixed (by kernel_rfl) (by kernel_rfl) ?_
            simp (maxSteps := 10000000) [go_sem, h11, h11', h11'', p18, q19, g21, h28, h28', h28'']
            obtain rfl := Option.some.inj hM
            exact hK27 true _ rfl (Lift.into (by constructor <;> simp [go_sem, h11, h11', h11'', p18, q19, g21, h28, h28', h28'']))
          · rw [if_neg h28] at hM
            have h28 := Bool.eq_false_iff.2 h28
            have h28' := h28; try simp at h28'
            have h28'' : ¬ (x6 < 0) := by have := h28; simp at this; omega
            obtain ⟨x8, e29, hM⟩ := bind_some hM
            obtain ⟨p30, q31, l32, g33⟩ := at_spec e29
            refine AW_quick [[], [0], [0, 1], [0, 1, 2], [0, 1, 2, 3], [0, 1, 2], [0, 1, 2, 3, 4, 5], [0, 1, 2, 3, 4, 5, 6], [0, 1, 2], [0, 1, 2, 3, 4, 5, 6, 7, 8], [0, 1, 2, 3, 4, 5, 6, 7, 8, 9]] 9 mixed (by kernel_rfl) (by kernel_rfl) ?_
            simp (maxSteps := 10000000) [go_sem, h11, h11', h11'', p18, q19, g21, h28, h28', h28'', p30, q31, g33]
            obtain rfl := Option.some.inj hM
            exact hK27 (!(decide (x8.id = x5.id) && (decide (x8.version = x5.version) && (decide (x8.kind = x5.kind) && (decide (x8.name = x5.name) && (decide (x8.code = x5.code) && decide (x8.n = x5.n))))))) _ rfl (Lift.into (by constructor <;> simp [go_sem, h11, h11', h11'', p18, q19, g21, h28, h28', h28'', p30, q31, g33]))
        · rintro x7 rfl
          have hM := hR25
          try dsimp only at hM
          refine AW_cond (b := x7) (by simp (maxSteps := 10000000) [go_sem, h11, h11', h11'', p18, q19, g21]) (fun h34 => ?_) (fun h34 => ?_)
          · rw [if_pos h34] at hM
            have h34' := h34; try simp at h34'
            obtain ⟨x9, e35, hM⟩ := bind_some hM
            obtain ⟨c36, s37, s38⟩ := app_spec e35
            subst c36
            try simp at s37
            try simp at s38
            refine AW_region ?_
            simp (maxSteps := 10000000) [go_sem, h11, h11', h11'', p18, q19, g21, h34, h34', s37, s38]
            obtain rfl := Option.some.inj hM
            exact hK15 (x2 ++ [x5.id]) _ rfl (Lift.into (by constructor <;> simp [go_sem, h11, h11', h11'', p18, q19, g21, h34, h34', s37, s38]))
          · rw [if_neg (ne_true h34)] at hM
            have h34' := h34; try simp at h34'
            refine AW_skip ?_
            obtain rfl := Option.some.inj hM
            exact hK15 x2 _ rfl (Lift.into (by constructor <;> simp [go_sem, h11, h11', h11'', p18, q19, g21, h34, h34']))
      · rintro x4 rfl
        have hM := hR13
        try dsimp only at hM
        refine AW_region ?_
        simp (maxSteps := 10000000) [go_sem, h11, h11', h11'']
        exact hL8 (x4, (IntKind.i64.wrap (x3 + 1))) _ hM (Lift.into (by constructor <;> simp [go_sem, h11, h11', h11'']))
    · rw [if_neg (ne_true h11)] at hM
      have h11' := h11; try simp at h11'
      have h11'' : ¬ (x3 < (a1.cells.length : Int)) := by have := h11; simp at this; omega
      refine AW_exit ?_
      obtain rfl := Option.some.inj hM
      exact hK6 x2 _ rfl (Lift.into (by constructor <;> simp [go_sem, h11, h11', h11'']))
  · rintro x1 rfl
    have hM := hR4
    try dsimp only at hM
    refine AW_seq fun K39 hK39 => ?_
    refine AW_region ?_
    simp (maxSteps := 10000000) [go_sem]
    refine hK39 _ ?_
    obtain rfl := Option.some.inj hM
    refine AW_ret ?_
    simp (maxSteps := 10000000) [go_sem]
set_option maxHeartbeats 4000000 in
set_option maxRecDepth 100000 in
theorem w_eqCell_ctr (a0 : TCell) (a1 : TCell) (r : Bool) (hM : w_eqCell a0 a1 = some r) : Ctr Try.prog 112 [.agg (TCell.c a0), .agg (TCell.c a1)] true [.one (.bool r)] := by
  unfold w_eqCell at hM
  refine Ctr.of_walk (by kernel_rfl) Try.func112 rfl Try.ntmps112 Try.results112 (by simp) ?_; intro N w0 hbad
  refine AW_seq fun K1 hK1 => ?_
  refine AW_region ?_
  simp (maxSteps := 10000000) [go_sem]
  refine hK1 _ ?_
  refine AW_seq fun K2 hK2 => ?_
  refine AW_seq fun K3 hK3 => ?_
  refine AW_region ?_
  simp (maxSteps := 10000000) [go_sem]
  refine hK3 _ ?_
  refine AW_cond (b := (!decide (a0.id = a1.id))) (by simp (maxSteps := 10000000) [go_sem]) (fun h4 => ?_) (fun h4 => ?_)
  · rw [if_pos h4] at hM
    have h4' := h4; try simp at h4'
    refine AW_seq fun K5 hK5 => ?_
    refine AW_region ?_
    simp (maxSteps := 10000000) [go_sem, h4, h4']
    refine hK5 _ ?_
    obtain rfl := Option.some.inj hM
    refine AW_ret ?_
    simp (maxSteps := 10000000) [go_sem, h4, h4']
  · rw [if_neg (ne_true h4)] at hM
    have h4' := h4; try simp at h4'
    refine AW_skip ?_
    refine hK2 _ ?_
    refine AW_seq fun K6 hK6 => ?_
    refine AW_seq fun K7 hK7 => ?_
    refine AW_region ?_
    simp (maxSteps := 10000000) [go_sem, h4, h4']
    refine hK7 _ ?_
    refine AW_cond (b := (!decide (a0.version = a1.version))) (by simp (maxSteps := 10000000) [go_sem, h4, h4']) (fun h8 => ?_) (fun h8 => ?_)
    · rw [if_pos h8] at hM
      have h8' := h8; try simp at h8'
      refine AW_seq fun K9 hK9 => ?_
      refine AW_region ?_
      simp (maxSteps := 10000000) [go_sem, h4, h4', h8, h8']
      refine hK9 _ ?_
      obtain rfl := Option.some.inj hM
      refine AW_ret ?_
      simp (maxSteps := 10000000) [go_sem, h4, h4', h8, h8']
    · rw [if_neg (ne_true h8)] at hM
      have h8' := h8; try simp at h8'
      refine AW_skip ?_
      refine hK6 _ ?_
      refine AW_seq fun K10 hK10 => ?_
      refine AW_seq fun K11 hK11 => ?_
      refine AW_region ?_
      simp (maxSteps := 10000000) [go_sem, h4, h4', h8, h8']
      refine hK11 _ ?_
      refine AW_cond (b := (!decide (a0.kind = a1.kind))) (by simp (maxSteps := 10000000) [go_sem, h4, h4', h8, h8']) (fun h12 => ?_) (fun h12 => ?_)
      · rw [if_pos h12] at hM
        have h12' := h12; try simp at h12'
        refine AW_seq fun K13 hK13 => ?_
        refine AW_region ?_
        simp (maxSteps := 10000000) [go_sem, h4, h4', h8, h8', h12, h12']
        refine hK13 _ ?_
        obtain rfl := Option.some.inj hM
        refine AW_ret ?_
        simp (maxSteps := 10000000) [go_sem, h4, h4', h8, h8', h12, h12']
      · rw [if_neg (ne_true h12)] at hM
        have h12' := h12; try simp at h12'
        refine AW_skip ?_
        refine hK10 _ ?_
        refine AW_seq fun K14 hK14 => ?_
        refine AW_seq fun K15 hK15 => ?_
        refine AW_region ?_
        simp (maxSteps := 10000000) [go_sem, h4, h4', h8, h8', h12, h12']
        refine hK15 _ ?_
        refine AW_cond (b := (!decide (a0.name = a1.name))) (by simp (maxSteps := 10000000) [go_sem, h4, h4', h8, h8', h12, h12']) (fun h16 => ?_) (fun h16 => ?_)
        · rw [if_pos h16] at hM
          have h16' := h16; try simp at h16'
          refine AW_seq fun K17 hK17 => ?_
          refine AW_region ?_
          simp (maxSteps := 10000000) [go_sem, h4, h4', h8, h8', h12, h12', h16, h16']
          refine hK17 _ ?_
          obtain rfl := Option.some.inj hM
          refine AW_ret ?_
          simp (maxSteps := 10000000) [go_sem, h4, h4', h8, h8', h12, h12', h16, h16']
        · rw [if_neg (ne_true h16)] at hM
          have h16' := h16; try simp at h16'
          refine AW_skip ?_
          refine hK14 _ ?_
          refine AW_seq fun K18 hK18 => ?_
          refine AW_seq fun K19 hK19 => ?_
          refine AW_region ?_
          simp (maxSteps := 10000000) [go_sem, h4, h4', h8, h8', h12, h12', h16, h16']
          refine hK19 _ ?_
          refine AW_cond (b := (!decide (a0.code = a1.code))) (by simp (maxSteps := 10000000) [go_sem, h4, h4', h8, h8', h12, h12', h16, h16']) (fun h20 => ?_) (fun h20 => ?_)
          · rw [if_pos h20] at hM
            have h20' := h20; try simp at h20'
            refine AW_seq fun K21 hK21 => ?_
            refine AW_region ?_
            simp (maxSteps := 10000000) [go_sem, h4, h4', h8, h8', h12, h12', h16, h16', h20, h20']
            refine hK21 _ ?_
            obtain rfl := Option.some.inj hM
            refine AW_ret ?_
            simp (maxSteps := 10000000) [go_sem, h4, h4', h8, h8', h12, h12', h16, h16', h20, h20']
          · rw [if_neg (ne_true h20)] at hM
            have h20' := h20; try simp at h20'
            refine AW_skip ?_
            refine hK18 _ ?_
            refine AW_seq fun K22 hK22 => ?_
            refine AW_seq fun K23 hK23 => ?_
            refine AW_region ?_
            simp (maxSteps := 10000000) [go_sem, h4, h4', h8, h8', h12, h12', h16, h16', h20, h20']
            refine hK23 _ ?_
            refine AW_cond (b := (!decide (a0.n = a1.n))) (by simp (maxSteps := 10000000) [go_sem, h4, h4', h8, h8', h12, h12', h16, h16', h20, h20']) (fun h24 => ?_) (fun h24 => ?_)
            · rw [if_pos h24] at hM
              have h24' := h24; try simp at h24'
              refine AW_seq fun K25 hK25 => ?_
              refine AW_region ?_
              simp (maxSteps := 10000000) [go_sem, h4, h4', h8, h8', h12, h12', h16, h16', h20, h20', h24, h24']
              refine hK25 _ ?_
              obtain rfl := Option.some.inj hM
              refine AW_ret ?_
              simp (maxSteps := 10000000) [go_sem, h4, h4', h8, h8', h12, h12', h16, h16', h20, h20', h24, h24']
            · rw [if_neg (ne_true h24)] at hM
              have h24' := h24; try simp at h24'
              refine AW_skip ?_
              refine hK22 _ ?_
              refine AW_seq fun K26 hK26 => ?_
              refine AW_region ?_
              simp (maxSteps := 10000000) [go_sem, h4, h4', h8, h8', h12, h12', h16, h16', h20, h20', h24, h24']
              refine hK26 _ ?_
              obtain rfl := Option.some.inj hM
              refine AW_ret ?_
              simp (maxSteps := 10000000) [go_sem, h4, h4', h8, h8', h12, h12', h16, h16', h20, h20', h24, h24']
set_option maxHeartbeats 4000000 in
set_option maxRecDepth 100000 in
theorem w_eqCellS_ctr (k : Nat) (a0 : List TCell) (a1 : List TCell) (r : Bool) (hM : w_eqCellS k a0 a1 = some r) : Ctr Try.prog 76 [.one (.sl (a0.map TCell.c)), .one (.sl (a1.map TCell.c))] true [.one (.bool r)] := by
  unfold w_eqCellS at hM
  refine Ctr.of_walk (by kernel_rfl) Try.func76 rfl Try.ntmps76 Try.results76 (by simp) ?_; intro N w0 hbad
  refine AW_seq fun K1 hK1 => ?_
  refine AW_region ?_
  simp (maxSteps := 10000000) [go_sem]
  refine hK1 _ ?_
  refine AW_seq fun K2 hK2 => ?_
  refine AW_seq fun K3 hK3 => ?_
  refine AW_region ?_
  simp (maxSteps := 10000000) [go_sem]
  refine hK3 _ ?_
  refine AW_cond (b := (!decide ((a0.length : Int) = (a1.length : Int)))) (by simp (maxSteps := 10000000) [go_sem]) (fun h4 => ?_) (fun h4 => ?_)
  · rw [if_pos h4] at hM
    have h4' := h4; try simp at h4'
    refine AW_seq fun K5 hK5 => ?_
    refine AW_region ?_
    simp (maxSteps := 10000000) [go_sem, h4, h4']
    refine hK5 _ ?_
    obtain rfl := Option.some.inj hM
    refine AW_ret ?_
    simp (maxSteps := 10000000) [go_sem, h4, h4']
  · rw [if_neg (ne_true h4)] at hM
    have h4' := h4; try simp at h4'
    refine AW_skip ?_
    refine hK2 _ ?_
    obtain ⟨e6, hU8, hR7⟩ := bind_some hM; clear hM
    refine AW_mid (ι := Unit) (fun i => ⟨27, [], [], []⟩) (fun i => (.inl i) = e6) ?_ ?_
    · intro K9 hK9
      have hM := hU8; clear hU8
      refine AW_seq fun K10 hK10 => ?_
      refine AW_region ?_
      simp (maxSteps := 10000000) [go_sem, h4, h4']
      refine hK10 _ ?_
      refine AW_block ?_
      refine AW_go (ι := Int) (fun i => ⟨27, [(0, .one (.l (.sl (a0.map TCell.c)))), (1, .one (.l (.sl (a1.map TCell.c)))), (5, .one (.l (.int .i64 i)))], [], []⟩) (fun n i => w_eqCellS_u1 a0 a1 n i = some e6) k 0 hM (Lift.into (by constructor <;> simp [go_sem, h4, h4'])) (fun _ h => by simp [w_eqCellS_u1] at h) ?_
      intro KL11 n x1 hL11 hM
      have hM : w_eqCellS_u1 a0 a1 (n + 1) x1 = some e6 := hM; rw [w_eqCellS_u1] at hM
      refine AW_seq fun K12 hK12 => ?_
      refine AW_seq fun K13 hK13 => ?_
      refine AW_region ?_
      simp (maxSteps := 10000000) [go_sem]
      refine hK13 _ ?_
      refine AW_cond (b := (decide (x1 < (a0.length : Int)))) (by simp (maxSteps := 10000000) [go_sem]) (fun h14 => ?_) (fun h14 => ?_)
      · rw [if_pos h14] at hM
        have h14' := h14; try simp at h14'
        have h14'' : ¬ ((a0.length : Int) ≤ x1) := by have := h14; simp at this; omega
        refine AW_skip ?_
        refine hK12 _ ?_
        refine AW_seq fun K15 hK15 => ?_
        refine AW_block ?_
        refine AW_seq fun K16 hK16 => ?_
        obtain ⟨x2, e17, hM⟩ := bind_some hM
        obtain ⟨p18, q19, l20, g21⟩ := at_spec e17
        obtain ⟨x3, e22, hM⟩ := bind_some hM
        obtain ⟨p23, q24, l25, g26⟩ := at_spec e22
        obtain ⟨x4, e27, hM⟩ := bind_some hM
        refine AW_quick [[], [], [0, 1], [0, 1, 2], [], [], [4, 5], [4, 5, 6], [0, 1, 2, 3, 4, 5, 6, 7], [0, 1, 2, 3, 4, 5, 6, 7, 8]] 8 mixed (by kernel_rfl) (by kernel_rfl) ?_
        simp (maxSteps := 10000000) [go_sem, h14, h14', h14'', p18, q19, g21, p23, q24, g26]
        refine by_ctr false (w_eqCell_ctr x2 x3 x4 e27) (by simp (maxSteps := 10000000) [go_sem, h14, h14', h14'', p18, q19, g21, p23, q24, g26]) (by simp) ?_
        simp (maxSteps := 10000000) [go_sem, h14, h14', h14'', p18, q19, g21, p23, q24, g26]
        refine hK16 _ ?_
        refine AW_cond (b := (!x4)) (by simp (maxSteps := 10000000) [go_sem, h14, h14', h14'', p18, q19, g21, p23, q24, g26]) (fun h28 => ?_) (fun h28 => ?_)
        · rw [if_pos h28] at hM
          have h28' := h28; try simp at h28'
          refine AW_seq fun K29 hK29 => ?_
          refine AW_region ?_
          simp (maxSteps := 10000000) [go_sem, h14, h14', h14'', p18, q19, g21, p23, q24, g26, h28, h28']
          refine hK29 _ ?_
          obtain rfl := Option.some.inj hM
          have hM := hR7; dsimp only at hM
          obtain rfl := Option.some.inj hM
          refine AW_ret ?_
          simp (maxSteps := 10000000) [go_sem, h14, h14', h14'', p18, q19, g21, p23, q24, g26, h28, h28']
        · rw [if_neg (ne_true h28)] at hM
          have h28' := h28; try simp at h28'
          refine AW_skip ?_
          refine hK15 _ ?_
          refine AW_region ?_
          simp (maxSteps := 10000000) [go_sem, h14, h14', h14'', p18, q19, g21, p23, q24, g26, h28, h28']
          exact hL11 (IntKind.i64.wrap (x1 + 1)) _ hM (Lift.into (by constructor <;> simp [go_sem, h14, h14', h14'', p18, q19, g21, p23, q24, g26, h28, h28']))
      · rw [if_neg (ne_true h14)] at hM
        have h14' := h14; try simp at h14'
        have h14'' : ¬ (x1 < (a0.length : Int)) := by have := h14; simp at this; omega
        refine AW_exit ?_
        obtain rfl := Option.some.inj hM
        exact hK9 () _ rfl (Lift.into (by constructor <;> simp [go_sem, h14, h14', h14'']))
    · rintro _ rfl
      have hM := hR7
      dsimp only at hM
      refine AW_seq fun K30 hK30 => ?_
      refine AW_region ?_
      simp (maxSteps := 10000000) [go_sem, h4, h4']
      refine hK30 _ ?_
      obtain rfl := Option.some.inj hM
      refine AW_ret ?_
      simp (maxSteps := 10000000) [go_sem, h4, h4']
set_option maxHeartbeats 4000000 in
set_option maxRecDepth 100000 in
theorem w_eqNotebook_ctr (k : Nat) (a0 : TNotebook) (a1 : TNotebook) (r : Bool) (hM : w_eqNotebook k a0 a1 = some r) : Ctr Try.prog 41 [.agg (TNotebook.c a0), .agg (TNotebook.c a1)] true [.one (.bool r)] := by
  unfold w_eqNotebook at hM
  refine Ctr.of_walk (by kernel_rfl) Try.func41 rfl Try.ntmps41 Try.results41 (by simp) ?_; intro N w0 hbad
  refine AW_seq fun K1 hK1 => ?_
  refine AW_region ?_
  simp (maxSteps := 10000000) [go_sem]
  refine hK1 _ ?_
  refine AW_seq fun K2 hK2 => ?_
  refine AW_seq fun K3 hK3 => ?_
  obtain ⟨x1, e4, hM⟩ := bind_some hM
  refine AW_region ?_
  simp (maxSteps := 10000000) [go_sem]
  refine by_ctr false (w_eqCellS_ctr k a0.cells a1.cells x1 e4) (by simp (maxSteps := 10000000) [go_sem]) (by simp) ?_
  simp (maxSteps := 10000000) [go_sem]
  refine hK3 _ ?_
  refine AW_cond (b := (!x1)) (by simp (maxSteps := 10000000) [go_sem]) (fun h5 => ?_) (fun h5 => ?_)
  · rw [if_pos h5] at hM
    have h5' := h5; try simp at h5'
    refine AW_seq fun K6 hK6 => ?_
    refine AW_region ?_
    simp (maxSteps := 10000000) [go_sem, h5, h5']
    refine hK6 _ ?_
    obtain rfl := Option.some.inj hM
    refine AW_ret ?_
    simp (maxSteps := 10000000) [go_sem, h5, h5']
  · rw [if_neg (ne_true h5)] at hM
    have h5' := h5; try simp at h5'
    refine AW_skip ?_
    refine hK2 _ ?_
    refine AW_seq fun K7 hK7 => ?_
    refine AW_region ?_
    simp (maxSteps := 10000000) [go_sem, h5, h5']
    refine hK7 _ ?_
    obtain rfl := Option.some.inj hM
    refine AW_ret ?_
    simp (maxSteps := 10000000) [go_sem, h5, h5']
set_option maxHeartbeats 4000000 in
set_option maxRecDepth 100000 in
theorem s_l1In_ctr (a0 : Int) (a1 : Int) (a2 : Int) (r : Bool) (hM : s_l1In a0 a1 a2 = some r) : Ctr Try.prog 78 [.one (.int .i64 a0), .one (.int .i64 a1), .one (.int .i64 a2)] true [.one (.bool r)] := by
  unfold s_l1In at hM
  refine Ctr.of_walk (by kernel_rfl) Try.func78 rfl Try.ntmps78 Try.results78 (by simp) ?_; intro N w0 hbad
  refine AW_seq fun K1 hK1 => ?_
  refine AW_region ?_
  simp (maxSteps := 10000000) [go_sem]
  refine hK1 _ ?_
  obtain ⟨e2, hU4, hR3⟩ := bind_some hM; clear hM
  refine AW_mid (ι := Bool) (fun i => ⟨15, [(6, .one (.l (.bool i)))], [], []⟩) (fun i => i = e2) ?_ ?_
  · intro K5 hK5
    have hM := hU4; clear hU4
    by_cases h6 : (decide (a1 ≤ a0)) = true
    · rw [if_pos h6] at hM
      have h6' := h6; try simp at h6'
      have h6'' : ¬ (a0 < a1) := by have := h6; simp at this; omega
      refine AW_region ?_
      simp (maxSteps := 10000000) [go_sem, h6, h6', h6'']
      obtain rfl := Option.some.inj hM
      exact hK5 (decide (a0 ≤ a2)) _ rfl (Lift.into (by constructor <;> simp [go_sem, h6, h6', h6'']))
    · rw [if_neg h6] at hM
      have h6 := Bool.eq_false_iff.2 h6
      have h6' := h6; try simp at h6'
      have h6'' : ¬ (a1 ≤ a0) := by have := h6; simp at this; omega
      refine AW_region ?_
      simp (maxSteps := 10000000) [go_sem, h6, h6', h6'']
      obtain rfl := Option.some.inj hM
      exact hK5 false _ rfl (Lift.into (by constructor <;> simp [go_sem, h6, h6', h6'']))
  · rintro x1 rfl
    have hM := hR3
    try dsimp only at hM
    obtain rfl := Option.some.inj hM
    refine AW_ret ?_
    simp (maxSteps := 10000000) [go_sem]
set_option maxHeartbeats 4000000 in
set_option maxRecDepth 100000 in
theorem i_within_ctr (a0 : Int) (a1 : Int) (a2 : Int) (r : Bool) (hM : i_within a0 a1 a2 = some r) : Ctr Try.prog 79 [.one (.int .i64 a0), .one (.int .i64 a1), .one (.int .i64 a2)] true [.one (.bool r)] := by
  unfold i_within at hM
  refine Ctr.of_walk (by kernel_rfl) Try.func79 rfl Try.ntmps79 Try.results79 (by simp) ?_; intro N w0 hbad
  refine AW_seq fun K1 hK1 => ?_
  refine AW_region ?_
  simp (maxSteps := 10000000) [go_sem]
  refine hK1 _ ?_
  obtain ⟨e2, hU4, hR3⟩ := bind_some hM; clear hM
  refine AW_mid (ι := Bool) (fun i => ⟨15, [(6, .one (.l (.bool i)))], [], []⟩) (fun i => i = e2) ?_ ?_
  · intro K5 hK5
    have hM := hU4; clear hU4
    by_cases h6 : (decide (a1 ≤ a0)) = true
    · rw [if_pos h6] at hM
      have h6' := h6; try simp at h6'
      have h6'' : ¬ (a0 < a1) := by have := h6; simp at this; omega
      refine AW_region ?_
      simp (maxSteps := 10000000) [go_sem, h6, h6', h6'']
      obtain rfl := Option.some.inj hM
      exact hK5 (decide (a0 ≤ a2)) _ rfl (Lift.into (by constructor <;> simp [go_sem, h6, h6', h6'']))
    · rw [if_neg h6] at hM
      have h6 := Bool.eq_false_iff.2 h6
      have h6' := h6; try simp at h6'
      have h6'' : ¬ (a1 ≤ a0) := by have := h6; simp at this; omega
      refine AW_region ?_
      simp (maxSteps := 10000000) [go_sem, h6, h6', h6'']
      obtain rfl := Option.some.inj hM
      exact hK5 false _ rfl (Lift.into (by constructor <;> simp [go_sem, h6, h6', h6'']))
  · rintro x1 rfl
    have hM := hR3
    try dsimp only at hM
    obtain rfl := Option.some.inj hM
    refine AW_ret ?_
    simp (maxSteps := 10000000) [go_sem]
set_option maxHeartbeats 4000000 in
set_option maxRecDepth 100000 in
theorem w_szStringS_ctr (k : Nat) (a0 : List ByteArray) (a1 : Int) (r : Int) (hM : w_szStringS k a0 a1 = some r) : Ctr Try.prog 81 [.one (.sl (a0.map sC)), .one (.int .i64 a1)] true [.one (.int .i64 r)] := by
  unfold w_szStringS at hM
  refine Ctr.of_walk (by kernel_rfl) Try.func81 rfl Try.ntmps81 Try.results81 (by simp) ?_; intro N w0 hbad
  refine AW_seq fun K1 hK1 => ?_
  refine AW_region ?_
  simp (maxSteps := 10000000) [go_sem]
  refine hK1 _ ?_
  refine AW_seq fun K2 hK2 => ?_
  refine AW_region ?_
  simp (maxSteps := 10000000) [go_sem]
  refine hK2 _ ?_
  refine AW_seq fun K3 hK3 => ?_
  refine AW_seq fun K4 hK4 => ?_
  refine AW_region ?_
  simp (maxSteps := 10000000) [go_sem]
  refine hK4 _ ?_
  refine AW_cond (b := (decide ((IntKind.i64.wrap (a1 - (a0.length : Int))) < 0))) (by simp (maxSteps := 10000000) [go_sem]) (fun h5 => ?_) (fun h5 => ?_)
  · rw [if_pos h5] at hM
    have h5' := h5; try simp at h5'
    have h5'' : ¬ (0 ≤ (IntKind.i64.wrap (a1 - (a0.length : Int)))) := by have := h5; simp at this; omega
    refine AW_seq fun K6 hK6 => ?_
    refine AW_region ?_
    simp (maxSteps := 10000000) [go_sem, h5, h5', h5'']
    refine hK6 _ ?_
    obtain rfl := Option.some.inj hM
    refine AW_ret ?_
    simp (maxSteps := 10000000) [go_sem, h5, h5', h5'']
  · rw [if_neg (ne_true h5)] at hM
    have h5' := h5; try simp at h5'
    have h5'' : ¬ ((IntKind.i64.wrap (a1 - (a0.length : Int))) < 0) := by have := h5; simp at this; omega
    refine AW_skip ?_
    refine hK3 _ ?_
    obtain ⟨e7, hU9, hR8⟩ := bind_some hM; clear hM
    refine AW_mid (ι := Int) (fun i => ⟨28, [(1, .one (.l (.int .i64 i)))], [], []⟩) (fun i => (.inl i) = e7) ?_ ?_
    · intro K10 hK10
      have hM := hU9; clear hU9
      refine AW_seq fun K11 hK11 => ?_
      refine AW_region ?_
      simp (maxSteps := 10000000) [go_sem, h5, h5', h5'']
      refine hK11 _ ?_
      refine AW_block ?_
      refine AW_go (ι := Int × Int) (fun i => ⟨28, [(0, .one (.l (.sl (a0.map sC)))), (1, .one (.l (.int .i64 i.1))), (5, .one (.l (.int .i64 i.2)))], [], []⟩) (fun n i => w_szStringS_u1 a0 n i.1 i.2 = some e7) k ((IntKind.i64.wrap (a1 - (a0.length : Int))), 0) hM (Lift.into (by constructor <;> simp [go_sem, h5, h5', h5''])) (fun _ h => by simp [w_szStringS_u1] at h) ?_
      intro KL12 n ⟨x2, x3⟩ hL12 hM
      have hM : w_szStringS_u1 a0 (n + 1) x2 x3 = some e7 := hM; rw [w_szStringS_u1] at hM
      refine AW_seq fun K13 hK13 => ?_
      refine AW_seq fun K14 hK14 => ?_
      refine AW_region ?_
      simp (maxSteps := 10000000) [go_sem]
      refine hK14 _ ?_
      refine AW_cond (b := (decide (x3 < (a0.length : Int)))) (by simp (maxSteps := 10000000) [go_sem]) (fun h15 => ?_) (fun h15 => ?_)
      · rw [if_pos h15] at hM
        have h15' := h15; try simp at h15'
        have h15'' : ¬ ((a0.length : Int) ≤ x3) := by have := h15; simp at this; omega
        refine AW_skip ?_
        refine hK13 _ ?_
        refine AW_seq fun K16 hK16 => ?_
        refine AW_block ?_
        refine AW_seq fun K17 hK17 => ?_
        obtain ⟨x4, e18, hM⟩ := bind_some hM
        obtain ⟨p19, q20, l21, g22⟩ := at_spec e18
        refine AW_region ?_
        simp (maxSteps := 10000000) [go_sem, h15, h15', h15'', p19, q20, g22]
        refine hK17 _ ?_
        refine AW_seq fun K23 hK23 => ?_
        refine AW_region ?_
        simp (maxSteps := 10000000) [go_sem, h15, h15', h15'', p19, q20, g22]
        refine hK23 _ ?_
        refine AW_cond (b := (decide ((IntKind.i64.wrap (x2 - (x4.size : Int))) < 0))) (by simp (maxSteps := 10000000) [go_sem, h15, h15', h15'', p19, q20, g22]) (fun h24 => ?_) (fun h24 => ?_)
        · rw [if_pos h24] at hM
          have h24' := h24; try simp at h24'
          have h24'' : ¬ (0 ≤ (IntKind.i64.wrap (x2 - (x4.size : Int)))) := by have := h24; simp at this; omega
          refine AW_seq fun K25 hK25 => ?_
          refine AW_region ?_
          simp (maxSteps := 10000000) [go_sem, h15, h15', h15'', p19, q20, g22, h24, h24', h24'']
          refine hK25 _ ?_
          obtain rfl := Option.some.inj hM
          have hM := hR8; dsimp only at hM
          obtain rfl := Option.some.inj hM
          refine AW_ret ?_
          simp (maxSteps := 10000000) [go_sem, h15, h15', h15'', p19, q20, g22, h24, h24', h24'']
        · rw [if_neg (ne_true h24)] at hM
          have h24' := h24; try simp at h24'
          have h24'' : ¬ ((IntKind.i64.wrap (x2 - (x4.size : Int))) < 0) := by have := h24; simp at this; omega
          refine AW_skip ?_
          refine hK16 _ ?_
          refine AW_region ?_
          simp (maxSteps := 10000000) [go_sem, h15, h15', h15'', p19, q20, g22, h24, h24', h24'']
          exact hL12 ((IntKind.i64.wrap (x2 - (x4.size : Int))), (IntKind.i64.wrap (x3 + 1))) _ hM (Lift.into (by constructor <;> simp [go_sem, h15, h15', h15'', p19, q20, g22, h24, h24', h24'']))
      · rw [if_neg (ne_true h15)] at hM
        have h15' := h15; try simp at h15'
        have h15'' : ¬ (x3 < (a0.length : Int)) := by have := h15; simp at this; omega
        refine AW_exit ?_
        obtain rfl := Option.some.inj hM
        exact hK10 x2 _ rfl (Lift.into (by constructor <;> simp [go_sem, h15, h15', h15'']))
    · rintro x1 rfl
      have hM := hR8
      dsimp only at hM
      refine AW_seq fun K26 hK26 => ?_
      refine AW_region ?_
      simp (maxSteps := 10000000) [go_sem, h5, h5', h5'']
      refine hK26 _ ?_
      obtain rfl := Option.some.inj hM
      refine AW_ret ?_
      simp (maxSteps := 10000000) [go_sem, h5, h5', h5'']
set_option maxHeartbeats 4000000 in
set_option maxRecDepth 100000 in
theorem w_szIntS_ctr (a0 : List Int) (a1 : Int) (r : Int) (hM : w_szIntS a0 a1 = some r) : Ctr Try.prog 83 [.one (.sl (a0.map iC)), .one (.int .i64 a1)] true [.one (.int .i64 r)] := by
  unfold w_szIntS at hM
  refine Ctr.of_walk (by kernel_rfl) Try.func83 rfl Try.ntmps83 Try.results83 (by simp) ?_; intro N w0 hbad
  refine AW_seq fun K1 hK1 => ?_
  refine AW_region ?_
  simp (maxSteps := 10000000) [go_sem]
  refine hK1 _ ?_
  refine AW_seq fun K2 hK2 => ?_
  refine AW_region ?_
  simp (maxSteps := 10000000) [go_sem]
  refine hK2 _ ?_
  refine AW_seq fun K3 hK3 => ?_
  refine AW_seq fun K4 hK4 => ?_
  refine AW_region ?_
  simp (maxSteps := 10000000) [go_sem]
  refine hK4 _ ?_
  refine AW_cond (b := (decide ((IntKind.i64.wrap (a1 - (a0.length : Int))) < 0))) (by simp (maxSteps := 10000000) [go_sem]) (fun h5 => ?_) (fun h5 => ?_)
  · rw [if_pos h5] at hM
    have h5' := h5; try simp at h5'
    have h5'' : ¬ (0 ≤ (IntKind.i64.wrap (a1 - (a0.length : Int)))) := by have := h5; simp at this; omega
    refine AW_seq fun K6 hK6 => ?_
    refine AW_region ?_
    simp (maxSteps := 10000000) [go_sem, h5, h5', h5'']
    refine hK6 _ ?_
    obtain rfl := Option.some.inj hM
    refine AW_ret ?_
    simp (maxSteps := 10000000) [go_sem, h5, h5', h5'']
  · rw [if_neg (ne_true h5)] at hM
    have h5' := h5; try simp at h5'
    have h5'' : ¬ ((IntKind.i64.wrap (a1 - (a0.length : Int))) < 0) := by have := h5; simp at this; omega
    refine AW_skip ?_
    refine hK3 _ ?_
    refine AW_seq fun K7 hK7 => ?_
    refine AW_region ?_
    simp (maxSteps := 10000000) [go_sem, h5, h5', h5'']
    refine hK7 _ ?_
    obtain rfl := Option.some.inj hM
    refine AW_ret ?_
    simp (maxSteps := 10000000) [go_sem, h5, h5', h5'']
set_option maxHeartbeats 4000000 in
set_option maxRecDepth 100000 in
theorem w_szOriginS_ctr (a0 : List TOrigin) (a1 : Int) (r : Int) (hM : w_szOriginS a0 a1 = some r) : Ctr Try.prog 84 [.one (.sl (a0.map TOrigin.c)), .one (.int .i64 a1)] true [.one (.int .i64 r)] := by
  unfold w_szOriginS at hM
  refine Ctr.of_walk (by kernel_rfl) Try.func84 rfl Try.ntmps84 Try.results84 (by simp) ?_; intro N w0 hbad
  refine AW_seq fun K1 hK1 => ?_
  refine AW_region ?_
  simp (maxSteps := 10000000) [go_sem]
  refine hK1 _ ?_
  refine AW_seq fun K2 hK2 => ?_
  refine AW_region ?_
  simp (maxSteps := 10000000) [go_sem]
  refine hK2 _ ?_
  refine AW_seq fun K3 hK3 => ?_
  refine AW_seq fun K4 hK4 => ?_
  refine AW_region ?_
  simp (maxSteps := 10000000) [go_sem]
  refine hK4 _ ?_
  refine AW_cond (b := (decide ((IntKind.i64.wrap (a1 - (a0.length : Int))) < 0))) (by simp (maxSteps := 10000000) [go_sem]) (fun h5 => ?_) (fun h5 => ?_)
  · rw [if_pos h5] at hM
    have h5' := h5; try simp at h5'
    have h5'' : ¬ (0 ≤ (IntKind.i64.wrap (a1 - (a0.length : Int)))) := by have := h5; simp at this; omega
    refine AW_seq fun K6 hK6 => ?_
    refine AW_region ?_
    simp (maxSteps := 10000000) [go_sem, h5, h5', h5'']
    refine hK6 _ ?_
    obtain rfl := Option.some.inj hM
    refine AW_ret ?_
    simp (maxSteps := 10000000) [go_sem, h5, h5', h5'']
  · rw [if_neg (ne_true h5)] at hM
    have h5' := h5; try simp at h5'
    have h5'' : ¬ ((IntKind.i64.wrap (a1 - (a0.length : Int))) < 0) := by have := h5; simp at this; omega
    refine AW_skip ?_
    refine hK3 _ ?_
    refine AW_seq fun K7 hK7 => ?_
    refine AW_region ?_
    simp (maxSteps := 10000000) [go_sem, h5, h5', h5'']
    refine hK7 _ ?_
    obtain rfl := Option.some.inj hM
    refine AW_ret ?_
    simp (maxSteps := 10000000) [go_sem, h5, h5', h5'']
set_option maxHeartbeats 4000000 in
set_option maxRecDepth 100000 in
theorem w_szRow_ctr (a0 : TRow) (a1 : Int) (r : Int) (hM : w_szRow a0 a1 = some r) : Ctr Try.prog 47 [.agg (TRow.c a0), .one (.int .i64 a1)] true [.one (.int .i64 r)] := by
  unfold w_szRow at hM
  refine Ctr.of_walk (by kernel_rfl) Try.func47 rfl Try.ntmps47 Try.results47 (by simp) ?_; intro N w0 hbad
  refine AW_seq fun K1 hK1 => ?_
  refine AW_region ?_
  simp (maxSteps := 10000000) [go_sem]
  refine hK1 _ ?_
  refine AW_seq fun K2 hK2 => ?_
  obtain ⟨x1, e3, hM⟩ := bind_some hM
  refine AW_region ?_
  simp (maxSteps := 10000000) [go_sem]
  refine by_ctr false (w_szIntS_ctr a0.cells a1 x1 e3) (by simp (maxSteps := 10000000) [go_sem]) (by simp) ?_
  simp (maxSteps := 10000000) [go_sem]
  refine hK2 _ ?_
  refine AW_seq fun K4 hK4 => ?_
  refine AW_seq fun K5 hK5 => ?_
  refine AW_region ?_
  simp (maxSteps := 10000000) [go_sem]
  refine hK5 _ ?_
  refine AW_cond (b := (decide (x1 < 0))) (by simp (maxSteps := 10000000) [go_sem]) (fun h6 => ?_) (fun h6 => ?_)
  · rw [if_pos h6] at hM
    have h6' := h6; try simp at h6'
    have h6'' : ¬ (0 ≤ x1) := by have := h6; simp at this; omega
    refine AW_seq fun K7 hK7 => ?_
    refine AW_region ?_
    simp (maxSteps := 10000000) [go_sem, h6, h6', h6'']
    refine hK7 _ ?_
    obtain rfl := Option.some.inj hM
    refine AW_ret ?_
    simp (maxSteps := 10000000) [go_sem, h6, h6', h6'']
  · rw [if_neg (ne_true h6)] at hM
    have h6' := h6; try simp at h6'
    have h6'' : ¬ (x1 < 0) := by have := h6; simp at this; omega
    refine AW_skip ?_
    refine hK4 _ ?_
    refine AW_seq fun K8 hK8 => ?_
    obtain ⟨x2, e9, hM⟩ := bind_some hM
    refine AW_region ?_
    simp (maxSteps := 10000000) [go_sem, h6, h6', h6'']
    refine by_ctr false (w_szOriginS_ctr a0.from_ x1 x2 e9) (by simp (maxSteps := 10000000) [go_sem, h6, h6', h6'']) (by simp) ?_
    simp (maxSteps := 10000000) [go_sem, h6, h6', h6'']
    refine hK8 _ ?_
    refine AW_seq fun K10 hK10 => ?_
    refine AW_seq fun K11 hK11 => ?_
    refine AW_region ?_
    simp (maxSteps := 10000000) [go_sem, h6, h6', h6'']
    refine hK11 _ ?_
    refine AW_cond (b := (decide (x2 < 0))) (by simp (maxSteps := 10000000) [go_sem, h6, h6', h6'']) (fun h12 => ?_) (fun h12 => ?_)
    · rw [if_pos h12] at hM
      have h12' := h12; try simp at h12'
      have h12'' : ¬ (0 ≤ x2) := by have := h12; simp at this; omega
      refine AW_seq fun K13 hK13 => ?_
      refine AW_region ?_
      simp (maxSteps := 10000000) [go_sem, h6, h6', h6'', h12, h12', h12'']
      refine hK13 _ ?_
      obtain rfl := Option.some.inj hM
      refine AW_ret ?_
      simp (maxSteps := 10000000) [go_sem, h6, h6', h6'', h12, h12', h12'']
    · rw [if_neg (ne_true h12)] at hM
      have h12' := h12; try simp at h12'
      have h12'' : ¬ (x2 < 0) := by have := h12; simp at this; omega
      refine AW_skip ?_
      refine hK10 _ ?_
      refine AW_seq fun K14 hK14 => ?_
      refine AW_region ?_
      simp (maxSteps := 10000000) [go_sem, h6, h6', h6'', h12, h12', h12'']
      refine hK14 _ ?_
      obtain rfl := Option.some.inj hM
      refine AW_ret ?_
      simp (maxSteps := 10000000) [go_sem, h6, h6', h6'', h12, h12', h12'']
set_option maxHeartbeats 4000000 in
set_option maxRecDepth 100000 in
theorem w_szRowS_ctr (k : Nat) (a0 : List TRow) (a1 : Int) (r : Int) (hM : w_szRowS k a0 a1 = some r) : Ctr Try.prog 82 [.one (.sl (a0.map TRow.c)), .one (.int .i64 a1)] true [.one (.int .i64 r)] := by
  unfold w_szRowS at hM
  refine Ctr.of_walk (by kernel_rfl) Try.func82 rfl Try.ntmps82 Try.results82 (by simp) ?_; intro N w0 hbad
  refine AW_seq fun K1 hK1 => ?_
  refine AW_region ?_
  simp (maxSteps := 10000000) [go_sem]
  refine hK1 _ ?_
  refine AW_seq fun K2 hK2 => ?_
  refine AW_region ?_
  simp (maxSteps := 10000000) [go_sem]
  refine hK2 _ ?_
  refine AW_seq fun K3 hK3 => ?_
  refine AW_seq fun K4 hK4 => ?_
  refine AW_region ?_
  simp (maxSteps := 10000000) [go_sem]
  refine hK4 _ ?_
  refine AW_cond (b := (decide ((IntKind.i64.wrap (a1 - (a0.length : Int))) < 0))) (by simp (maxSteps := 10000000) [go_sem]) (fun h5 => ?_) (fun h5 => ?_)
  · rw [if_pos h5] at hM
    have h5' := h5; try simp at h5'
    have h5'' : ¬ (0 ≤ (IntKind.i64.wrap (a1 - (a0.length : Int)))) := by have := h5; simp at this; omega
    refine AW_seq fun K6 hK6 => ?_
    refine AW_region ?_
    simp (maxSteps := 10000000) [go_sem, h5, h5', h5'']
    refine hK6 _ ?_
    obtain rfl := Option.some.inj hM
    refine AW_ret ?_
    simp (maxSteps := 10000000) [go_sem, h5, h5', h5'']
  · rw [if_neg (ne_true h5)] at hM
    have h5' := h5; try simp at h5'
    have h5'' : ¬ ((IntKind.i64.wrap (a1 - (a0.length : Int))) < 0) := by have := h5; simp at this; omega
    refine AW_skip ?_
    refine hK3 _ ?_
    obtain ⟨e7, hU9, hR8⟩ := bind_some hM; clear hM
    refine AW_mid (ι := Int) (fun i => ⟨27, [(1, .one (.l (.int .i64 i)))], [], []⟩) (fun i => (.inl i) = e7) ?_ ?_
    · intro K10 hK10
      have hM := hU9; clear hU9
      refine AW_seq fun K11 hK11 => ?_
      refine AW_region ?_
      simp (maxSteps := 10000000) [go_sem, h5, h5', h5'']
      refine hK11 _ ?_
      refine AW_block ?_
      refine AW_go (ι := Int × Int) (fun i => ⟨27, [(0, .one (.l (.sl (a0.map TRow.c)))), (1, .one (.l (.int .i64 i.1))), (5, .one (.l (.int .i64 i.2)))], [], []⟩) (fun n i => w_szRowS_u1 a0 n i.1 i.2 = some e7) k ((IntKind.i64.wrap (a1 - (a0.length : Int))), 0) hM (Lift.into (by constructor <;> simp [go_sem, h5, h5', h5''])) (fun _ h => by simp [w_szRowS_u1] at h) ?_
      intro KL12 n ⟨x2, x3⟩ hL12 hM
      have hM : w_szRowS_u1 a0 (n + 1) x2 x3 = some e7 := hM; rw [w_szRowS_u1] at hM
      refine AW_seq fun K13 hK13 => ?_
      refine AW_seq fun K14 hK14 => ?_
      refine AW_region ?_
      simp (maxSteps := 10000000) [go_sem]
      refine hK14 _ ?_
      refine AW_cond (b := (decide (x3 < (a0.length : Int)))) (by simp (maxSteps := 10000000) [go_sem]) (fun h15 => ?_) (fun h15 => ?_)
      · rw [if_pos h15] at hM
        have h15' := h15; try simp at h15'
        have h15'' : ¬ ((a0.length : Int) ≤ x3) := by have := h15; simp at this; omega
        refine AW_skip ?_
        refine hK13 _ ?_
        refine AW_seq fun K16 hK16 => ?_
        refine AW_block ?_
        refine AW_seq fun K17 hK17 => ?_
        obtain ⟨x4, e18, hM⟩ := bind_some hM
        obtain ⟨p19, q20, l21, g22⟩ := at_spec e18
        obtain ⟨x5, e23, hM⟩ := bind_some hM
        refine AW_region ?_
        simp (maxSteps := 10000000) [go_sem, h15, h15', h15'', p19, q20, g22]
        refine by_ctr false (w_szRow_ctr x4 x2 x5 e23) (by simp (maxSteps := 10000000) [go_sem, h15, h15', h15'', p19, q20, g22]) (by simp) ?_
        simp (maxSteps := 10000000) [go_sem, h15, h15', h15'', p19, q20, g22]
        refine hK17 _ ?_
        refine AW_seq fun K24 hK24 => ?_
        refine AW_region ?_
        simp (maxSteps := 10000000) [go_sem, h15, h15', h15'', p19, q20, g22]
        refine hK24 _ ?_
        refine AW_cond (b := (decide (x5 < 0))) (by simp (maxSteps := 10000000) [go_sem, h15, h15', h15'', p19, q20, g22]) (fun h25 => ?_) (fun h25 => ?_)
        · rw [if_pos h25] at hM
          have h25' := h25; try simp at h25'
          have h25'' : ¬ (0 ≤ x5) := by have := h25; simp at this; omega
          refine AW_seq fun K26 hK26 => ?_
          refine AW_region ?_
          simp (maxSteps := 10000000) [go_sem, h15, h15', h15'', p19, q20, g22, h25, h25', h25'']
          refine hK26 _ ?_
          obtain rfl := Option.some.inj hM
          have hM := hR8; dsimp only at hM
          obtain rfl := Option.some.inj hM
          refine AW_ret ?_
          simp (maxSteps := 10000000) [go_sem, h15, h15', h15'', p19, q20, g22, h25, h25', h25'']
        · rw [if_neg (ne_true h25)] at hM
          have h25' := h25; try simp at h25'
          have h25'' : ¬ (x5 < 0) := by have := h25; simp at this; omega
          refine AW_skip ?_
          refine hK16 _ ?_
          refine AW_region ?_
          simp (maxSteps := 10000000) [go_sem, h15, h15', h15'', p19, q20, g22, h25, h25', h25'']
          exact hL12 (x5, (IntKind.i64.wrap (x3 + 1))) _ hM (Lift.into (by constructor <;> simp [go_sem, h15, h15', h15'', p19, q20, g22, h25, h25', h25'']))
      · rw [if_neg (ne_true h15)] at hM
        have h15' := h15; try simp at h15'
        have h15'' : ¬ (x3 < (a0.length : Int)) := by have := h15; simp at this; omega
        refine AW_exit ?_
        obtain rfl := Option.some.inj hM
        exact hK10 x2 _ rfl (Lift.into (by constructor <;> simp [go_sem, h15, h15', h15'']))
    · rintro x1 rfl
      have hM := hR8
      dsimp only at hM
      refine AW_seq fun K27 hK27 => ?_
      refine AW_region ?_
      simp (maxSteps := 10000000) [go_sem, h5, h5', h5'']
      refine hK27 _ ?_
      obtain rfl := Option.some.inj hM
      refine AW_ret ?_
      simp (maxSteps := 10000000) [go_sem, h5, h5', h5'']
set_option maxHeartbeats 4000000 in
set_option maxRecDepth 100000 in
theorem w_szValueS_all : ∀ (k : Nat), (∀ (a0 : List TValue) (a1 : Int) (r : Int) (hM : w_szValueS k a0 a1 = some r), Ctr Try.prog 80 [.one (.sl (a0.map TValue.c)), .one (.int .i64 a1)] true [.one (.int .i64 r)]) ∧
    (∀ (a0 : TValue) (a1 : Int) (r : Int) (hM : w_szValue k a0 a1 = some r), Ctr Try.prog 46 [.agg (TValue.c a0), .one (.int .i64 a1)] true [.one (.int .i64 r)]) := by
  intro k
  induction k with
  | zero => exact ⟨by intro a0 a1 r hM; simp [w_szValueS] at hM, by intro a0 a1 r hM; simp [w_szValue] at hM⟩
  | succ k ih =>
    obtain ⟨ih_w_szValueS, ih_w_szValue⟩ := ih
    refine ⟨?_, ?_⟩
    · intro a0 a1 r hM
      rw [w_szValueS] at hM
      refine Ctr.of_walk (by kernel_rfl) Try.func80 rfl Try.ntmps80 Try.results80 (by simp) ?_; intro N w0 hbad
      refine AW_seq fun K1 hK1 => ?_
      refine AW_region ?_
      simp (maxSteps := 10000000) [go_sem]
      refine hK1 _ ?_
      refine AW_seq fun K2 hK2 => ?_
      refine AW_region ?_
      simp (maxSteps := 10000000) [go_sem]
      refine hK2 _ ?_
      refine AW_seq fun K3 hK3 => ?_
      refine AW_seq fun K4 hK4 => ?_
      refine AW_region ?_
      simp (maxSteps := 10000000) [go_sem]
      refine hK4 _ ?_
      refine AW_cond (b := (decide ((IntKind.i64.wrap (a1 - (a0.length : Int))) < 0))) (by simp (maxSteps := 10000000) [go_sem]) (fun h5 => ?_) (fun h5 => ?_)
      · rw [if_pos h5] at hM
        have h5' := h5; try simp at h5'
        have h5'' : ¬ (0 ≤ (IntKind.i64.wrap (a1 - (a0.length : Int)))) := by have := h5; simp at this; omega
        refine AW_seq fun K6 hK6 => ?_
        refine AW_region ?_
        simp (maxSteps := 10000000) [go_sem, h5, h5', h5'']
        refine hK6 _ ?_
        obtain rfl := Option.some.inj hM
        refine AW_ret ?_
        simp (maxSteps := 10000000) [go_sem, h5, h5', h5'']
      · rw [if_neg (ne_true h5)] at hM
        have h5' := h5; try simp at h5'
        have h5'' : ¬ ((IntKind.i64.wrap (a1 - (a0.length : Int))) < 0) := by have := h5; simp at this; omega
        refine AW_skip ?_
        refine hK3 _ ?_
        obtain ⟨e7, hU9, hR8⟩ := bind_some hM; clear hM
        refine AW_mid (ι := Int) (fun i => ⟨27, [(1, .one (.l (.int .i64 i)))], [], []⟩) (fun i => (.inl i) = e7) ?_ ?_
        · intro K10 hK10
          have hM := hU9; clear hU9
          refine AW_seq fun K11 hK11 => ?_
          refine AW_region ?_
          simp (maxSteps := 10000000) [go_sem, h5, h5', h5'']
          refine hK11 _ ?_
          refine AW_block ?_
          refine AW_go (ι := Int × Int) (fun i => ⟨27, [(0, .one (.l (.sl (a0.map TValue.c)))), (1, .one (.l (.int .i64 i.1))), (5, .one (.l (.int .i64 i.2)))], [], []⟩) (fun n i => w_szValueS_u1 (w_szValue k) a0 n i.1 i.2 = some e7) k ((IntKind.i64.wrap (a1 - (a0.length : Int))), 0) hM (Lift.into (by constructor <;> simp [go_sem, h5, h5', h5''])) (fun _ h => by simp [w_szValueS_u1] at h) ?_
          intro KL12 n ⟨x2, x3⟩ hL12 hM
          have hM : w_szValueS_u1 (w_szValue k) a0 (n + 1) x2 x3 = some e7 := hM; rw [w_szValueS_u1] at hM
          refine AW_seq fun K13 hK13 => ?_
          refine AW_seq fun K14 hK14 => ?_
          refine AW_region ?_
          simp (maxSteps := 10000000) [go_sem]
          refine hK14 _ ?_
          refine AW_cond (b := (decide (x3 < (a0.length : Int)))) (by simp (maxSteps := 10000000) [go_sem]) (fun h15 => ?_) (fun h15 => ?_)
          · rw [if_pos h15] at hM
            have h15' := h15; try simp at h15'
            have h15'' : ¬ ((a0.length : Int) ≤ x3) := by have := h15; simp at this; omega
            refine AW_skip ?_
            refine hK13 _ ?_
            refine AW_seq fun K16 hK16 => ?_
            refine AW_block ?_
            refine AW_seq fun K17 hK17 => ?_
            obtain ⟨x4, e18, hM⟩ := bind_some hM
            obtain ⟨p19, q20, l21, g22⟩ := at_spec e18
            obtain ⟨x5, e23, hM⟩ := bind_some hM
            refine AW_region ?_
            simp (maxSteps := 10000000) [go_sem, h15, h15', h15'', p19, q20, g22]
            refine by_ctr false (ih_w_szValue x4 x2 x5 e23) (by simp (maxSteps := 10000000) [go_sem, h15, h15', h15'', p19, q20, g22]) (by simp) ?_
            simp (maxSteps := 10000000) [go_sem, h15, h15', h15'', p19, q20, g22]
            refine hK17 _ ?_
            refine AW_seq fun K24 hK24 => ?_
            refine AW_region ?_
            simp (maxSteps := 10000000) [go_sem, h15, h15', h15'', p19, q20, g22]
            refine hK24 _ ?_
            refine AW_cond (b := (decide (x5 < 0))) (by simp (maxSteps := 10000000) [go_sem, h15, h15', h15'', p19, q20, g22]) (fun h25 => ?_) (fun h25 => ?_)
            · rw [if_pos h25] at hM
              have h25' := h25; try simp at h25'
              have h25'' : ¬ (0 ≤ x5) := by have := h25; simp at this; omega
              refine AW_seq fun K26 hK26 => ?_
              refine AW_region ?_
              simp (maxSteps := 10000000) [go_sem, h15, h15', h15'', p19, q20, g22, h25, h25', h25'']
              refine hK26 _ ?_
              obtain rfl := Option.some.inj hM
              have hM := hR8; dsimp only at hM
              obtain rfl := Option.some.inj hM
              refine AW_ret ?_
              simp (maxSteps := 10000000) [go_sem, h15, h15', h15'', p19, q20, g22, h25, h25', h25'']
            · rw [if_neg (ne_true h25)] at hM
              have h25' := h25; try simp at h25'
              have h25'' : ¬ (x5 < 0) := by have := h25; simp at this; omega
              refine AW_skip ?_
              refine hK16 _ ?_
              refine AW_region ?_
              simp (maxSteps := 10000000) [go_sem, h15, h15', h15'', p19, q20, g22, h25, h25', h25'']
              exact hL12 (x5, (IntKind.i64.wrap (x3 + 1))) _ hM (Lift.into (by constructor <;> simp [go_sem, h15, h15', h15'', p19, q20, g22, h25, h25', h25'']))
          · rw [if_neg (ne_true h15)] at hM
            have h15' := h15; try simp at h15'
            have h15'' : ¬ (x3 < (a0.length : Int)) := by have := h15; simp at this; omega
            refine AW_exit ?_
            obtain rfl := Option.some.inj hM
            exact hK10 x2 _ rfl (Lift.into (by constructor <;> simp [go_sem, h15, h15', h15'']))
        · rintro x1 rfl
          have hM := hR8
          dsimp only at hM
          refine AW_seq fun K27 hK27 => ?_
          refine AW_region ?_
          simp (maxSteps := 10000000) [go_sem, h5, h5', h5'']
          refine hK27 _ ?_
          obtain rfl := Option.some.inj hM
          refine AW_ret ?_
          simp (maxSteps := 10000000) [go_sem, h5, h5', h5'']
    · intro a0 a1 r hM
      rw [w_szValue] at hM
      refine Ctr.of_walk (by kernel_rfl) Try.func46 rfl Try.ntmps46 Try.results46 (by simp) ?_; intro N w0 hbad
      refine AW_seq fun K1 hK1 => ?_
      refine AW_region ?_
      simp (maxSteps := 10000000) [go_sem]
      refine hK1 _ ?_
      refine AW_seq fun K2 hK2 => ?_
      refine AW_region ?_
      simp (maxSteps := 10000000) [go_sem]
      refine hK2 _ ?_
      refine AW_seq fun K3 hK3 => ?_
      refine AW_seq fun K4 hK4 => ?_
      refine AW_region ?_
      simp (maxSteps := 10000000) [go_sem]
      refine hK4 _ ?_
      refine AW_cond (b := (decide ((IntKind.i64.wrap (a1 - (a0.text.size : Int))) < 0))) (by simp (maxSteps := 10000000) [go_sem]) (fun h5 => ?_) (fun h5 => ?_)
      · rw [if_pos h5] at hM
        have h5' := h5; try simp at h5'
        have h5'' : ¬ (0 ≤ (IntKind.i64.wrap (a1 - (a0.text.size : Int)))) := by have := h5; simp at this; omega
        refine AW_seq fun K6 hK6 => ?_
        refine AW_region ?_
        simp (maxSteps := 10000000) [go_sem, h5, h5', h5'']
        refine hK6 _ ?_
        obtain rfl := Option.some.inj hM
        refine AW_ret ?_
        simp (maxSteps := 10000000) [go_sem, h5, h5', h5'']
      · rw [if_neg (ne_true h5)] at hM
        have h5' := h5; try simp at h5'
        have h5'' : ¬ ((IntKind.i64.wrap (a1 - (a0.text.size : Int))) < 0) := by have := h5; simp at this; omega
        refine AW_skip ?_
        refine hK3 _ ?_
        refine AW_seq fun K7 hK7 => ?_
        obtain ⟨x1, e8, hM⟩ := bind_some hM
        refine AW_region ?_
        simp (maxSteps := 10000000) [go_sem, h5, h5', h5'']
        refine by_ctr false (ih_w_szValueS a0.list (IntKind.i64.wrap (a1 - (a0.text.size : Int))) x1 e8) (by simp (maxSteps := 10000000) [go_sem, h5, h5', h5'']) (by simp) ?_
        simp (maxSteps := 10000000) [go_sem, h5, h5', h5'']
        refine hK7 _ ?_
        refine AW_seq fun K9 hK9 => ?_
        refine AW_seq fun K10 hK10 => ?_
        refine AW_region ?_
        simp (maxSteps := 10000000) [go_sem, h5, h5', h5'']
        refine hK10 _ ?_
        refine AW_cond (b := (decide (x1 < 0))) (by simp (maxSteps := 10000000) [go_sem, h5, h5', h5'']) (fun h11 => ?_) (fun h11 => ?_)
        · rw [if_pos h11] at hM
          have h11' := h11; try simp at h11'
          have h11'' : ¬ (0 ≤ x1) := by have := h11; simp at this; omega
          refine AW_seq fun K12 hK12 => ?_
          refine AW_region ?_
          simp (maxSteps := 10000000) [go_sem, h5, h5', h5'', h11, h11', h11'']
          refine hK12 _ ?_
          obtain rfl := Option.some.inj hM
          refine AW_ret ?_
          simp (maxSteps := 10000000) [go_sem, h5, h5', h5'', h11, h11', h11'']
        · rw [if_neg (ne_true h11)] at hM
          have h11' := h11; try simp at h11'
          have h11'' : ¬ (x1 < 0) := by have := h11; simp at this; omega
          refine AW_skip ?_
          refine hK9 _ ?_
          refine AW_seq fun K13 hK13 => ?_
          obtain ⟨x2, e14, hM⟩ := bind_some hM
          refine AW_region ?_
          simp (maxSteps := 10000000) [go_sem, h5, h5', h5'', h11, h11', h11'']
          refine by_ctr false (w_szStringS_ctr k a0.columns x1 x2 e14) (by simp (maxSteps := 10000000) [go_sem, h5, h5', h5'', h11, h11', h11'']) (by simp) ?_
          simp (maxSteps := 10000000) [go_sem, h5, h5', h5'', h11, h11', h11'']
          refine hK13 _ ?_
          refine AW_seq fun K15 hK15 => ?_
          refine AW_seq fun K16 hK16 => ?_
          refine AW_region ?_
          simp (maxSteps := 10000000) [go_sem, h5, h5', h5'', h11, h11', h11'']
          refine hK16 _ ?_
          refine AW_cond (b := (decide (x2 < 0))) (by simp (maxSteps := 10000000) [go_sem, h5, h5', h5'', h11, h11', h11'']) (fun h17 => ?_) (fun h17 => ?_)
          · rw [if_pos h17] at hM
            have h17' := h17; try simp at h17'
            have h17'' : ¬ (0 ≤ x2) := by have := h17; simp at this; omega
            refine AW_seq fun K18 hK18 => ?_
            refine AW_region ?_
            simp (maxSteps := 10000000) [go_sem, h5, h5', h5'', h11, h11', h11'', h17, h17', h17'']
            refine hK18 _ ?_
            obtain rfl := Option.some.inj hM
            refine AW_ret ?_
            simp (maxSteps := 10000000) [go_sem, h5, h5', h5'', h11, h11', h11'', h17, h17', h17'']
          · rw [if_neg (ne_true h17)] at hM
            have h17' := h17; try simp at h17'
            have h17'' : ¬ (x2 < 0) := by have := h17; simp at this; omega
            refine AW_skip ?_
            refine hK15 _ ?_
            refine AW_seq fun K19 hK19 => ?_
            obtain ⟨x3, e20, hM⟩ := bind_some hM
            refine AW_region ?_
            simp (maxSteps := 10000000) [go_sem, h5, h5', h5'', h11, h11', h11'', h17, h17', h17'']
            refine by_ctr false (w_szRowS_ctr k a0.rows x2 x3 e20) (by simp (maxSteps := 10000000) [go_sem, h5, h5', h5'', h11, h11', h11'', h17, h17', h17'']) (by simp) ?_
            simp (maxSteps := 10000000) [go_sem, h5, h5', h5'', h11, h11', h11'', h17, h17', h17'']
            refine hK19 _ ?_
            refine AW_seq fun K21 hK21 => ?_
            refine AW_seq fun K22 hK22 => ?_
            refine AW_region ?_
            simp (maxSteps := 10000000) [go_sem, h5, h5', h5'', h11, h11', h11'', h17, h17', h17'']
            refine hK22 _ ?_
            refine AW_cond (b := (decide (x3 < 0))) (by simp (maxSteps := 10000000) [go_sem, h5, h5', h5'', h11, h11', h11'', h17, h17', h17'']) (fun h23 => ?_) (fun h23 => ?_)
            · rw [if_pos h23] at hM
              have h23' := h23; try simp at h23'
              have h23'' : ¬ (0 ≤ x3) := by have := h23; simp at this; omega
              refine AW_seq fun K24 hK24 => ?_
              refine AW_region ?_
              simp (maxSteps := 10000000) [go_sem, h5, h5', h5'', h11, h11', h11'', h17, h17', h17'', h23, h23', h23'']
              refine hK24 _ ?_
              obtain rfl := Option.some.inj hM
              refine AW_ret ?_
              simp (maxSteps := 10000000) [go_sem, h5, h5', h5'', h11, h11', h11'', h17, h17', h17'', h23, h23', h23'']
            · rw [if_neg (ne_true h23)] at hM
              have h23' := h23; try simp at h23'
              have h23'' : ¬ (x3 < 0) := by have := h23; simp at this; omega
              refine AW_skip ?_
              refine hK21 _ ?_
              refine AW_seq fun K25 hK25 => ?_
              refine AW_region ?_
              simp (maxSteps := 10000000) [go_sem, h5, h5', h5'', h11, h11', h11'', h17, h17', h17'', h23, h23', h23'']
              refine hK25 _ ?_
              obtain rfl := Option.some.inj hM
              refine AW_ret ?_
              simp (maxSteps := 10000000) [go_sem, h5, h5', h5'', h11, h11', h11'', h17, h17', h17'', h23, h23', h23'']
theorem w_szValueS_ctr (k : Nat) : ∀ (a0 : List TValue) (a1 : Int) (r : Int) (hM : w_szValueS k a0 a1 = some r), Ctr Try.prog 80 [.one (.sl (a0.map TValue.c)), .one (.int .i64 a1)] true [.one (.int .i64 r)] := (w_szValueS_all k).1
theorem w_szValue_ctr (k : Nat) : ∀ (a0 : TValue) (a1 : Int) (r : Int) (hM : w_szValue k a0 a1 = some r), Ctr Try.prog 46 [.agg (TValue.c a0), .one (.int .i64 a1)] true [.one (.int .i64 r)] := (w_szValueS_all k).2

end Go.Proofs.Ytopjlbifglacpaa
