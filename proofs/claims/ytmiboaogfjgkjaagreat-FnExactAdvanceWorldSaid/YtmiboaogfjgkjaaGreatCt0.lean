/- Contracts of the program's functions: where the mirrored function answers, the program's function returns this answer. Written by a program of mine. -/
import Derived.Test.YtmiboaogfjgkjaaGreatWn
import Derived.Test.YtmiboaogfjgkjaaGreatMd0
set_option linter.unusedSimpArgs false
set_option linter.unusedVariables false
namespace Go.Proofs.YtmiboaogfjgkjaaGreat
open Go.RowKit Am

set_option maxHeartbeats 4000000 in
set_option maxRecDepth 100000 in
theorem s_l17Copy_ctr (a0 : TNotebook) (r : TNotebook) (hM : s_l17Copy a0 = some r) : Ctr Tryz.prog 45 [.agg (TNotebook.c a0)] true [.agg (TNotebook.c r)] := by
  unfold s_l17Copy at hM
  refine Ctr.of_walk (by kernel_rfl) Tryz.func45 rfl Tryz.ntmps45 Tryz.results45 (by simp) ?_; intro N w0 hbad
  refine AW_seq fun K1 hK1 => ?_
  refine AW_region ?_
  simp (maxSteps := 10000000) [go_sem]
  refine hK1 _ ?_
  refine AW_seq fun K2 hK2 => ?_
  obtain ⟨x1, e3, hM⟩ := bind_some hM
  obtain ⟨c4, s5, s6⟩ := app_spec e3
  replace c4 := c4.symm; subst c4
  try simp at s5
  try simp at s6
  refine AW_region ?_
  simp (maxSteps := 10000000) [go_sem, s5, s6]
  refine hK2 _ ?_
  obtain rfl := Option.some.inj hM
  refine AW_ret ?_
  simp (maxSteps := 10000000) [go_sem, s5, s6]
set_option maxHeartbeats 4000000 in
set_option maxRecDepth 100000 in
theorem s_l14Copy_ctr (a0 : TWorld) (r : TWorld) (hM : s_l14Copy a0 = some r) : Ctr Tryz.prog 21 [.agg (TWorld.c a0)] true [.agg (TWorld.c r)] := by
  unfold s_l14Copy at hM
  refine Ctr.of_walk (by kernel_rfl) Tryz.func21 rfl Tryz.ntmps21 Tryz.results21 (by simp) ?_; intro N w0 hbad
  refine AW_seq fun K1 hK1 => ?_
  refine AW_region ?_
  simp (maxSteps := 10000000) [go_sem]
  refine hK1 _ ?_
  refine AW_seq fun K2 hK2 => ?_
  obtain ⟨x1, e3, hM⟩ := bind_some hM
  obtain ⟨c4, s5, s6⟩ := app_spec e3
  replace c4 := c4.symm; subst c4
  try simp at s5
  try simp at s6
  refine AW_region ?_
  simp (maxSteps := 10000000) [go_sem, s5, s6]
  refine hK2 _ ?_
  refine AW_seq fun K7 hK7 => ?_
  refine AW_region ?_
  simp (maxSteps := 10000000) [go_sem, s5, s6]
  refine hK7 _ ?_
  obtain rfl := Option.some.inj hM
  refine AW_ret ?_
  simp (maxSteps := 10000000) [go_sem, s5, s6]
set_option maxHeartbeats 4000000 in
set_option maxRecDepth 100000 in
theorem s_l3Row_ctr (a0 : TRow) (r : TRow) (hM : s_l3Row a0 = some r) : Ctr Tryz.prog 106 [.agg (TRow.c a0)] true [.agg (TRow.c r)] := by
  unfold s_l3Row at hM
  refine Ctr.of_walk (by kernel_rfl) Tryz.func106 rfl Tryz.ntmps106 Tryz.results106 (by simp) ?_; intro N w0 hbad
  refine AW_seq fun K1 hK1 => ?_
  refine AW_region ?_
  simp (maxSteps := 10000000) [go_sem]
  refine hK1 _ ?_
  refine AW_seq fun K2 hK2 => ?_
  refine AW_into (σ' := ⟨12, [(1, .one (.box 1 0)), (2, .one (.box 2 0))], [(1, [.l (.sl (a0.cells.map iC)), .l (.sl (a0.from_.map TOrigin.c))]), (2, [.nil, .nil])], []⟩) (Lift.into (by constructor <;> simp [go_sem])) ?_
  obtain ⟨x1, e3, hM⟩ := bind_some hM
  obtain ⟨c4, s5, s6⟩ := app_spec e3
  replace c4 := c4.symm; subst c4
  try simp at s5
  try simp at s6
  obtain ⟨x2, e7, hM⟩ := bind_some hM
  obtain ⟨c8, s9, s10⟩ := app_spec e7
  replace c8 := c8.symm; subst c8
  try simp at s9
  try simp at s10
  refine AW_open [[], [], [1], [0, 1, 2], [], [], [5], [0, 1, 2, 3, 4, 5, 6], [0, 1, 2, 3, 4, 5, 6, 7], [0, 1, 2, 3, 4, 5, 6, 7, 8]] mixed (by kernel_rfl) ?_
  simp (maxSteps := 10000000) [go_sem, s5, s6, s9, s10]
  refine ⟨dOkK_sound (by kernel_rfl), ?_⟩
  refine hK2 _ ?_
  obtain rfl := Option.some.inj hM
  refine AW_ret ?_
  simp (maxSteps := 10000000) [go_sem, s5, s6, s9, s10]
set_option maxHeartbeats 4000000 in
set_option maxRecDepth 100000 in
theorem s_l3Copy_all : ∀ (k : Nat), (∀ (a0 : TValue) (r : TValue) (hM : s_l3Copy k a0 = some r), Ctr Tryz.prog 83 [.agg (TValue.c a0)] true [.agg (TValue.c r)]) := by
  intro k
  induction k with
  | zero => intro a0 r hM; simp [s_l3Copy] at hM
  | succ k ih_s_l3Copy =>
    · intro a0 r hM
      rw [s_l3Copy] at hM
      refine Ctr.of_walk (by kernel_rfl) Tryz.func83 rfl Tryz.ntmps83 Tryz.results83 (by simp) ?_; intro N w0 hbad
      refine AW_seq fun K1 hK1 => ?_
      refine AW_region ?_
      simp (maxSteps := 10000000) [go_sem]
      refine hK1 _ ?_
      refine AW_seq fun K2 hK2 => ?_
      refine AW_into (σ' := ⟨56, [(1, .one (.box 1 0)), (2, .one (.box 2 0))], [(1, [.l (.int .i64 a0.kind), .l (.int .i64 a0.n), .l (.int .i64 a0.step), .l (.str a0.text), .l (.sl (a0.list.map TValue.c)), .l (.sl (a0.columns.map sC)), .l (.sl (a0.rows.map TRow.c))]), (2, [.l (.int .i64 0), .l (.int .i64 0), .l (.int .i64 0), .l (.str (⟨#[]⟩ : ByteArray)), .nil, .nil, .nil])], []⟩) (Lift.into (by constructor <;> simp [go_sem])) ?_
      obtain ⟨x1, e3, hM⟩ := bind_some hM
      obtain ⟨c4, s5, s6⟩ := app_spec e3
      replace c4 := c4.symm; subst c4
      try simp at s5
      try simp at s6
      refine AW_open [[], [0], [], [2], [], [4], [], [6], [], [], [9], [8, 9, 10], [0, 1, 2, 3, 4, 5, 6, 7, 8, 9, 10, 11], [], [0, 1, 2, 3, 4, 5, 6, 7, 8, 9, 10, 11, 12, 13]] mixed (by kernel_rfl) ?_
      simp (maxSteps := 10000000) [go_sem, s5, s6]
      refine ⟨dOkK_sound (by kernel_rfl), ?_⟩
      refine hK2 _ ?_
      obtain ⟨e7, hU9, hR8⟩ := bind_some hM; clear hM
      refine AW_mid (ι := List TValue) (fun i => ⟨56, [(1, .one (.box 1 0)), (2, .one (.box 2 0)), (3, .one (.box 3 0))], [(1, [.l (.int .i64 a0.kind), .l (.int .i64 a0.n), .l (.int .i64 a0.step), .l (.str a0.text), .l (.sl (a0.list.map TValue.c)), .l (.sl (a0.columns.map sC)), .l (.sl (a0.rows.map TRow.c))]), (2, [.l (.int .i64 0), .l (.int .i64 0), .l (.int .i64 0), .l (.str (⟨#[]⟩ : ByteArray)), .nil, .nil, .nil]), (3, [.l (.int .i64 a0.kind), .l (.int .i64 a0.n), .l (.int .i64 a0.step), .l (.str a0.text), .own 2240 i.length, .own 896 ((([] : List ByteArray) ++ a0.columns).length), .nil])], [(896, some ⟨true, (([] : List ByteArray) ++ a0.columns).map sC⟩), (2240, some ⟨true, i.map TValue.c⟩)]⟩) (fun i => i = e7) ?_ ?_
      · intro K10 hK10
        have hM := hU9; clear hU9
        refine AW_seq fun K11 hK11 => ?_
        refine AW_region ?_
        simp (maxSteps := 10000000) [go_sem, s5, s6]
        refine hK11 _ ?_
        refine AW_block ?_
        refine AW_go (ι := (List TValue) × Int) (fun i => ⟨56, [(1, .one (.box 1 0)), (2, .one (.box 2 0)), (3, .one (.box 3 0)), (4, .one (.l (.int .i64 i.2)))], [(1, [.l (.int .i64 a0.kind), .l (.int .i64 a0.n), .l (.int .i64 a0.step), .l (.str a0.text), .l (.sl (a0.list.map TValue.c)), .l (.sl (a0.columns.map sC)), .l (.sl (a0.rows.map TRow.c))]), (2, [.l (.int .i64 0), .l (.int .i64 0), .l (.int .i64 0), .l (.str (⟨#[]⟩ : ByteArray)), .nil, .nil, .nil]), (3, [.l (.int .i64 a0.kind), .l (.int .i64 a0.n), .l (.int .i64 a0.step), .l (.str a0.text), .own 2240 i.1.length, .own 896 ((([] : List ByteArray) ++ a0.columns).length), .nil])], [(896, some ⟨true, (([] : List ByteArray) ++ a0.columns).map sC⟩), (2240, some ⟨true, i.1.map TValue.c⟩)]⟩) (fun n i => s_l3Copy_u1 (s_l3Copy k) a0 n i.1 i.2 = some e7) k ([], 0) hM (Lift.into (by constructor <;> simp [go_sem, s5, s6])) (fun _ h => by simp [s_l3Copy_u1] at h) ?_
        intro KL12 n ⟨x3, x4⟩ hL12 hM
        have hM : s_l3Copy_u1 (s_l3Copy k) a0 (n + 1) x3 x4 = some e7 := hM; rw [s_l3Copy_u1] at hM
        refine AW_seq fun K13 hK13 => ?_
        refine AW_seq fun K14 hK14 => ?_
        refine AW_region ?_
        simp (maxSteps := 10000000) [go_sem]
        refine hK14 _ ?_
        refine AW_cond (b := (decide (x4 < (a0.list.length : Int)))) (by simp (maxSteps := 10000000) [go_sem]) (fun h15 => ?_) (fun h15 => ?_)
        · rw [if_pos h15] at hM
          have h15' := h15; try simp at h15'
          have h15'' : ¬ ((a0.list.length : Int) ≤ x4) := by first | (have := h15; simp only [decide_eq_true_eq, decide_eq_false_iff_not, Bool.not_eq_true', Bool.not_eq_false', Bool.not_eq_true, Bool.not_eq_false] at this; omega) | (have := h15; simp at this; omega)
          refine AW_skip ?_
          refine hK13 _ ?_
          refine AW_seq fun K16 hK16 => ?_
          refine AW_block ?_
          refine AW_into (σ' := ⟨56, [(1, .one (.box 1 0)), (2, .one (.box 2 0)), (3, .one (.box 3 0)), (4, .one (.l (.int .i64 x4)))], [(1, [.l (.int .i64 a0.kind), .l (.int .i64 a0.n), .l (.int .i64 a0.step), .l (.str a0.text), .l (.sl (a0.list.map TValue.c)), .l (.sl (a0.columns.map sC)), .l (.sl (a0.rows.map TRow.c))]), (2, [.l (.int .i64 0), .l (.int .i64 0), .l (.int .i64 0), .l (.str (⟨#[]⟩ : ByteArray)), .nil, .nil, .nil]), (3, [.l (.int .i64 a0.kind), .l (.int .i64 a0.n), .l (.int .i64 a0.step), .l (.str a0.text), .own 2240 x3.length, .own 896 ((([] : List ByteArray) ++ a0.columns).length), .nil])], [(896, some ⟨true, (([] : List ByteArray) ++ a0.columns).map sC⟩), (2240, some ⟨true, x3.map TValue.c⟩)]⟩) (Lift.into (by constructor <;> simp [go_sem, h15, h15', h15''])) ?_
          obtain ⟨x5, e17, hM⟩ := bind_some hM
          obtain ⟨p18, q19, l20, g21⟩ := at_spec e17
          obtain ⟨x6, e22, hM⟩ := bind_some hM
          obtain ⟨x7, e23, hM⟩ := bind_some hM
          obtain ⟨c24, s25, s26⟩ := app_spec e23
          replace c24 := c24.symm; subst c24
          try simp at s25
          try simp at s26
          refine AW_open [[], [0], [], [2], [], [2, 3, 4], [2, 3, 4, 5], [2, 3, 4, 5, 6], [2, 3, 4, 5, 6, 7], [0, 1, 2, 3, 4, 5, 6, 7, 8], [0, 1, 2, 3, 4, 5, 6, 7, 8, 9], [0, 1, 2, 3, 4, 5, 6, 7, 8, 9, 10]] mixed (by kernel_rfl) ?_
          simp (maxSteps := 10000000) [go_sem, h15, h15', h15'', p18, q19, g21, s25, s26]
          refine by_ctr false (ih_s_l3Copy x5 x6 e22) (by simp (maxSteps := 10000000) [go_sem, h15, h15', h15'', p18, q19, g21, s25, s26]) (by simp) ?_
          simp (maxSteps := 10000000) [go_sem, h15, h15', h15'', p18, q19, g21, s25, s26]
          refine ⟨dOkK_sound (by kernel_rfl), ?_⟩
          refine hK16 _ ?_
          refine AW_region ?_
          simp (maxSteps := 10000000) [go_sem, h15, h15', h15'', p18, q19, g21, s25, s26]
          exact hL12 ((x3 ++ [x6]), (IntKind.i64.wrap (x4 + 1))) _ hM (Lift.into (by constructor <;> simp [go_sem, h15, h15', h15'', p18, q19, g21, s25, s26]))
        · rw [if_neg (ne_true h15)] at hM
          have h15' := h15; try simp at h15'
          have h15'' : ¬ (x4 < (a0.list.length : Int)) := by first | (have := h15; simp only [decide_eq_true_eq, decide_eq_false_iff_not, Bool.not_eq_true', Bool.not_eq_false', Bool.not_eq_true, Bool.not_eq_false] at this; omega) | (have := h15; simp at this; omega)
          refine AW_exit ?_
          obtain rfl := Option.some.inj hM
          exact hK10 x3 _ rfl (Lift.into (by constructor <;> simp [go_sem, h15, h15', h15'']))
      · rintro x2 rfl
        have hM := hR8
        try dsimp only at hM
        obtain ⟨e27, hU29, hR28⟩ := bind_some hM; clear hM
        refine AW_mid (ι := List TRow) (fun i => ⟨56, [(2, .one (.box 2 0)), (3, .one (.box 3 0))], [(2, [.l (.int .i64 0), .l (.int .i64 0), .l (.int .i64 0), .l (.str (⟨#[]⟩ : ByteArray)), .nil, .nil, .nil]), (3, [.l (.int .i64 a0.kind), .l (.int .i64 a0.n), .l (.int .i64 a0.step), .l (.str a0.text), .own 2240 x2.length, .own 896 ((([] : List ByteArray) ++ a0.columns).length), .own 3392 i.length])], [(896, some ⟨true, (([] : List ByteArray) ++ a0.columns).map sC⟩), (2240, some ⟨true, x2.map TValue.c⟩), (3392, some ⟨true, i.map TRow.c⟩)]⟩) (fun i => i = e27) ?_ ?_
        · intro K30 hK30
          have hM := hU29; clear hU29
          refine AW_seq fun K31 hK31 => ?_
          refine AW_region ?_
          simp (maxSteps := 10000000) [go_sem, s5, s6]
          refine hK31 _ ?_
          refine AW_block ?_
          refine AW_go (ι := (List TRow) × Int) (fun i => ⟨56, [(1, .one (.box 1 0)), (2, .one (.box 2 0)), (3, .one (.box 3 0)), (5, .one (.l (.int .i64 i.2)))], [(1, [.l (.int .i64 a0.kind), .l (.int .i64 a0.n), .l (.int .i64 a0.step), .l (.str a0.text), .l (.sl (a0.list.map TValue.c)), .l (.sl (a0.columns.map sC)), .l (.sl (a0.rows.map TRow.c))]), (2, [.l (.int .i64 0), .l (.int .i64 0), .l (.int .i64 0), .l (.str (⟨#[]⟩ : ByteArray)), .nil, .nil, .nil]), (3, [.l (.int .i64 a0.kind), .l (.int .i64 a0.n), .l (.int .i64 a0.step), .l (.str a0.text), .own 2240 x2.length, .own 896 ((([] : List ByteArray) ++ a0.columns).length), .own 3392 i.1.length])], [(896, some ⟨true, (([] : List ByteArray) ++ a0.columns).map sC⟩), (2240, some ⟨true, x2.map TValue.c⟩), (3392, some ⟨true, i.1.map TRow.c⟩)]⟩) (fun n i => s_l3Copy_u2 a0 n i.1 i.2 = some e27) k ([], 0) hM (Lift.into (by constructor <;> simp [go_sem, s5, s6])) (fun _ h => by simp [s_l3Copy_u2] at h) ?_
          intro KL32 n ⟨x9, x10⟩ hL32 hM
          have hM : s_l3Copy_u2 a0 (n + 1) x9 x10 = some e27 := hM; rw [s_l3Copy_u2] at hM
          refine AW_seq fun K33 hK33 => ?_
          refine AW_seq fun K34 hK34 => ?_
          refine AW_region ?_
          simp (maxSteps := 10000000) [go_sem]
          refine hK34 _ ?_
          refine AW_cond (b := (decide (x10 < (a0.rows.length : Int)))) (by simp (maxSteps := 10000000) [go_sem]) (fun h35 => ?_) (fun h35 => ?_)
          · rw [if_pos h35] at hM
            have h35' := h35; try simp at h35'
            have h35'' : ¬ ((a0.rows.length : Int) ≤ x10) := by first | (have := h35; simp only [decide_eq_true_eq, decide_eq_false_iff_not, Bool.not_eq_true', Bool.not_eq_false', Bool.not_eq_true, Bool.not_eq_false] at this; omega) | (have := h35; simp at this; omega)
            refine AW_skip ?_
            refine hK33 _ ?_
            refine AW_seq fun K36 hK36 => ?_
            refine AW_block ?_
            refine AW_into (σ' := ⟨56, [(1, .one (.box 1 0)), (2, .one (.box 2 0)), (3, .one (.box 3 0)), (5, .one (.l (.int .i64 x10)))], [(1, [.l (.int .i64 a0.kind), .l (.int .i64 a0.n), .l (.int .i64 a0.step), .l (.str a0.text), .l (.sl (a0.list.map TValue.c)), .l (.sl (a0.columns.map sC)), .l (.sl (a0.rows.map TRow.c))]), (2, [.l (.int .i64 0), .l (.int .i64 0), .l (.int .i64 0), .l (.str (⟨#[]⟩ : ByteArray)), .nil, .nil, .nil]), (3, [.l (.int .i64 a0.kind), .l (.int .i64 a0.n), .l (.int .i64 a0.step), .l (.str a0.text), .own 2240 x2.length, .own 896 ((([] : List ByteArray) ++ a0.columns).length), .own 3392 x9.length])], [(896, some ⟨true, (([] : List ByteArray) ++ a0.columns).map sC⟩), (2240, some ⟨true, x2.map TValue.c⟩), (3392, some ⟨true, x9.map TRow.c⟩)]⟩) (Lift.into (by constructor <;> simp [go_sem, h35, h35', h35''])) ?_
            obtain ⟨x11, e37, hM⟩ := bind_some hM
            obtain ⟨p38, q39, l40, g41⟩ := at_spec e37
            obtain ⟨x12, e42, hM⟩ := bind_some hM
            obtain ⟨x13, e43, hM⟩ := bind_some hM
            obtain ⟨c44, s45, s46⟩ := app_spec e43
            replace c44 := c44.symm; subst c44
            try simp at s45
            try simp at s46
            refine AW_open [[], [0], [], [2], [], [2, 3, 4], [2, 3, 4, 5], [2, 3, 4, 5, 6], [2, 3, 4, 5, 6, 7], [0, 1, 2, 3, 4, 5, 6, 7, 8], [0, 1, 2, 3, 4, 5, 6, 7, 8, 9], [0, 1, 2, 3, 4, 5, 6, 7, 8, 9, 10]] mixed (by kernel_rfl) ?_
            simp (maxSteps := 10000000) [go_sem, h35, h35', h35'', p38, q39, g41, s45, s46]
            refine by_ctr false (s_l3Row_ctr x11 x12 e42) (by simp (maxSteps := 10000000) [go_sem, h35, h35', h35'', p38, q39, g41, s45, s46]) (by simp) ?_
            simp (maxSteps := 10000000) [go_sem, h35, h35', h35'', p38, q39, g41, s45, s46]
            refine ⟨dOkK_sound (by kernel_rfl), ?_⟩
            refine hK36 _ ?_
            refine AW_region ?_
            simp (maxSteps := 10000000) [go_sem, h35, h35', h35'', p38, q39, g41, s45, s46]
            exact hL32 ((x9 ++ [x12]), (IntKind.i64.wrap (x10 + 1))) _ hM (Lift.into (by constructor <;> simp [go_sem, h35, h35', h35'', p38, q39, g41, s45, s46]))
          · rw [if_neg (ne_true h35)] at hM
            have h35' := h35; try simp at h35'
            have h35'' : ¬ (x10 < (a0.rows.length : Int)) := by first | (have := h35; simp only [decide_eq_true_eq, decide_eq_false_iff_not, Bool.not_eq_true', Bool.not_eq_false', Bool.not_eq_true, Bool.not_eq_false] at this; omega) | (have := h35; simp at this; omega)
            refine AW_exit ?_
            obtain rfl := Option.some.inj hM
            exact hK30 x9 _ rfl (Lift.into (by constructor <;> simp [go_sem, h35, h35', h35'']))
        · rintro x8 rfl
          have hM := hR28
          try dsimp only at hM
          refine AW_seq fun K47 hK47 => ?_
          refine AW_region ?_
          simp (maxSteps := 10000000) [go_sem, s5, s6]
          refine hK47 _ ?_
          obtain rfl := Option.some.inj hM
          refine AW_ret ?_
          simp (maxSteps := 10000000) [go_sem, s5, s6]
theorem s_l3Copy_ctr (k : Nat) : ∀ (a0 : TValue) (r : TValue) (hM : s_l3Copy k a0 = some r), Ctr Tryz.prog 83 [.agg (TValue.c a0)] true [.agg (TValue.c r)] := (s_l3Copy_all k)

set_option maxHeartbeats 4000000 in
set_option maxRecDepth 100000 in
theorem s_l16Read_ctr (k : Nat) (a0 : TRead) (r : TRead) (hM : s_l16Read k a0 = some r) : Ctr Tryz.prog 105 [.agg (TRead.c a0)] true [.agg (TRead.c r)] := by
  unfold s_l16Read at hM
  refine Ctr.of_walk (by kernel_rfl) Tryz.func105 rfl Tryz.ntmps105 Tryz.results105 (by simp) ?_; intro N w0 hbad
  refine AW_seq fun K1 hK1 => ?_
  refine AW_region ?_
  simp (maxSteps := 10000000) [go_sem]
  refine hK1 _ ?_
  refine AW_seq fun K2 hK2 => ?_
  obtain ⟨x1, e3, hM⟩ := bind_some hM
  refine AW_region ?_
  simp (maxSteps := 10000000) [go_sem]
  refine by_ctr false (s_l3Copy_ctr k a0.result x1 e3) (by simp (maxSteps := 10000000) [go_sem]) (by simp) ?_
  simp (maxSteps := 10000000) [go_sem]
  refine hK2 _ ?_
  refine AW_seq fun K4 hK4 => ?_
  refine AW_region ?_
  simp (maxSteps := 10000000) [go_sem]
  refine hK4 _ ?_
  obtain rfl := Option.some.inj hM
  refine AW_ret ?_
  simp (maxSteps := 10000000) [go_sem]
set_option maxHeartbeats 4000000 in
set_option maxRecDepth 100000 in
theorem s_l16Reads_ctr (k : Nat) (a0 : List TRead) (r : List TRead) (hM : s_l16Reads k a0 = some r) : Ctr Tryz.prog 82 [.one (.sl (a0.map TRead.c))] true [.one (.sl (r.map TRead.c))] := by
  unfold s_l16Reads at hM
  refine Ctr.of_walk (by kernel_rfl) Tryz.func82 rfl Tryz.ntmps82 Tryz.results82 (by simp) ?_; intro N w0 hbad
  refine AW_seq fun K1 hK1 => ?_
  refine AW_region ?_
  simp (maxSteps := 10000000) [go_sem]
  refine hK1 _ ?_
  refine AW_seq fun K2 hK2 => ?_
  refine AW_region ?_
  simp (maxSteps := 10000000) [go_sem]
  refine hK2 _ ?_
  obtain ⟨e3, hU5, hR4⟩ := bind_some hM; clear hM
  refine AW_mid (ι := List TRead) (fun i => ⟨21, [(3, .one (.own 320 i.length))], [], [(320, some ⟨true, i.map TRead.c⟩)]⟩) (fun i => i = e3) ?_ ?_
  · intro K6 hK6
    have hM := hU5; clear hU5
    refine AW_seq fun K7 hK7 => ?_
    refine AW_region ?_
    simp (maxSteps := 10000000) [go_sem]
    refine hK7 _ ?_
    refine AW_block ?_
    refine AW_go (ι := (List TRead) × Int) (fun i => ⟨21, [(0, .one (.l (.sl (a0.map TRead.c)))), (3, .one (.own 320 i.1.length)), (4, .one (.l (.int .i64 i.2)))], [], [(320, some ⟨true, i.1.map TRead.c⟩)]⟩) (fun n i => s_l16Reads_u1 k a0 n i.1 i.2 = some e3) k (([] : List TRead), 0) hM (Lift.into (by constructor <;> simp [go_sem])) (fun _ h => by simp [s_l16Reads_u1] at h) ?_
    intro KL8 n ⟨x2, x3⟩ hL8 hM
    have hM : s_l16Reads_u1 k a0 (n + 1) x2 x3 = some e3 := hM; rw [s_l16Reads_u1] at hM
    refine AW_seq fun K9 hK9 => ?_
    refine AW_seq fun K10 hK10 => ?_
    refine AW_region ?_
    simp (maxSteps := 10000000) [go_sem]
    refine hK10 _ ?_
    refine AW_cond (b := (decide (x3 < (a0.length : Int)))) (by simp (maxSteps := 10000000) [go_sem]) (fun h11 => ?_) (fun h11 => ?_)
    · rw [if_pos h11] at hM
      have h11' := h11; try simp at h11'
      have h11'' : ¬ ((a0.length : Int) ≤ x3) := by first | (have := h11; simp only [decide_eq_true_eq, decide_eq_false_iff_not, Bool.not_eq_true', Bool.not_eq_false', Bool.not_eq_true, Bool.not_eq_false] at this; omega) | (have := h11; simp at this; omega)
      refine AW_skip ?_
      refine hK9 _ ?_
      refine AW_seq fun K12 hK12 => ?_
      refine AW_block ?_
      obtain ⟨x4, e13, hM⟩ := bind_some hM
      obtain ⟨p14, q15, l16, g17⟩ := at_spec e13
      obtain ⟨x5, e18, hM⟩ := bind_some hM
      obtain ⟨x6, e19, hM⟩ := bind_some hM
      obtain ⟨c20, s21, s22⟩ := app_spec e19
      replace c20 := c20.symm; subst c20
      try simp at s21
      try simp at s22
      refine AW_region ?_
      simp (maxSteps := 10000000) [go_sem, h11, h11', h11'', p14, q15, g17, s21, s22]
      refine by_ctr false (s_l16Read_ctr k x4 x5 e18) (by simp (maxSteps := 10000000) [go_sem, h11, h11', h11'', p14, q15, g17, s21, s22]) (by simp) ?_
      simp (maxSteps := 10000000) [go_sem, h11, h11', h11'', p14, q15, g17, s21, s22]
      refine hK12 _ ?_
      refine AW_region ?_
      simp (maxSteps := 10000000) [go_sem, h11, h11', h11'', p14, q15, g17, s21, s22]
      exact hL8 ((x2 ++ [x5]), (IntKind.i64.wrap (x3 + 1))) _ hM (Lift.into (by constructor <;> simp [go_sem, h11, h11', h11'', p14, q15, g17, s21, s22]))
    · rw [if_neg (ne_true h11)] at hM
      have h11' := h11; try simp at h11'
      have h11'' : ¬ (x3 < (a0.length : Int)) := by first | (have := h11; simp only [decide_eq_true_eq, decide_eq_false_iff_not, Bool.not_eq_true', Bool.not_eq_false', Bool.not_eq_true, Bool.not_eq_false] at this; omega) | (have := h11; simp at this; omega)
      refine AW_exit ?_
      obtain rfl := Option.some.inj hM
      exact hK6 x2 _ rfl (Lift.into (by constructor <;> simp [go_sem, h11, h11', h11'']))
  · rintro x1 rfl
    have hM := hR4
    try dsimp only at hM
    refine AW_seq fun K23 hK23 => ?_
    refine AW_region ?_
    simp (maxSteps := 10000000) [go_sem]
    refine hK23 _ ?_
    obtain rfl := Option.some.inj hM
    refine AW_ret ?_
    simp (maxSteps := 10000000) [go_sem]
set_option maxHeartbeats 4000000 in
set_option maxRecDepth 100000 in
theorem s_l26Copy_ctr (k : Nat) (a0 : List TTape) (r : List TTape) (hM : s_l26Copy k a0 = some r) : Ctr Tryz.prog 46 [.one (.sl (a0.map TTape.c))] true [.one (.sl (r.map TTape.c))] := by
  unfold s_l26Copy at hM
  refine Ctr.of_walk (by kernel_rfl) Tryz.func46 rfl Tryz.ntmps46 Tryz.results46 (by simp) ?_; intro N w0 hbad
  refine AW_seq fun K1 hK1 => ?_
  refine AW_region ?_
  simp (maxSteps := 10000000) [go_sem]
  refine hK1 _ ?_
  refine AW_seq fun K2 hK2 => ?_
  refine AW_region ?_
  simp (maxSteps := 10000000) [go_sem]
  refine hK2 _ ?_
  obtain ⟨e3, hU5, hR4⟩ := bind_some hM; clear hM
  refine AW_mid (ι := List TTape) (fun i => ⟨33, [(3, .one (.own 320 i.length))], [], [(320, some ⟨true, i.map TTape.c⟩)]⟩) (fun i => i = e3) ?_ ?_
  · intro K6 hK6
    have hM := hU5; clear hU5
    refine AW_seq fun K7 hK7 => ?_
    refine AW_region ?_
    simp (maxSteps := 10000000) [go_sem]
    refine hK7 _ ?_
    refine AW_block ?_
    refine AW_go (ι := (List TTape) × Int) (fun i => ⟨33, [(0, .one (.l (.sl (a0.map TTape.c)))), (3, .one (.own 320 i.1.length)), (4, .one (.l (.int .i64 i.2)))], [], [(320, some ⟨true, i.1.map TTape.c⟩)]⟩) (fun n i => s_l26Copy_u1 k a0 n i.1 i.2 = some e3) k (([] : List TTape), 0) hM (Lift.into (by constructor <;> simp [go_sem])) (fun _ h => by simp [s_l26Copy_u1] at h) ?_
    intro KL8 n ⟨x2, x3⟩ hL8 hM
    have hM : s_l26Copy_u1 k a0 (n + 1) x2 x3 = some e3 := hM; rw [s_l26Copy_u1] at hM
    refine AW_seq fun K9 hK9 => ?_
    refine AW_seq fun K10 hK10 => ?_
    refine AW_region ?_
    simp (maxSteps := 10000000) [go_sem]
    refine hK10 _ ?_
    refine AW_cond (b := (decide (x3 < (a0.length : Int)))) (by simp (maxSteps := 10000000) [go_sem]) (fun h11 => ?_) (fun h11 => ?_)
    · rw [if_pos h11] at hM
      have h11' := h11; try simp at h11'
      have h11'' : ¬ ((a0.length : Int) ≤ x3) := by first | (have := h11; simp only [decide_eq_true_eq, decide_eq_false_iff_not, Bool.not_eq_true', Bool.not_eq_false', Bool.not_eq_true, Bool.not_eq_false] at this; omega) | (have := h11; simp at this; omega)
      refine AW_skip ?_
      refine hK9 _ ?_
      refine AW_seq fun K12 hK12 => ?_
      refine AW_block ?_
      refine AW_into (σ' := ⟨33, [(0, .one (.l (.sl (a0.map TTape.c)))), (3, .one (.own 320 x2.length)), (4, .one (.l (.int .i64 x3)))], [], [(320, some ⟨true, x2.map TTape.c⟩)]⟩) (Lift.into (by constructor <;> simp [go_sem, h11, h11', h11''])) ?_
      obtain ⟨x4, e13, hM⟩ := bind_some hM
      obtain ⟨p14, q15, l16, g17⟩ := at_spec e13
      obtain ⟨x5, e18, hM⟩ := bind_some hM
      obtain ⟨x6, e19, hM⟩ := bind_some hM
      obtain ⟨c20, s21, s22⟩ := app_spec e19
      replace c20 := c20.symm; subst c20
      try simp at s21
      try simp at s22
      refine AW_open [[], [], [], [1, 2], [1, 2, 3], [1, 2, 3, 4], [], [], [6, 7], [6, 7, 8], [6, 7, 8, 9], [], [], [11, 12], [11, 12, 13], [11, 12, 13, 14], [11, 12, 13, 14, 15], [1, 2, 3, 4, 5, 6, 7, 8, 9, 10, 11, 12, 13, 14, 15, 16], [1, 2, 3, 4, 5, 6, 7, 8, 9, 10, 11, 12, 13, 14, 15, 16, 17], [0, 1, 2, 3, 4, 5, 6, 7, 8, 9, 10, 11, 12, 13, 14, 15, 16, 17, 18], [0, 1, 2, 3, 4, 5, 6, 7, 8, 9, 10, 11, 12, 13, 14, 15, 16, 17, 18, 19]] mixed (by kernel_rfl) ?_
      simp (maxSteps := 10000000) [go_sem, h11, h11', h11'', p14, q15, g17, s21, s22]
      refine by_ctr false (s_l16Reads_ctr k x4.reads x5 e18) (by simp (maxSteps := 10000000) [go_sem, h11, h11', h11'', p14, q15, g17, s21, s22]) (by simp) ?_
      simp (maxSteps := 10000000) [go_sem, h11, h11', h11'', p14, q15, g17, s21, s22]
      refine ⟨dOkK_sound (by kernel_rfl), ?_⟩
      refine hK12 _ ?_
      refine AW_region ?_
      simp (maxSteps := 10000000) [go_sem, h11, h11', h11'', p14, q15, g17, s21, s22]
      exact hL8 ((x2 ++ [(TTape.mk x4.cell x4.version x5)]), (IntKind.i64.wrap (x3 + 1))) _ hM (Lift.into (by constructor <;> simp [go_sem, h11, h11', h11'', p14, q15, g17, s21, s22]))
    · rw [if_neg (ne_true h11)] at hM
      have h11' := h11; try simp at h11'
      have h11'' : ¬ (x3 < (a0.length : Int)) := by first | (have := h11; simp only [decide_eq_true_eq, decide_eq_false_iff_not, Bool.not_eq_true', Bool.not_eq_false', Bool.not_eq_true, Bool.not_eq_false] at this; omega) | (have := h11; simp at this; omega)
      refine AW_exit ?_
      obtain rfl := Option.some.inj hM
      exact hK6 x2 _ rfl (Lift.into (by constructor <;> simp [go_sem, h11, h11', h11'']))
  · rintro x1 rfl
    have hM := hR4
    try dsimp only at hM
    refine AW_seq fun K23 hK23 => ?_
    refine AW_region ?_
    simp (maxSteps := 10000000) [go_sem]
    refine hK23 _ ?_
    obtain rfl := Option.some.inj hM
    refine AW_ret ?_
    simp (maxSteps := 10000000) [go_sem]
set_option maxHeartbeats 4000000 in
set_option maxRecDepth 100000 in
theorem s_l28Entry_ctr (k : Nat) (a0 : TEntry) (r : TEntry) (hM : s_l28Entry k a0 = some r) : Ctr Tryz.prog 47 [.agg (TEntry.c a0)] true [.agg (TEntry.c r)] := by
  unfold s_l28Entry at hM
  refine Ctr.of_walk (by kernel_rfl) Tryz.func47 rfl Tryz.ntmps47 Tryz.results47 (by simp) ?_; intro N w0 hbad
  refine AW_seq fun K1 hK1 => ?_
  refine AW_region ?_
  simp (maxSteps := 10000000) [go_sem]
  refine hK1 _ ?_
  refine AW_seq fun K2 hK2 => ?_
  obtain ⟨x1, e3, hM⟩ := bind_some hM
  obtain ⟨c4, s5, s6⟩ := app_spec e3
  replace c4 := c4.symm; subst c4
  try simp at s5
  try simp at s6
  refine AW_region ?_
  simp (maxSteps := 10000000) [go_sem, s5, s6]
  refine hK2 _ ?_
  refine AW_seq fun K7 hK7 => ?_
  obtain ⟨x2, e8, hM⟩ := bind_some hM
  refine AW_region ?_
  simp (maxSteps := 10000000) [go_sem, s5, s6]
  refine by_ctr false (s_l3Copy_ctr k a0.value x2 e8) (by simp (maxSteps := 10000000) [go_sem, s5, s6]) (by simp) ?_
  simp (maxSteps := 10000000) [go_sem, s5, s6]
  refine hK7 _ ?_
  refine AW_seq fun K9 hK9 => ?_
  refine AW_region ?_
  simp (maxSteps := 10000000) [go_sem, s5, s6]
  refine hK9 _ ?_
  obtain rfl := Option.some.inj hM
  refine AW_ret ?_
  simp (maxSteps := 10000000) [go_sem, s5, s6]
set_option maxHeartbeats 4000000 in
set_option maxRecDepth 100000 in
theorem s_l28Copy_ctr (k : Nat) (a0 : TEngine) (r : TEngine) (hM : s_l28Copy k a0 = some r) : Ctr Tryz.prog 19 [.agg (TEngine.c a0)] true [.agg (TEngine.c r)] := by
  unfold s_l28Copy at hM
  refine Ctr.of_walk (by kernel_rfl) Tryz.func19 rfl Tryz.ntmps19 Tryz.results19 (by simp) ?_; intro N w0 hbad
  refine AW_seq fun K1 hK1 => ?_
  refine AW_region ?_
  simp (maxSteps := 10000000) [go_sem]
  refine hK1 _ ?_
  refine AW_seq fun K2 hK2 => ?_
  refine AW_into (σ' := ⟨40, [(1, .one (.box 1 0)), (2, .one (.box 2 0))], [(1, [.l (.sl (a0.notebook.cells.map TCell.c)), .l (.int .i64 a0.world.clock), .l (.int .i64 a0.world.seed), .l (.sl (a0.world.files.map TFile.c)), .l (.sl (a0.tapes.map TTape.c)), .l (.sl (a0.entries.map TEntry.c)), .l (.int .i64 a0.next), .l (.int .i64 a0.limit), .l (.int .i64 a0.work)]), (2, [.nil, .l (.int .i64 0), .l (.int .i64 0), .nil, .nil, .nil, .l (.int .i64 0), .l (.int .i64 0), .l (.int .i64 0)])], []⟩) (Lift.into (by constructor <;> simp [go_sem])) ?_
  obtain ⟨x1, e3, hM⟩ := bind_some hM
  obtain ⟨x2, e4, hM⟩ := bind_some hM
  obtain ⟨x3, e5, hM⟩ := bind_some hM
  refine AW_open [[], [0], [0, 1], [], [3], [0, 1, 2, 3, 4], [], [6], [0, 1, 2, 3, 4, 5, 6, 7], [], [9], [], [11], [], [13], [0, 1, 2, 3, 4, 5, 6, 7, 8, 9, 10, 11, 12, 13, 14], [], [0, 1, 2, 3, 4, 5, 6, 7, 8, 9, 10, 11, 12, 13, 14, 15, 16]] mixed (by kernel_rfl) ?_
  simp (maxSteps := 10000000) [go_sem]
  refine by_ctr false (s_l17Copy_ctr a0.notebook x1 e3) (by simp (maxSteps := 10000000) [go_sem]) (by simp) ?_
  simp (maxSteps := 10000000) [go_sem]
  refine by_ctr false (s_l14Copy_ctr a0.world x2 e4) (by simp (maxSteps := 10000000) [go_sem]) (by simp) ?_
  simp (maxSteps := 10000000) [go_sem]
  refine by_ctr false (s_l26Copy_ctr k a0.tapes x3 e5) (by simp (maxSteps := 10000000) [go_sem]) (by simp) ?_
  simp (maxSteps := 10000000) [go_sem]
  refine ⟨dOkK_sound (by kernel_rfl), ?_⟩
  refine hK2 _ ?_
  obtain ⟨e6, hU8, hR7⟩ := bind_some hM; clear hM
  refine AW_mid (ι := List TEntry) (fun i => ⟨40, [(2, .one (.box 2 0)), (3, .one (.box 3 0))], [(2, [.nil, .l (.int .i64 0), .l (.int .i64 0), .nil, .nil, .nil, .l (.int .i64 0), .l (.int .i64 0), .l (.int .i64 0)]), (3, [.own 448 x1.cells.length, .l (.int .i64 x2.clock), .l (.int .i64 x2.seed), .own 640 x2.files.length, .own 832 x3.length, .own 2368 i.length, .l (.int .i64 a0.next), .l (.int .i64 a0.limit), .l (.int .i64 a0.work)])], [(448, some ⟨true, x1.cells.map TCell.c⟩), (640, some ⟨true, x2.files.map TFile.c⟩), (832, some ⟨true, x3.map TTape.c⟩), (2368, some ⟨true, i.map TEntry.c⟩)]⟩) (fun i => i = e6) ?_ ?_
  · intro K9 hK9
    have hM := hU8; clear hU8
    refine AW_seq fun K10 hK10 => ?_
    refine AW_region ?_
    simp (maxSteps := 10000000) [go_sem]
    refine hK10 _ ?_
    refine AW_block ?_
    refine AW_go (ι := (List TEntry) × Int) (fun i => ⟨40, [(1, .one (.box 1 0)), (2, .one (.box 2 0)), (3, .one (.box 3 0)), (4, .one (.l (.int .i64 i.2)))], [(1, [.l (.sl (a0.notebook.cells.map TCell.c)), .l (.int .i64 a0.world.clock), .l (.int .i64 a0.world.seed), .l (.sl (a0.world.files.map TFile.c)), .l (.sl (a0.tapes.map TTape.c)), .l (.sl (a0.entries.map TEntry.c)), .l (.int .i64 a0.next), .l (.int .i64 a0.limit), .l (.int .i64 a0.work)]), (2, [.nil, .l (.int .i64 0), .l (.int .i64 0), .nil, .nil, .nil, .l (.int .i64 0), .l (.int .i64 0), .l (.int .i64 0)]), (3, [.own 448 x1.cells.length, .l (.int .i64 x2.clock), .l (.int .i64 x2.seed), .own 640 x2.files.length, .own 832 x3.length, .own 2368 i.1.length, .l (.int .i64 a0.next), .l (.int .i64 a0.limit), .l (.int .i64 a0.work)])], [(448, some ⟨true, x1.cells.map TCell.c⟩), (640, some ⟨true, x2.files.map TFile.c⟩), (832, some ⟨true, x3.map TTape.c⟩), (2368, some ⟨true, i.1.map TEntry.c⟩)]⟩) (fun n i => s_l28Copy_u1 k a0 n i.1 i.2 = some e6) k ([], 0) hM (Lift.into (by constructor <;> simp [go_sem])) (fun _ h => by simp [s_l28Copy_u1] at h) ?_
    intro KL11 n ⟨x5, x6⟩ hL11 hM
    have hM : s_l28Copy_u1 k a0 (n + 1) x5 x6 = some e6 := hM; rw [s_l28Copy_u1] at hM
    refine AW_seq fun K12 hK12 => ?_
    refine AW_seq fun K13 hK13 => ?_
    refine AW_region ?_
    simp (maxSteps := 10000000) [go_sem]
    refine hK13 _ ?_
    refine AW_cond (b := (decide (x6 < (a0.entries.length : Int)))) (by simp (maxSteps := 10000000) [go_sem]) (fun h14 => ?_) (fun h14 => ?_)
    · rw [if_pos h14] at hM
      have h14' := h14; try simp at h14'
      have h14'' : ¬ ((a0.entries.length : Int) ≤ x6) := by first | (have := h14; simp only [decide_eq_true_eq, decide_eq_false_iff_not, Bool.not_eq_true', Bool.not_eq_false', Bool.not_eq_true, Bool.not_eq_false] at this; omega) | (have := h14; simp at this; omega)
      refine AW_skip ?_
      refine hK12 _ ?_
      refine AW_seq fun K15 hK15 => ?_
      refine AW_block ?_
      refine AW_into (σ' := ⟨40, [(1, .one (.box 1 0)), (2, .one (.box 2 0)), (3, .one (.box 3 0)), (4, .one (.l (.int .i64 x6)))], [(1, [.l (.sl (a0.notebook.cells.map TCell.c)), .l (.int .i64 a0.world.clock), .l (.int .i64 a0.world.seed), .l (.sl (a0.world.files.map TFile.c)), .l (.sl (a0.tapes.map TTape.c)), .l (.sl (a0.entries.map TEntry.c)), .l (.int .i64 a0.next), .l (.int .i64 a0.limit), .l (.int .i64 a0.work)]), (2, [.nil, .l (.int .i64 0), .l (.int .i64 0), .nil, .nil, .nil, .l (.int .i64 0), .l (.int .i64 0), .l (.int .i64 0)]), (3, [.own 448 x1.cells.length, .l (.int .i64 x2.clock), .l (.int .i64 x2.seed), .own 640 x2.files.length, .own 832 x3.length, .own 2368 x5.length, .l (.int .i64 a0.next), .l (.int .i64 a0.limit), .l (.int .i64 a0.work)])], [(448, some ⟨true, x1.cells.map TCell.c⟩), (640, some ⟨true, x2.files.map TFile.c⟩), (832, some ⟨true, x3.map TTape.c⟩), (2368, some ⟨true, x5.map TEntry.c⟩)]⟩) (Lift.into (by constructor <;> simp [go_sem, h14, h14', h14''])) ?_
      obtain ⟨x7, e16, hM⟩ := bind_some hM
      obtain ⟨p17, q18, l19, g20⟩ := at_spec e16
      obtain ⟨x8, e21, hM⟩ := bind_some hM
      obtain ⟨x9, e22, hM⟩ := bind_some hM
      obtain ⟨c23, s24, s25⟩ := app_spec e22
      replace c23 := c23.symm; subst c23
      try simp at s24
      try simp at s25
      refine AW_open [[], [0], [], [2], [], [2, 3, 4], [2, 3, 4, 5], [2, 3, 4, 5, 6], [2, 3, 4, 5, 6, 7], [0, 1, 2, 3, 4, 5, 6, 7, 8], [0, 1, 2, 3, 4, 5, 6, 7, 8, 9], [0, 1, 2, 3, 4, 5, 6, 7, 8, 9, 10]] mixed (by kernel_rfl) ?_
      simp (maxSteps := 10000000) [go_sem, h14, h14', h14'', p17, q18, g20, s24, s25]
      refine by_ctr false (s_l28Entry_ctr k x7 x8 e21) (by simp (maxSteps := 10000000) [go_sem, h14, h14', h14'', p17, q18, g20, s24, s25]) (by simp) ?_
      simp (maxSteps := 10000000) [go_sem, h14, h14', h14'', p17, q18, g20, s24, s25]
      refine ⟨dOkK_sound (by kernel_rfl), ?_⟩
      refine hK15 _ ?_
      refine AW_region ?_
      simp (maxSteps := 10000000) [go_sem, h14, h14', h14'', p17, q18, g20, s24, s25]
      exact hL11 ((x5 ++ [x8]), (IntKind.i64.wrap (x6 + 1))) _ hM (Lift.into (by constructor <;> simp [go_sem, h14, h14', h14'', p17, q18, g20, s24, s25]))
    · rw [if_neg (ne_true h14)] at hM
      have h14' := h14; try simp at h14'
      have h14'' : ¬ (x6 < (a0.entries.length : Int)) := by first | (have := h14; simp only [decide_eq_true_eq, decide_eq_false_iff_not, Bool.not_eq_true', Bool.not_eq_false', Bool.not_eq_true, Bool.not_eq_false] at this; omega) | (have := h14; simp at this; omega)
      refine AW_exit ?_
      obtain rfl := Option.some.inj hM
      exact hK9 x5 _ rfl (Lift.into (by constructor <;> simp [go_sem, h14, h14', h14'']))
  · rintro x4 rfl
    have hM := hR7
    try dsimp only at hM
    refine AW_seq fun K26 hK26 => ?_
    refine AW_region ?_
    simp (maxSteps := 10000000) [go_sem]
    refine hK26 _ ?_
    obtain rfl := Option.some.inj hM
    refine AW_ret ?_
    simp (maxSteps := 10000000) [go_sem]
set_option maxHeartbeats 4000000 in
set_option maxRecDepth 100000 in
theorem s_l1In_ctr (a0 : Int) (a1 : Int) (a2 : Int) (r : Bool) (hM : s_l1In a0 a1 a2 = some r) : Ctr Tryz.prog 48 [.one (.int .i64 a0), .one (.int .i64 a1), .one (.int .i64 a2)] true [.one (.bool r)] := by
  unfold s_l1In at hM
  refine Ctr.of_walk (by kernel_rfl) Tryz.func48 rfl Tryz.ntmps48 Tryz.results48 (by simp) ?_; intro N w0 hbad
  refine AW_seq fun K1 hK1 => ?_
  refine AW_region ?_
  simp (maxSteps := 10000000) [go_sem]
  refine hK1 _ ?_
  obtain ⟨e2, hU4, hR3⟩ := bind_some hM; clear hM
  refine AW_mid (ι := Bool) (fun i => ⟨15, [(6, .one (.l (.bool i)))], [], []⟩) (fun i => i = e2) ?_ ?_
  · intro K5 hK5
    have hM := hU4; clear hU4
    by_cases h6 : (decide (a1 ≤ a0)) = true
    · rw [if_pos h6] at hM
      have h6' := h6; try simp at h6'
      have h6'' : ¬ (a0 < a1) := by first | (have := h6; simp only [decide_eq_true_eq, decide_eq_false_iff_not, Bool.not_eq_true', Bool.not_eq_false', Bool.not_eq_true, Bool.not_eq_false] at this; omega) | (have := h6; simp at this; omega)
      refine AW_region ?_
      simp (maxSteps := 10000000) [go_sem, h6, h6', h6'']
      obtain rfl := Option.some.inj hM
      exact hK5 (decide (a0 ≤ a2)) _ rfl (Lift.into (by constructor <;> simp [go_sem, h6, h6', h6'']))
    · rw [if_neg h6] at hM
      have h6 := Bool.eq_false_iff.2 h6
      have h6' := h6; try simp at h6'
      have h6'' : ¬ (a1 ≤ a0) := by first | (have := h6; simp only [decide_eq_true_eq, decide_eq_false_iff_not, Bool.not_eq_true', Bool.not_eq_false', Bool.not_eq_true, Bool.not_eq_false] at this; omega) | (have := h6; simp at this; omega)
      refine AW_region ?_
      simp (maxSteps := 10000000) [go_sem, h6, h6', h6'']
      obtain rfl := Option.some.inj hM
      exact hK5 false _ rfl (Lift.into (by constructor <;> simp [go_sem, h6, h6', h6'']))
  · rintro x1 rfl
    have hM := hR3
    try dsimp only at hM
    obtain rfl := Option.some.inj hM
    refine AW_ret ?_
    simp (maxSteps := 10000000) [go_sem]
set_option maxHeartbeats 4000000 in
set_option maxRecDepth 100000 in
theorem s_l2Shape_ctr (k : Nat) (a0 : ByteArray) (r : Bool) (hM : s_l2Shape k a0 = some r) : Ctr Tryz.prog 107 [.one (.str a0)] true [.one (.bool r)] := by
  unfold s_l2Shape at hM
  refine Ctr.of_walk (by kernel_rfl) Tryz.func107 rfl Tryz.ntmps107 Tryz.results107 (by simp) ?_; intro N w0 hbad
  refine AW_seq fun K1 hK1 => ?_
  refine AW_region ?_
  simp (maxSteps := 10000000) [go_sem]
  refine hK1 _ ?_
  obtain ⟨e2, hU4, hR3⟩ := bind_some hM; clear hM
  refine AW_mid (ι := Unit) (fun i => ⟨45, [(0, .one (.l (.str a0)))], [], []⟩) (fun i => (.inl i) = e2) ?_ ?_
  · intro K5 hK5
    have hM := hU4; clear hU4
    refine AW_seq fun K6 hK6 => ?_
    refine AW_region ?_
    simp (maxSteps := 10000000) [go_sem]
    refine hK6 _ ?_
    refine AW_block ?_
    refine AW_go (ι := Int) (fun i => ⟨45, [(0, .one (.l (.str a0))), (3, .one (.l (.int .i64 i)))], [], []⟩) (fun n i => s_l2Shape_u1 a0 n i = some e2) k 0 hM (Lift.into (by constructor <;> simp [go_sem])) (fun _ h => by simp [s_l2Shape_u1] at h) ?_
    intro KL7 n x1 hL7 hM
    have hM : s_l2Shape_u1 a0 (n + 1) x1 = some e2 := hM; rw [s_l2Shape_u1] at hM
    refine AW_seq fun K8 hK8 => ?_
    refine AW_seq fun K9 hK9 => ?_
    refine AW_region ?_
    simp (maxSteps := 10000000) [go_sem]
    refine hK9 _ ?_
    refine AW_cond (b := (decide (x1 < (a0.size : Int)))) (by simp (maxSteps := 10000000) [go_sem]) (fun h10 => ?_) (fun h10 => ?_)
    · rw [if_pos h10] at hM
      have h10' := h10; try simp at h10'
      have h10'' : ¬ ((a0.size : Int) ≤ x1) := by first | (have := h10; simp only [decide_eq_true_eq, decide_eq_false_iff_not, Bool.not_eq_true', Bool.not_eq_false', Bool.not_eq_true, Bool.not_eq_false] at this; omega) | (have := h10; simp at this; omega)
      refine AW_skip ?_
      refine hK8 _ ?_
      refine AW_seq fun K11 hK11 => ?_
      refine AW_block ?_
      obtain ⟨e12, hU14, hR13⟩ := bind_some hM; clear hM
      refine AW_mid (ι := Bool) (fun i => ⟨45, [(0, .one (.l (.str a0))), (3, .one (.l (.int .i64 x1))), (4, .one (.l (.bool i)))], [], []⟩) (fun i => i = e12) ?_ ?_
      · intro K15 hK15
        have hM := hU14; clear hU14
        obtain ⟨x3, e16, hM⟩ := bind_some hM
        obtain ⟨p17, q18, l19, g20⟩ := at_spec e16
        by_cases h21 : (decide (97 ≤ (x3.toNat : Int))) = true
        · rw [if_pos h21] at hM
          have h21' := h21; try simp at h21'
          have h21'' : ¬ ((x3.toNat : Int) < 97) := by first | (have := h21; simp only [decide_eq_true_eq, decide_eq_false_iff_not, Bool.not_eq_true', Bool.not_eq_false', Bool.not_eq_true, Bool.not_eq_false] at this; omega) | (have := h21; simp at this; omega)
          refine AW_region ?_
          simp (maxSteps := 10000000) [go_sem, h10, h10', h10'', p17, q18, g20, h21, h21', h21'']
          obtain rfl := Option.some.inj hM
          exact hK15 (decide ((x3.toNat : Int) ≤ 122)) _ rfl (Lift.into (by constructor <;> simp [go_sem, h10, h10', h10'', p17, q18, g20, h21, h21', h21'']))
        · rw [if_neg h21] at hM
          have h21 := Bool.eq_false_iff.2 h21
          have h21' := h21; try simp at h21'
          have h21'' : ¬ (97 ≤ (x3.toNat : Int)) := by first | (have := h21; simp only [decide_eq_true_eq, decide_eq_false_iff_not, Bool.not_eq_true', Bool.not_eq_false', Bool.not_eq_true, Bool.not_eq_false] at this; omega) | (have := h21; simp at this; omega)
          refine AW_region ?_
          simp (maxSteps := 10000000) [go_sem, h10, h10', h10'', p17, q18, g20, h21, h21', h21'']
          obtain rfl := Option.some.inj hM
          exact hK15 false _ rfl (Lift.into (by constructor <;> simp [go_sem, h10, h10', h10'', p17, q18, g20, h21, h21', h21'']))
      · rintro x2 rfl
        have hM := hR13
        try dsimp only at hM
        obtain ⟨e22, hU24, hR23⟩ := bind_some hM; clear hM
        refine AW_mid (ι := Bool) (fun i => ⟨45, [(0, .one (.l (.str a0))), (3, .one (.l (.int .i64 x1))), (4, .one (.l (.bool x2))), (5, .one (.l (.bool i)))], [], []⟩) (fun i => i = e22) ?_ ?_
        · intro K25 hK25
          have hM := hU24; clear hU24
          obtain ⟨x5, e26, hM⟩ := bind_some hM
          obtain ⟨p27, q28, l29, g30⟩ := at_spec e26
          by_cases h31 : (decide (48 ≤ (x5.toNat : Int))) = true
          · rw [if_pos h31] at hM
            have h31' := h31; try simp at h31'
            have h31'' : ¬ ((x5.toNat : Int) < 48) := by first | (have := h31; simp only [decide_eq_true_eq, decide_eq_false_iff_not, Bool.not_eq_true', Bool.not_eq_false', Bool.not_eq_true, Bool.not_eq_false] at this; omega) | (have := h31; simp at this; omega)
            refine AW_region ?_
            simp (maxSteps := 10000000) [go_sem, h10, h10', h10'', p27, q28, g30, h31, h31', h31'']
            obtain rfl := Option.some.inj hM
            exact hK25 (decide ((x5.toNat : Int) ≤ 57)) _ rfl (Lift.into (by constructor <;> simp [go_sem, h10, h10', h10'', p27, q28, g30, h31, h31', h31'']))
          · rw [if_neg h31] at hM
            have h31 := Bool.eq_false_iff.2 h31
            have h31' := h31; try simp at h31'
            have h31'' : ¬ (48 ≤ (x5.toNat : Int)) := by first | (have := h31; simp only [decide_eq_true_eq, decide_eq_false_iff_not, Bool.not_eq_true', Bool.not_eq_false', Bool.not_eq_true, Bool.not_eq_false] at this; omega) | (have := h31; simp at this; omega)
            refine AW_region ?_
            simp (maxSteps := 10000000) [go_sem, h10, h10', h10'', p27, q28, g30, h31, h31', h31'']
            obtain rfl := Option.some.inj hM
            exact hK25 false _ rfl (Lift.into (by constructor <;> simp [go_sem, h10, h10', h10'', p27, q28, g30, h31, h31', h31'']))
        · rintro x4 rfl
          have hM := hR23
          try dsimp only at hM
          obtain ⟨e32, hU34, hR33⟩ := bind_some hM; clear hM
          refine AW_mid (ι := Bool) (fun i => ⟨45, [(0, .one (.l (.str a0))), (3, .one (.l (.int .i64 x1))), (41, .one (.l (.bool i)))], [], []⟩) (fun i => i = e32) ?_ ?_
          · intro K35 hK35
            have hM := hU34; clear hU34
            by_cases h36 : (!x2) = true
            · rw [if_pos h36] at hM
              have h36' := h36; try simp at h36'
              by_cases h37 : (decide (x1 = 0)) = true
              · rw [if_pos h37] at hM
                have h37' := h37; try simp at h37'
                refine AW_region ?_
                simp (maxSteps := 10000000) [go_sem, h10, h10', h10'', h36, h36', h37, h37']
                obtain rfl := Option.some.inj hM
                exact hK35 true _ rfl (Lift.into (by constructor <;> simp [go_sem, h10, h10', h10'', h36, h36', h37, h37']))
              · rw [if_neg h37] at hM
                have h37 := Bool.eq_false_iff.2 h37
                have h37' := h37; try simp at h37'
                refine AW_region ?_
                simp (maxSteps := 10000000) [go_sem, h10, h10', h10'', h36, h36', h37, h37']
                obtain rfl := Option.some.inj hM
                exact hK35 (!x4) _ rfl (Lift.into (by constructor <;> simp [go_sem, h10, h10', h10'', h36, h36', h37, h37']))
            · rw [if_neg h36] at hM
              have h36 := Bool.eq_false_iff.2 h36
              have h36' := h36; try simp at h36'
              refine AW_region ?_
              simp (maxSteps := 10000000) [go_sem, h10, h10', h10'', h36, h36']
              obtain rfl := Option.some.inj hM
              exact hK35 false _ rfl (Lift.into (by constructor <;> simp [go_sem, h10, h10', h10'', h36, h36']))
          · rintro x6 rfl
            have hM := hR33
            try dsimp only at hM
            refine AW_cond (b := x6) (by simp (maxSteps := 10000000) [go_sem, h10, h10', h10'']) (fun h38 => ?_) (fun h38 => ?_)
            · rw [if_pos h38] at hM
              have h38' := h38; try simp at h38'
              refine AW_seq fun K39 hK39 => ?_
              refine AW_region ?_
              simp (maxSteps := 10000000) [go_sem, h10, h10', h10'', h38, h38']
              refine hK39 _ ?_
              obtain rfl := Option.some.inj hM
              have hM := hR3; dsimp only at hM
              obtain rfl := Option.some.inj hM
              refine AW_ret ?_
              simp (maxSteps := 10000000) [go_sem, h10, h10', h10'', h38, h38']
            · rw [if_neg (ne_true h38)] at hM
              have h38' := h38; try simp at h38'
              refine AW_skip ?_
              refine hK11 _ ?_
              refine AW_region ?_
              simp (maxSteps := 10000000) [go_sem, h10, h10', h10'', h38, h38']
              exact hL7 (IntKind.i64.wrap (x1 + 1)) _ hM (Lift.into (by constructor <;> simp [go_sem, h10, h10', h10'', h38, h38']))
    · rw [if_neg (ne_true h10)] at hM
      have h10' := h10; try simp at h10'
      have h10'' : ¬ (x1 < (a0.size : Int)) := by first | (have := h10; simp only [decide_eq_true_eq, decide_eq_false_iff_not, Bool.not_eq_true', Bool.not_eq_false', Bool.not_eq_true, Bool.not_eq_false] at this; omega) | (have := h10; simp at this; omega)
      refine AW_exit ?_
      obtain rfl := Option.some.inj hM
      exact hK5 () _ rfl (Lift.into (by constructor <;> simp [go_sem, h10, h10', h10'']))
  · rintro _ rfl
    have hM := hR3
    dsimp only at hM
    refine AW_seq fun K40 hK40 => ?_
    refine AW_region ?_
    simp (maxSteps := 10000000) [go_sem]
    refine hK40 _ ?_
    obtain rfl := Option.some.inj hM
    refine AW_ret ?_
    simp (maxSteps := 10000000) [go_sem]
set_option maxHeartbeats 4000000 in
set_option maxRecDepth 100000 in
theorem s_l2Reserved_ctr (r : List ByteArray) (hM : s_l2Reserved = some r) : Ctr Tryz.prog 120 [] true [.one (.sl (r.map sC))] := by
  unfold s_l2Reserved at hM
  refine Ctr.of_walk (by kernel_rfl) Tryz.func120 rfl Tryz.ntmps120 Tryz.results120 (by simp) ?_; intro N w0 hbad
  refine AW_seq fun K1 hK1 => ?_
  refine AW_region ?_
  simp (maxSteps := 10000000) [go_sem]
  refine hK1 _ ?_
  refine AW_seq fun K2 hK2 => ?_
  refine AW_region ?_
  simp (maxSteps := 10000000) [go_sem]
  refine hK2 _ ?_
  obtain rfl := Option.some.inj hM
  refine AW_ret ?_
  simp (maxSteps := 10000000) [go_sem]
set_option maxHeartbeats 4000000 in
set_option maxRecDepth 100000 in
theorem s_l1Has_ctr (k : Nat) (a0 : List ByteArray) (a1 : ByteArray) (r : Bool) (hM : s_l1Has k a0 a1 = some r) : Ctr Tryz.prog 119 [.one (.sl (a0.map sC)), .one (.str a1)] true [.one (.bool r)] := by
  unfold s_l1Has at hM
  refine Ctr.of_walk (by kernel_rfl) Tryz.func119 rfl Tryz.ntmps119 Tryz.results119 (by simp) ?_; intro N w0 hbad
  refine AW_seq fun K1 hK1 => ?_
  refine AW_region ?_
  simp (maxSteps := 10000000) [go_sem]
  refine hK1 _ ?_
  obtain ⟨e2, hU4, hR3⟩ := bind_some hM; clear hM
  refine AW_mid (ι := Unit) (fun i => ⟨18, [], [], []⟩) (fun i => (.inl i) = e2) ?_ ?_
  · intro K5 hK5
    have hM := hU4; clear hU4
    refine AW_seq fun K6 hK6 => ?_
    refine AW_region ?_
    simp (maxSteps := 10000000) [go_sem]
    refine hK6 _ ?_
    refine AW_block ?_
    refine AW_go (ι := Int) (fun i => ⟨18, [(0, .one (.l (.sl (a0.map sC)))), (1, .one (.l (.str a1))), (5, .one (.l (.int .i64 i)))], [], []⟩) (fun n i => s_l1Has_u1 a0 a1 n i = some e2) k 0 hM (Lift.into (by constructor <;> simp [go_sem])) (fun _ h => by simp [s_l1Has_u1] at h) ?_
    intro KL7 n x1 hL7 hM
    have hM : s_l1Has_u1 a0 a1 (n + 1) x1 = some e2 := hM; rw [s_l1Has_u1] at hM
    refine AW_seq fun K8 hK8 => ?_
    refine AW_seq fun K9 hK9 => ?_
    refine AW_region ?_
    simp (maxSteps := 10000000) [go_sem]
    refine hK9 _ ?_
    refine AW_cond (b := (decide (x1 < (a0.length : Int)))) (by simp (maxSteps := 10000000) [go_sem]) (fun h10 => ?_) (fun h10 => ?_)
    · rw [if_pos h10] at hM
      have h10' := h10; try simp at h10'
      have h10'' : ¬ ((a0.length : Int) ≤ x1) := by first | (have := h10; simp only [decide_eq_true_eq, decide_eq_false_iff_not, Bool.not_eq_true', Bool.not_eq_false', Bool.not_eq_true, Bool.not_eq_false] at this; omega) | (have := h10; simp at this; omega)
      refine AW_skip ?_
      refine hK8 _ ?_
      refine AW_seq fun K11 hK11 => ?_
      refine AW_block ?_
      refine AW_seq fun K12 hK12 => ?_
      obtain ⟨x2, e13, hM⟩ := bind_some hM
      obtain ⟨p14, q15, l16, g17⟩ := at_spec e13
      refine AW_region ?_
      simp (maxSteps := 10000000) [go_sem, h10, h10', h10'', p14, q15, g17]
      refine hK12 _ ?_
      refine AW_cond (b := (decide (x2 = a1))) (by simp (maxSteps := 10000000) [go_sem, h10, h10', h10'', p14, q15, g17]) (fun h18 => ?_) (fun h18 => ?_)
      · rw [if_pos h18] at hM
        have h18' := h18; try simp at h18'
        refine AW_seq fun K19 hK19 => ?_
        refine AW_region ?_
        simp (maxSteps := 10000000) [go_sem, h10, h10', h10'', p14, q15, g17, h18, h18']
        refine hK19 _ ?_
        obtain rfl := Option.some.inj hM
        have hM := hR3; dsimp only at hM
        obtain rfl := Option.some.inj hM
        refine AW_ret ?_
        simp (maxSteps := 10000000) [go_sem, h10, h10', h10'', p14, q15, g17, h18, h18']
      · rw [if_neg (ne_true h18)] at hM
        have h18' := h18; try simp at h18'
        refine AW_skip ?_
        refine hK11 _ ?_
        refine AW_region ?_
        simp (maxSteps := 10000000) [go_sem, h10, h10', h10'', p14, q15, g17, h18, h18']
        exact hL7 (IntKind.i64.wrap (x1 + 1)) _ hM (Lift.into (by constructor <;> simp [go_sem, h10, h10', h10'', p14, q15, g17, h18, h18']))
    · rw [if_neg (ne_true h10)] at hM
      have h10' := h10; try simp at h10'
      have h10'' : ¬ (x1 < (a0.length : Int)) := by first | (have := h10; simp only [decide_eq_true_eq, decide_eq_false_iff_not, Bool.not_eq_true', Bool.not_eq_false', Bool.not_eq_true, Bool.not_eq_false] at this; omega) | (have := h10; simp at this; omega)
      refine AW_exit ?_
      obtain rfl := Option.some.inj hM
      exact hK5 () _ rfl (Lift.into (by constructor <;> simp [go_sem, h10, h10', h10'']))
  · rintro _ rfl
    have hM := hR3
    dsimp only at hM
    refine AW_seq fun K20 hK20 => ?_
    refine AW_region ?_
    simp (maxSteps := 10000000) [go_sem]
    refine hK20 _ ?_
    obtain rfl := Option.some.inj hM
    refine AW_ret ?_
    simp (maxSteps := 10000000) [go_sem]
set_option maxHeartbeats 4000000 in
set_option maxRecDepth 100000 in
theorem s_IsReserved_ctr (k : Nat) (a0 : ByteArray) (r : Bool) (hM : s_IsReserved k a0 = some r) : Ctr Tryz.prog 108 [.one (.str a0)] true [.one (.bool r)] := by
  unfold s_IsReserved at hM
  refine Ctr.of_walk (by kernel_rfl) Tryz.func108 rfl Tryz.ntmps108 Tryz.results108 (by simp) ?_; intro N w0 hbad
  refine AW_seq fun K1 hK1 => ?_
  refine AW_region ?_
  simp (maxSteps := 10000000) [go_sem]
  refine hK1 _ ?_
  refine AW_seq fun K2 hK2 => ?_
  obtain ⟨x1, e3, hM⟩ := bind_some hM
  obtain ⟨x2, e4, hM⟩ := bind_some hM
  refine AW_region ?_
  simp (maxSteps := 10000000) [go_sem]
  refine by_ctr false (s_l2Reserved_ctr x1 e3) (by simp (maxSteps := 10000000) [go_sem]) (by simp) ?_
  simp (maxSteps := 10000000) [go_sem]
  refine by_ctr false (s_l1Has_ctr k x1 a0 x2 e4) (by simp (maxSteps := 10000000) [go_sem]) (by simp) ?_
  simp (maxSteps := 10000000) [go_sem]
  refine hK2 _ ?_
  obtain rfl := Option.some.inj hM
  refine AW_ret ?_
  simp (maxSteps := 10000000) [go_sem]
end Go.Proofs.YtmiboaogfjgkjaaGreat
