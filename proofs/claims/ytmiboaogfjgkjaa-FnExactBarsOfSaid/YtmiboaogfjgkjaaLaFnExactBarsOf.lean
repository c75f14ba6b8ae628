/- The law FnExactBarsOf: its mirrored function, and its contract. Written by a program of mine. -/
import Derived.Test.YtmiboaogfjgkjaaMkC
import Derived.Test.YtmiboaogfjgkjaaWn
import Derived.Test.YtmiboaogfjgkjaaCt6
import Derived.Test.YtmiboaogfjgkjaaCt7
import Derived.Test.YtmiboaogfjgkjaaCtA2
import Derived.Test.YtmiboaogfjgkjaaCtA3
import Derived.Test.YtmiboaogfjgkjaaCtA5
set_option linter.unusedSimpArgs false
set_option linter.unusedVariables false
namespace Go.Proofs.Ytmiboaogfjgkjaa
open Go.RowKit Am
def w_FnExactBarsOf (k : Nat) (a0 : TValue) (a1 : Int) (a2 : Int) : Option Bool :=
  (w_szValue k a0 1048576).bind fun x1 =>
  if (decide (x1 < 0)) then
    some true
  else
    (w_toValue k a0).bind fun x2 =>
    (s_BarsOf k x2 a1 a2).bind fun x3 =>
    (w_toValue k a0).bind fun x4 =>
    (i_BarsOf k x4 a1 a2).bind fun x5 =>
    ((w_eqScene k x5.1 x3.1).bind fun x7 =>
    if (!x7) then
      some true
    else
      some (!(x5.2 == x3.2))).bind fun x6 =>
    if x6 then
      some false
    else
      (w_toValue k a0).bind fun x8 =>
      (w_eqValue k x4 x8).bind fun x9 =>
      if (!x9) then
        some false
      else
        (wr? TValue.markV TValue.cnV 1 x4).bind fun x10 =>
        (if (decide (x10.2 < 0)) then
          some true
        else
          (w_eqScene k x5.1 x3.1).bind fun x12 =>
          if (!x12) then
            some true
          else
            some (!(x5.2 == x3.2))).bind fun x11 =>
        if x11 then
          some false
        else
          (wr? TScene.markV TScene.cnV 1 x5.1).bind fun x13 =>
          (hd? 1 (TScene.cnV x5.1)).bind fun x14 =>
          if (decide (x14 < 0)) then
            some false
          else
            if (!decide (x14 = x13.2)) then
              some false
            else
              (w_toValue k a0).bind fun x15 =>
              (i_BarsOf k x15 a1 a2).bind fun x16 =>
              ((w_eqScene k x16.1 x3.1).bind fun x18 =>
              if (!x18) then
                some true
              else
                some (!(x16.2 == x3.2))).bind fun x17 =>
              if x17 then
                some false
              else
                (hd? 1 (TScene.cnV x5.1)).bind fun x19 =>
                if (decide (x19 < 0)) then
                  some false
                else
                  if (!decide (x19 = x13.2)) then
                    some false
                  else
                    some true
set_option maxHeartbeats 4000000 in
set_option maxRecDepth 100000 in
theorem w_FnExactBarsOf_ctr (k : Nat) (a0 : TValue) (a1 : Int) (a2 : Int) (r : Bool) (hM : w_FnExactBarsOf k a0 a1 a2 = some r) : Ctr Try.prog 9 [.agg (TValue.c a0), .one (.int .i64 a1), .one (.int .i64 a2)] true [.one (.bool r)] := by
  unfold w_FnExactBarsOf at hM
  refine walkM Try.func9 Try.ntmps9 Try.results9 fun N w0 hbad F => ?_
  refine AW_sr fun K h => ?_; simp (maxSteps := 9999999) [go_sem, F]; refine h _ ?_; refine AW_sr fun K h => ?_; simp (maxSteps := 9999999) [go_sem, F]; refine h _ ?_; obtain ⟨x1, e1, hM⟩ := bind_some hM; refine AW_sr fun K h => ?_; simp (maxSteps := 9999999) [go_sem, F]; refine by_c true (w_szValue_ctr k a0 1048576 x1 e1) ?_; simp (maxSteps := 9999999) [go_sem, F]; refine h _ ?_; refine AW_seq fun K2 hK2 => ?_
  refine AW_sr fun K h => ?_; simp (maxSteps := 9999999) [go_sem, F]; refine h _ ?_; refine AW_if hM (fun h3 hM => ?_) (fun h3 hM => ?_)
  · have g := h3; (try simp at g); have F := And.intro F (And.intro h3 (And.intro g (lT h3))); refine AW_sr fun K h => ?_; simp (maxSteps := 9999999) [go_sem, F]; refine h _ ?_; obtain rfl := si hM; refine AW_ret ?_; simp (maxSteps := 9999999) [go_sem, F]
  · have g := h3; (try simp at g); have F := And.intro F (And.intro h3 (And.intro g (lF h3))); refine AW_skip ?_; refine hK2 _ ?_; obtain ⟨x2, e4, hM⟩ := bind_some hM; obtain ⟨x3, e5, hM⟩ := bind_some hM; refine AW_sr fun K h => ?_; simp (maxSteps := 9999999) [go_sem, F]; refine by_c true (w_toValue_ctr k a0 x2 e4) ?_; simp (maxSteps := 9999999) [go_sem, F]; refine by_c true (s_BarsOf_ctr k x2 a1 a2 x3 e5) ?_
    simp (maxSteps := 9999999) [go_sem, F]; refine h _ ?_; obtain ⟨x4, e6, hM⟩ := bind_some hM; refine AW_sr fun K h => ?_; simp (maxSteps := 9999999) [go_sem, F]; refine by_c true (w_toValue_ctr k a0 x4 e6) ?_; simp (maxSteps := 9999999) [go_sem, F]; refine h _ ?_; obtain ⟨x5, e7, hM⟩ := bind_some hM; refine AW_sr fun K h => ?_; simp (maxSteps := 9999999) [go_sem, F]; refine by_c true (i_BarsOf_ctr k x4 a1 a2 x5 e7) ?_
    simp (maxSteps := 9999999) [go_sem, F]; refine h _ ?_; refine AW_seq fun K8 hK8 => ?_; obtain ⟨e9, hU11, hR10⟩ := bind_some hM; clear hM; refine AW_mid (ι := Bool) (fun i => ⟨106, [(1, .one (.l (.int .i64 a1))), (2, .one (.l (.int .i64 a2))), (3, .one (.box 3 0)), (8, .one (.box 8 0)), (9, .one (.l (.bool x3.2))), (10, .one (.box 10 0)), (11, .one (.box 11 0)), (12, .one (.l (.bool x5.2))), (48, .one (.l (.bool i)))], [(3, [.l (.int .i64 a0.kind), .l (.int .i64 a0.n), .l (.int .i64 a0.step), .l (.str a0.text), .l (.sl (a0.list.map TValue.c)), .l (.sl (a0.columns.map sC)), .l (.sl (a0.rows.map TRow.c))]), (8, [.l (.int .i64 x3.1.w), .l (.int .i64 x3.1.h), .own 1001792 x3.1.marks.length]), (10, [.l (.int .i64 x4.kind), .l (.int .i64 x4.n), .l (.int .i64 x4.step), .l (.str x4.text), .own 1002048 x4.list.length, .own 1002049 x4.columns.length, .own 1002050 x4.rows.length]), (11, [.l (.int .i64 x5.1.w), .l (.int .i64 x5.1.h), .own 1002368 x5.1.marks.length])], [(1001792, some ⟨true, x3.1.marks.map TMark.c⟩), (1002048, some ⟨true, x4.list.map TValue.c⟩), (1002049, some ⟨true, x4.columns.map sC⟩), (1002050, some ⟨true, x4.rows.map TRow.c⟩), (1002368, some ⟨true, x5.1.marks.map TMark.c⟩)]⟩) (fun i => i = e9) ?_ ?_
    · intro K12 hK12; have hM := hU11; clear hU11; obtain ⟨x7, e13, hM⟩ := bind_some hM; rcases ifM hM with ⟨h14, hM⟩ | ⟨h14, hM⟩
      · have g := h14; (try simp at g); have F := And.intro F (And.intro h14 g); refine AW_region ?_; simp (maxSteps := 9999999) [go_sem, F]; refine by_c true (w_eqScene_ctr k x5.1 x3.1 x7 e13) ?_; simp (maxSteps := 9999999) [go_sem, F]; obtain rfl := si hM; exact fin hK12 true rfl
      · have g := h14; (try simp at g); have F := And.intro F (And.intro h14 g); refine AW_region ?_; simp (maxSteps := 9999999) [go_sem, F]; refine by_c true (w_eqScene_ctr k x5.1 x3.1 x7 e13) ?_; simp (maxSteps := 9999999) [go_sem, F]; obtain rfl := si hM; exact fin hK12 (!(x5.2 == x3.2)) rfl
    · rintro x6 rfl; have hM := hR10; (try dsimp only at hM); refine AW_if hM (fun h15 hM => ?_) (fun h15 hM => ?_)
      · have g := h15; (try simp at g); have F := And.intro F (And.intro h15 g); refine AW_sr fun K h => ?_; simp (maxSteps := 9999999) [go_sem, F]; refine h _ ?_; obtain rfl := si hM; refine AW_ret ?_; simp (maxSteps := 9999999) [go_sem, F]
      · have g := h15; (try simp at g); have F := And.intro F (And.intro h15 g); refine AW_skip ?_; refine hK8 _ ?_; refine AW_seq fun K16 hK16 => ?_; refine AW_seq fun K17 hK17 => ?_; refine AW_fz (σ' := ⟨106, [(1, .one (.l (.int .i64 a1))), (2, .one (.l (.int .i64 a2))), (3, .one (.box 3 0)), (8, .one (.box 8 0)), (9, .one (.l (.bool x3.2))), (10, .one (.box 10 0)), (11, .one (.box 11 0)), (12, .one (.l (.bool x5.2)))], [(3, [.l (.int .i64 a0.kind), .l (.int .i64 a0.n), .l (.int .i64 a0.step), .l (.str a0.text), .l (.sl (a0.list.map TValue.c)), .l (.sl (a0.columns.map sC)), .l (.sl (a0.rows.map TRow.c))]), (8, [.l (.int .i64 x3.1.w), .l (.int .i64 x3.1.h), .own 1001792 x3.1.marks.length]), (10, [.l (.int .i64 x4.kind), .l (.int .i64 x4.n), .l (.int .i64 x4.step), .l (.str x4.text), .own 1002048 x4.list.length, .own 1002049 x4.columns.length, .own 1002050 x4.rows.length]), (11, [.l (.int .i64 x5.1.w), .l (.int .i64 x5.1.h), .own 1002368 x5.1.marks.length])], [(1001792, some ⟨true, x3.1.marks.map TMark.c⟩), (1002048, some ⟨true, x4.list.map TValue.c⟩), (1002049, some ⟨true, x4.columns.map sC⟩), (1002050, some ⟨true, x4.rows.map TRow.c⟩), (1002368, some ⟨true, x5.1.marks.map TMark.c⟩)]⟩) ?_
        obtain ⟨x8, e18, hM⟩ := bind_some hM; obtain ⟨x9, e19, hM⟩ := bind_some hM; refine AW_open [[], [], [1], [0, 1, 2], [0, 1, 2, 3]] mixed (by kernel_rfl) ?_; simp (maxSteps := 9999999) [go_sem, F]; refine by_c true (w_toValue_ctr k a0 x8 e18) ?_; simp (maxSteps := 9999999) [go_sem, F]; refine by_c true (w_eqValue_ctr k x4 x8 x9 e19) ?_; simp (maxSteps := 9999999) [go_sem, F]; refine ⟨dOkK_sound (by kernel_rfl), ?_⟩
        refine hK17 _ ?_; refine AW_if hM (fun h20 hM => ?_) (fun h20 hM => ?_)
        · have g := h20; (try simp at g); have F := And.intro F (And.intro h20 g); refine AW_sr fun K h => ?_; simp (maxSteps := 9999999) [go_sem, F]; refine h _ ?_; obtain rfl := si hM; refine AW_ret ?_; simp (maxSteps := 9999999) [go_sem, F]
        · have g := h20; (try simp at g); have F := And.intro F (And.intro h20 g); refine AW_skip ?_; refine hK16 _ ?_; refine AW_sr fun K h => ?_; simp (maxSteps := 9999999) [go_sem, F]; refine h _ ?_; refine AW_seq fun K21 hK21 => ?_; obtain ⟨x10, e22, hM⟩ := bind_some hM; obtain ⟨q23, q24, q25, q26⟩ := wr_spec e22; have F := And.intro F (And.intro q25 q26); have F := And.intro F (TValue.markV_len e22)
          refine AW_write hbad 2 ?_; simp (maxSteps := 9999999) [go_sem, F]; refine by_wr (mk_Value e22) (by simp (maxSteps := 9999999) [go_sem, F]) (by simp (maxSteps := 9999999) [go_sem, F]) ?_; simp (maxSteps := 9999999) [go_sem, F]; refine hK21 _ ?_; refine AW_seq fun K27 hK27 => ?_; obtain ⟨e28, hU30, hR29⟩ := bind_some hM; clear hM; refine AW_mid (ι := Bool) (fun i => ⟨106, [(1, .one (.l (.int .i64 a1))), (2, .one (.l (.int .i64 a2))), (3, .one (.box 3 0)), (8, .one (.box 8 0)), (9, .one (.l (.bool x3.2))), (11, .one (.box 11 0)), (69, .one (.l (.bool i)))], [(3, [.l (.int .i64 a0.kind), .l (.int .i64 a0.n), .l (.int .i64 a0.step), .l (.str a0.text), .l (.sl (a0.list.map TValue.c)), .l (.sl (a0.columns.map sC)), .l (.sl (a0.rows.map TRow.c))]), (8, [.l (.int .i64 x3.1.w), .l (.int .i64 x3.1.h), .own 1001792 x3.1.marks.length]), (11, [.l (.int .i64 x5.1.w), .l (.int .i64 x5.1.h), .own 1002368 x5.1.marks.length])], [(1001792, some ⟨true, x3.1.marks.map TMark.c⟩), (1002368, some ⟨true, x5.1.marks.map TMark.c⟩)]⟩) (fun i => i = e28) ?_ ?_
          · intro K31 hK31; have hM := hU30; clear hU30; rcases ifM hM with ⟨h32, hM⟩ | ⟨h32, hM⟩
            · have g := h32; (try simp at g); have F := And.intro F (And.intro h32 (And.intro g (lT h32))); refine AW_region ?_; simp (maxSteps := 9999999) [go_sem, F]; obtain rfl := si hM; exact fin hK31 true rfl
            · have g := h32; (try simp at g); have F := And.intro F (And.intro h32 (And.intro g (lF h32))); obtain ⟨x12, e33, hM⟩ := bind_some hM; rcases ifM hM with ⟨h34, hM⟩ | ⟨h34, hM⟩
              · have g := h34; (try simp at g); have F := And.intro F (And.intro h34 g); refine AW_region ?_; simp (maxSteps := 9999999) [go_sem, F]; refine by_c true (w_eqScene_ctr k x5.1 x3.1 x12 e33) ?_; simp (maxSteps := 9999999) [go_sem, F]; obtain rfl := si hM; exact fin hK31 true rfl
              · have g := h34; (try simp at g); have F := And.intro F (And.intro h34 g); refine AW_region ?_; simp (maxSteps := 9999999) [go_sem, F]; refine by_c true (w_eqScene_ctr k x5.1 x3.1 x12 e33) ?_; simp (maxSteps := 9999999) [go_sem, F]; obtain rfl := si hM; exact fin hK31 (!(x5.2 == x3.2)) rfl
          · rintro x11 rfl; have hM := hR29; (try dsimp only at hM); refine AW_if hM (fun h35 hM => ?_) (fun h35 hM => ?_)
            · have g := h35; (try simp at g); have F := And.intro F (And.intro h35 g); refine AW_sr fun K h => ?_; simp (maxSteps := 9999999) [go_sem, F]; refine h _ ?_; obtain rfl := si hM; refine AW_ret ?_; simp (maxSteps := 9999999) [go_sem, F]
            · have g := h35; (try simp at g); have F := And.intro F (And.intro h35 g); refine AW_skip ?_; refine hK27 _ ?_; refine AW_sr fun K h => ?_; simp (maxSteps := 9999999) [go_sem, F]; refine h _ ?_; refine AW_seq fun K36 hK36 => ?_; obtain ⟨x13, e37, hM⟩ := bind_some hM; obtain ⟨q38, q39, q40, q41⟩ := wr_spec e37; have F := And.intro F (And.intro q40 q41); have F := And.intro F (TScene.markV_len e37)
              refine AW_write hbad 2 ?_; simp (maxSteps := 9999999) [go_sem, F]; refine by_wr (mk_Scene e37) (by simp (maxSteps := 9999999) [go_sem, F]) (by simp (maxSteps := 9999999) [go_sem, F]) ?_; simp (maxSteps := 9999999) [go_sem, F]; refine hK36 _ ?_; refine AW_sr fun K h => ?_; simp (maxSteps := 9999999) [go_sem, F]; refine h _ ?_; refine AW_seq fun K42 hK42 => ?_; obtain ⟨x14, e43, hM⟩ := bind_some hM
              refine AW_region ?_; simp (maxSteps := 9999999) [go_sem, F]; refine by_c true (hd_Scene (k := 1) (y := (TScene.mk x5.1.w x5.1.h x13.1.marks)) e43 (by first | exact q38 | (rw [q38]; first | done | rfl))) ?_; simp (maxSteps := 9999999) [go_sem, F]; refine hK42 _ ?_; refine AW_seq fun K44 hK44 => ?_; refine AW_sr fun K h => ?_; simp (maxSteps := 9999999) [go_sem, F]; refine h _ ?_; refine AW_if hM (fun h45 hM => ?_) (fun h45 hM => ?_)
              · have g := h45; (try simp at g); have F := And.intro F (And.intro h45 (And.intro g (lT h45))); refine AW_sr fun K h => ?_; simp (maxSteps := 9999999) [go_sem, F]; refine h _ ?_; obtain rfl := si hM; refine AW_ret ?_; simp (maxSteps := 9999999) [go_sem, F]
              · have g := h45; (try simp at g); have F := And.intro F (And.intro h45 (And.intro g (lF h45))); refine AW_skip ?_; refine hK44 _ ?_; refine AW_seq fun K46 hK46 => ?_; refine AW_sr fun K h => ?_; simp (maxSteps := 9999999) [go_sem, F]; refine h _ ?_; refine AW_if hM (fun h47 hM => ?_) (fun h47 hM => ?_)
                · have g := h47; (try simp at g); have F := And.intro F (And.intro h47 g); refine AW_sr fun K h => ?_; simp (maxSteps := 9999999) [go_sem, F]; refine h _ ?_; obtain rfl := si hM; refine AW_ret ?_; simp (maxSteps := 9999999) [go_sem, F]
                · have g := h47; (try simp at g); have F := And.intro F (And.intro h47 g); refine AW_skip ?_; refine hK46 _ ?_; obtain ⟨x15, e48, hM⟩ := bind_some hM; obtain ⟨x16, e49, hM⟩ := bind_some hM; refine AW_sr fun K h => ?_; simp (maxSteps := 9999999) [go_sem, F]; refine by_c true (w_toValue_ctr k a0 x15 e48) ?_; simp (maxSteps := 9999999) [go_sem, F]; refine by_c true (i_BarsOf_ctr k x15 a1 a2 x16 e49) ?_
                  simp (maxSteps := 9999999) [go_sem, F]; refine h _ ?_; refine AW_seq fun K50 hK50 => ?_; obtain ⟨e51, hU53, hR52⟩ := bind_some hM; clear hM; refine AW_mid (ι := Bool) (fun i => ⟨106, [(11, .one (.box 11 0)), (14, .one (.l (.int .i64 x13.2))), (97, .one (.l (.bool i)))], [(11, [.l (.int .i64 x5.1.w), .l (.int .i64 x5.1.h), .l (.sl (x13.1.marks.map TMark.c))])], []⟩) (fun i => i = e51) ?_ ?_
                  · intro K54 hK54; have hM := hU53; clear hU53; obtain ⟨x18, e55, hM⟩ := bind_some hM; rcases ifM hM with ⟨h56, hM⟩ | ⟨h56, hM⟩
                    · have g := h56; (try simp at g); have F := And.intro F (And.intro h56 g); refine AW_region ?_; simp (maxSteps := 9999999) [go_sem, F]; refine by_c true (w_eqScene_ctr k x16.1 x3.1 x18 e55) ?_; simp (maxSteps := 9999999) [go_sem, F]; obtain rfl := si hM; exact fin hK54 true rfl
                    · have g := h56; (try simp at g); have F := And.intro F (And.intro h56 g); refine AW_region ?_; simp (maxSteps := 9999999) [go_sem, F]; refine by_c true (w_eqScene_ctr k x16.1 x3.1 x18 e55) ?_; simp (maxSteps := 9999999) [go_sem, F]; obtain rfl := si hM; exact fin hK54 (!(x16.2 == x3.2)) rfl
                  · rintro x17 rfl; have hM := hR52; (try dsimp only at hM); refine AW_if hM (fun h57 hM => ?_) (fun h57 hM => ?_)
                    · have g := h57; (try simp at g); have F := And.intro F (And.intro h57 g); refine AW_sr fun K h => ?_; simp (maxSteps := 9999999) [go_sem, F]; refine h _ ?_; obtain rfl := si hM; refine AW_ret ?_; simp (maxSteps := 9999999) [go_sem, F]
                    · have g := h57; (try simp at g); have F := And.intro F (And.intro h57 g); refine AW_skip ?_; refine hK50 _ ?_; refine AW_sr fun K h => ?_; simp (maxSteps := 9999999) [go_sem, F]; refine h _ ?_; refine AW_seq fun K58 hK58 => ?_; obtain ⟨x19, e59, hM⟩ := bind_some hM; refine AW_region ?_; simp (maxSteps := 9999999) [go_sem, F]; refine by_c true (hd_Scene (k := 1) (y := (TScene.mk x5.1.w x5.1.h x13.1.marks)) e59 (by first | exact q38 | (rw [q38]; first | done | rfl))) ?_
                      simp (maxSteps := 9999999) [go_sem, F]; refine hK58 _ ?_; refine AW_seq fun K60 hK60 => ?_; refine AW_sr fun K h => ?_; simp (maxSteps := 9999999) [go_sem, F]; refine h _ ?_; refine AW_if hM (fun h61 hM => ?_) (fun h61 hM => ?_)
                      · have g := h61; (try simp at g); have F := And.intro F (And.intro h61 (And.intro g (lT h61))); refine AW_sr fun K h => ?_; simp (maxSteps := 9999999) [go_sem, F]; refine h _ ?_; obtain rfl := si hM; refine AW_ret ?_; simp (maxSteps := 9999999) [go_sem, F]
                      · have g := h61; (try simp at g); have F := And.intro F (And.intro h61 (And.intro g (lF h61))); refine AW_skip ?_; refine hK60 _ ?_; refine AW_seq fun K62 hK62 => ?_; refine AW_sr fun K h => ?_; simp (maxSteps := 9999999) [go_sem, F]; refine h _ ?_; refine AW_if hM (fun h63 hM => ?_) (fun h63 hM => ?_)
                        · have g := h63; (try simp at g); have F := And.intro F (And.intro h63 g); refine AW_sr fun K h => ?_; simp (maxSteps := 9999999) [go_sem, F]; refine h _ ?_; obtain rfl := si hM; refine AW_ret ?_; simp (maxSteps := 9999999) [go_sem, F]
                        · have g := h63; (try simp at g); have F := And.intro F (And.intro h63 g); refine AW_skip ?_; refine hK62 _ ?_; refine AW_sr fun K h => ?_; simp (maxSteps := 9999999) [go_sem, F]; refine h _ ?_; obtain rfl := si hM; refine AW_ret ?_; simp (maxSteps := 9999999) [go_sem, F]
end Go.Proofs.Ytmiboaogfjgkjaa
