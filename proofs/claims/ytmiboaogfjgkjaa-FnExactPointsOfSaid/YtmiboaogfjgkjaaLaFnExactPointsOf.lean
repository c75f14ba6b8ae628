/- The law FnExactPointsOf: its mirrored function, and its contract. Written by a program of mine. -/
import Derived.Test.YtmiboaogfjgkjaaMkC
import Derived.Test.YtmiboaogfjgkjaaWn
import Derived.Test.YtmiboaogfjgkjaaCt8
import Derived.Test.YtmiboaogfjgkjaaCtA2
import Derived.Test.YtmiboaogfjgkjaaCtA3
import Derived.Test.YtmiboaogfjgkjaaCtA5
set_option linter.unusedSimpArgs false
set_option linter.unusedVariables false
namespace Go.Proofs.Ytmiboaogfjgkjaa
open Go.RowKit Am
def w_FnExactPointsOf (k : Nat) (a0 : TValue) (a1 : ByteArray) (a2 : ByteArray) (a3 : Int) (a4 : Int) : Option Bool :=
  if (decide (1048576 < (a1.size : Int))) then
    some true
  else
    if (decide (1048576 < (a2.size : Int))) then
      some true
    else
      (w_szValue k a0 1048576).bind fun x1 =>
      if (decide (x1 < 0)) then
        some true
      else
        (w_toValue k a0).bind fun x2 =>
        (s_PointsOf k x2 a1 a2 a3 a4).bind fun x3 =>
        (w_toValue k a0).bind fun x4 =>
        (i_PointsOf k x4 a1 a2 a3 a4).bind fun x5 =>
        ((w_eqScene k x5.1 x3.1).bind fun x7 =>
        if (!x7) then
          some true
        else
          some (!(x5.2 == x3.2))).bind fun x6 =>
        if x6 then
          some false
        else
          (w_toValue k a0).bind fun x8 =>
          (w_eqValue k x4 x8).bind fun x9 =>
          if (!x9) then
            some false
          else
            (wr? TValue.markV TValue.cnV 1 x4).bind fun x10 =>
            (if (decide (x10.2 < 0)) then
              some true
            else
              (w_eqScene k x5.1 x3.1).bind fun x12 =>
              if (!x12) then
                some true
              else
                some (!(x5.2 == x3.2))).bind fun x11 =>
            if x11 then
              some false
            else
              (wr? TScene.markV TScene.cnV 1 x5.1).bind fun x13 =>
              (hd? 1 (TScene.cnV x5.1)).bind fun x14 =>
              if (decide (x14 < 0)) then
                some false
              else
                if (!decide (x14 = x13.2)) then
                  some false
                else
                  (w_toValue k a0).bind fun x15 =>
                  (i_PointsOf k x15 a1 a2 a3 a4).bind fun x16 =>
                  ((w_eqScene k x16.1 x3.1).bind fun x18 =>
                  if (!x18) then
                    some true
                  else
                    some (!(x16.2 == x3.2))).bind fun x17 =>
                  if x17 then
                    some false
                  else
                    (hd? 1 (TScene.cnV x5.1)).bind fun x19 =>
                    if (decide (x19 < 0)) then
                      some false
                    else
                      if (!decide (x19 = x13.2)) then
                        some false
                      else
                        some true
set_option maxHeartbeats 4000000 in
set_option maxRecDepth 100000 in
theorem w_FnExactPointsOf_ctr (k : Nat) (a0 : TValue) (a1 : ByteArray) (a2 : ByteArray) (a3 : Int) (a4 : Int) (r : Bool) (hM : w_FnExactPointsOf k a0 a1 a2 a3 a4 = some r) : Ctr Try.prog 10 [.agg (TValue.c a0), .one (.str a1), .one (.str a2), .one (.int .i64 a3), .one (.int .i64 a4)] true [.one (.bool r)] := by
  unfold w_FnExactPointsOf at hM
  refine walkM Try.func10 Try.ntmps10 Try.results10 fun N w0 hbad F => ?_
  refine AW_sr fun K h => ?_; simp (maxSteps := 9999999) [go_sem, F]; refine h _ ?_; refine AW_seq fun K1 hK1 => ?_; refine AW_sr fun K h => ?_; simp (maxSteps := 9999999) [go_sem, F]; refine h _ ?_; refine AW_if hM (fun h2 hM => ?_) (fun h2 hM => ?_)
  · have g := h2; (try simp at g); have F := And.intro F (And.intro h2 (And.intro g (lT h2))); refine AW_sr fun K h => ?_; simp (maxSteps := 9999999) [go_sem, F]; refine h _ ?_; obtain rfl := si hM; refine AW_ret ?_; simp (maxSteps := 9999999) [go_sem, F]
  · have g := h2; (try simp at g); have F := And.intro F (And.intro h2 (And.intro g (lF h2))); refine AW_skip ?_; refine hK1 _ ?_; refine AW_seq fun K3 hK3 => ?_; refine AW_sr fun K h => ?_; simp (maxSteps := 9999999) [go_sem, F]; refine h _ ?_; refine AW_if hM (fun h4 hM => ?_) (fun h4 hM => ?_)
    · have g := h4; (try simp at g); have F := And.intro F (And.intro h4 (And.intro g (lT h4))); refine AW_sr fun K h => ?_; simp (maxSteps := 9999999) [go_sem, F]; refine h _ ?_; obtain rfl := si hM; refine AW_ret ?_; simp (maxSteps := 9999999) [go_sem, F]
    · have g := h4; (try simp at g); have F := And.intro F (And.intro h4 (And.intro g (lF h4))); refine AW_skip ?_; refine hK3 _ ?_; refine AW_sr fun K h => ?_; simp (maxSteps := 9999999) [go_sem, F]; refine h _ ?_; obtain ⟨x1, e5, hM⟩ := bind_some hM; refine AW_sr fun K h => ?_; simp (maxSteps := 9999999) [go_sem, F]; refine by_c true (w_szValue_ctr k a0 1048576 x1 e5) ?_; simp (maxSteps := 9999999) [go_sem, F]
      refine h _ ?_; refine AW_seq fun K6 hK6 => ?_; refine AW_sr fun K h => ?_; simp (maxSteps := 9999999) [go_sem, F]; refine h _ ?_; refine AW_if hM (fun h7 hM => ?_) (fun h7 hM => ?_)
      · have g := h7; (try simp at g); have F := And.intro F (And.intro h7 (And.intro g (lT h7))); refine AW_sr fun K h => ?_; simp (maxSteps := 9999999) [go_sem, F]; refine h _ ?_; obtain rfl := si hM; refine AW_ret ?_; simp (maxSteps := 9999999) [go_sem, F]
      · have g := h7; (try simp at g); have F := And.intro F (And.intro h7 (And.intro g (lF h7))); refine AW_skip ?_; refine hK6 _ ?_; obtain ⟨x2, e8, hM⟩ := bind_some hM; obtain ⟨x3, e9, hM⟩ := bind_some hM; refine AW_sr fun K h => ?_; simp (maxSteps := 9999999) [go_sem, F]; refine by_c true (w_toValue_ctr k a0 x2 e8) ?_; simp (maxSteps := 9999999) [go_sem, F]; refine by_c true (s_PointsOf_ctr k x2 a1 a2 a3 a4 x3 e9) ?_
        simp (maxSteps := 9999999) [go_sem, F]; refine h _ ?_; obtain ⟨x4, e10, hM⟩ := bind_some hM; refine AW_sr fun K h => ?_; simp (maxSteps := 9999999) [go_sem, F]; refine by_c true (w_toValue_ctr k a0 x4 e10) ?_; simp (maxSteps := 9999999) [go_sem, F]; refine h _ ?_; obtain ⟨x5, e11, hM⟩ := bind_some hM; refine AW_sr fun K h => ?_; simp (maxSteps := 9999999) [go_sem, F]; refine by_c true (i_PointsOf_ctr k x4 a1 a2 a3 a4 x5 e11) ?_
        simp (maxSteps := 9999999) [go_sem, F]; refine h _ ?_; refine AW_seq fun K12 hK12 => ?_; obtain ⟨e13, hU15, hR14⟩ := bind_some hM; clear hM; refine AW_mid (ι := Bool) (fun i => ⟨122, [(1, .one (.l (.str a1))), (2, .one (.l (.str a2))), (3, .one (.l (.int .i64 a3))), (4, .one (.l (.int .i64 a4))), (5, .one (.box 5 0)), (12, .one (.box 12 0)), (13, .one (.l (.bool x3.2))), (14, .one (.box 14 0)), (15, .one (.box 15 0)), (16, .one (.l (.bool x5.2))), (62, .one (.l (.bool i)))], [(5, [.l (.int .i64 a0.kind), .l (.int .i64 a0.n), .l (.int .i64 a0.step), .l (.str a0.text), .l (.sl (a0.list.map TValue.c)), .l (.sl (a0.columns.map sC)), .l (.sl (a0.rows.map TRow.c))]), (12, [.l (.int .i64 x3.1.w), .l (.int .i64 x3.1.h), .own 1002560 x3.1.marks.length]), (14, [.l (.int .i64 x4.kind), .l (.int .i64 x4.n), .l (.int .i64 x4.step), .l (.str x4.text), .own 1002816 x4.list.length, .own 1002817 x4.columns.length, .own 1002818 x4.rows.length]), (15, [.l (.int .i64 x5.1.w), .l (.int .i64 x5.1.h), .own 1003264 x5.1.marks.length])], [(1002560, some ⟨true, x3.1.marks.map TMark.c⟩), (1002816, some ⟨true, x4.list.map TValue.c⟩), (1002817, some ⟨true, x4.columns.map sC⟩), (1002818, some ⟨true, x4.rows.map TRow.c⟩), (1003264, some ⟨true, x5.1.marks.map TMark.c⟩)]⟩) (fun i => i = e13) ?_ ?_
        · intro K16 hK16; have hM := hU15; clear hU15; refine AW_fz (σ' := ⟨122, [(1, .one (.l (.str a1))), (2, .one (.l (.str a2))), (3, .one (.l (.int .i64 a3))), (4, .one (.l (.int .i64 a4))), (5, .one (.box 5 0)), (12, .one (.box 12 0)), (13, .one (.l (.bool x3.2))), (14, .one (.box 14 0)), (15, .one (.box 15 0)), (16, .one (.l (.bool x5.2)))], [(5, [.l (.int .i64 a0.kind), .l (.int .i64 a0.n), .l (.int .i64 a0.step), .l (.str a0.text), .l (.sl (a0.list.map TValue.c)), .l (.sl (a0.columns.map sC)), .l (.sl (a0.rows.map TRow.c))]), (12, [.l (.int .i64 x3.1.w), .l (.int .i64 x3.1.h), .own 1002560 x3.1.marks.length]), (14, [.l (.int .i64 x4.kind), .l (.int .i64 x4.n), .l (.int .i64 x4.step), .l (.str x4.text), .own 1002816 x4.list.length, .own 1002817 x4.columns.length, .own 1002818 x4.rows.length]), (15, [.l (.int .i64 x5.1.w), .l (.int .i64 x5.1.h), .own 1003264 x5.1.marks.length])], [(1002560, some ⟨true, x3.1.marks.map TMark.c⟩), (1002816, some ⟨true, x4.list.map TValue.c⟩), (1002817, some ⟨true, x4.columns.map sC⟩), (1002818, some ⟨true, x4.rows.map TRow.c⟩), (1003264, some ⟨true, x5.1.marks.map TMark.c⟩)]⟩) ?_
          obtain ⟨x7, e17, hM⟩ := bind_some hM; rcases ifM hM with ⟨h18, hM⟩ | ⟨h18, hM⟩
          · have g := h18; (try simp at g); have F := And.intro F (And.intro h18 g); refine AW_region ?_; simp (maxSteps := 9999999) [go_sem, F]; refine by_c true (w_eqScene_ctr k x5.1 x3.1 x7 e17) ?_; simp (maxSteps := 9999999) [go_sem, F]; obtain rfl := si hM; exact fin hK16 true rfl
          · have g := h18; (try simp at g); have F := And.intro F (And.intro h18 g); refine AW_region ?_; simp (maxSteps := 9999999) [go_sem, F]; refine by_c true (w_eqScene_ctr k x5.1 x3.1 x7 e17) ?_; simp (maxSteps := 9999999) [go_sem, F]; obtain rfl := si hM; exact fin hK16 (!(x5.2 == x3.2)) rfl
        · rintro x6 rfl; have hM := hR14; (try dsimp only at hM); refine AW_if hM (fun h19 hM => ?_) (fun h19 hM => ?_)
          · have g := h19; (try simp at g); have F := And.intro F (And.intro h19 g); refine AW_sr fun K h => ?_; simp (maxSteps := 9999999) [go_sem, F]; refine h _ ?_; obtain rfl := si hM; refine AW_ret ?_; simp (maxSteps := 9999999) [go_sem, F]
          · have g := h19; (try simp at g); have F := And.intro F (And.intro h19 g); refine AW_skip ?_; refine hK12 _ ?_; refine AW_seq fun K20 hK20 => ?_; refine AW_seq fun K21 hK21 => ?_; refine AW_fz (σ' := ⟨122, [(1, .one (.l (.str a1))), (2, .one (.l (.str a2))), (3, .one (.l (.int .i64 a3))), (4, .one (.l (.int .i64 a4))), (5, .one (.box 5 0)), (12, .one (.box 12 0)), (13, .one (.l (.bool x3.2))), (14, .one (.box 14 0)), (15, .one (.box 15 0)), (16, .one (.l (.bool x5.2)))], [(5, [.l (.int .i64 a0.kind), .l (.int .i64 a0.n), .l (.int .i64 a0.step), .l (.str a0.text), .l (.sl (a0.list.map TValue.c)), .l (.sl (a0.columns.map sC)), .l (.sl (a0.rows.map TRow.c))]), (12, [.l (.int .i64 x3.1.w), .l (.int .i64 x3.1.h), .own 1002560 x3.1.marks.length]), (14, [.l (.int .i64 x4.kind), .l (.int .i64 x4.n), .l (.int .i64 x4.step), .l (.str x4.text), .own 1002816 x4.list.length, .own 1002817 x4.columns.length, .own 1002818 x4.rows.length]), (15, [.l (.int .i64 x5.1.w), .l (.int .i64 x5.1.h), .own 1003264 x5.1.marks.length])], [(1002560, some ⟨true, x3.1.marks.map TMark.c⟩), (1002816, some ⟨true, x4.list.map TValue.c⟩), (1002817, some ⟨true, x4.columns.map sC⟩), (1002818, some ⟨true, x4.rows.map TRow.c⟩), (1003264, some ⟨true, x5.1.marks.map TMark.c⟩)]⟩) ?_
            obtain ⟨x8, e22, hM⟩ := bind_some hM; obtain ⟨x9, e23, hM⟩ := bind_some hM; refine AW_open [[], [], [1], [0, 1, 2], [0, 1, 2, 3]] mixed (by kernel_rfl) ?_; simp (maxSteps := 9999999) [go_sem, F]; refine by_c true (w_toValue_ctr k a0 x8 e22) ?_; simp (maxSteps := 9999999) [go_sem, F]; refine by_c true (w_eqValue_ctr k x4 x8 x9 e23) ?_; simp (maxSteps := 9999999) [go_sem, F]; refine ⟨dOkK_sound (by kernel_rfl), ?_⟩
            refine hK21 _ ?_; refine AW_if hM (fun h24 hM => ?_) (fun h24 hM => ?_)
            · have g := h24; (try simp at g); have F := And.intro F (And.intro h24 g); refine AW_sr fun K h => ?_; simp (maxSteps := 9999999) [go_sem, F]; refine h _ ?_; obtain rfl := si hM; refine AW_ret ?_; simp (maxSteps := 9999999) [go_sem, F]
            · have g := h24; (try simp at g); have F := And.intro F (And.intro h24 g); refine AW_skip ?_; refine hK20 _ ?_; refine AW_sr fun K h => ?_; simp (maxSteps := 9999999) [go_sem, F]; refine h _ ?_; refine AW_seq fun K25 hK25 => ?_; obtain ⟨x10, e26, hM⟩ := bind_some hM; obtain ⟨q27, q28, q29, q30⟩ := wr_spec e26; have F := And.intro F (And.intro q29 q30); have F := And.intro F (TValue.markV_len e26)
              refine AW_write hbad 2 ?_; simp (maxSteps := 9999999) [go_sem, F]; refine by_wr (mk_Value e26) (by simp (maxSteps := 9999999) [go_sem, F]) (by simp (maxSteps := 9999999) [go_sem, F]) ?_; simp (maxSteps := 9999999) [go_sem, F]; refine hK25 _ ?_; refine AW_seq fun K31 hK31 => ?_; obtain ⟨e32, hU34, hR33⟩ := bind_some hM; clear hM; refine AW_mid (ι := Bool) (fun i => ⟨122, [(1, .one (.l (.str a1))), (2, .one (.l (.str a2))), (3, .one (.l (.int .i64 a3))), (4, .one (.l (.int .i64 a4))), (5, .one (.box 5 0)), (12, .one (.box 12 0)), (13, .one (.l (.bool x3.2))), (15, .one (.box 15 0)), (83, .one (.l (.bool i)))], [(5, [.l (.int .i64 a0.kind), .l (.int .i64 a0.n), .l (.int .i64 a0.step), .l (.str a0.text), .l (.sl (a0.list.map TValue.c)), .l (.sl (a0.columns.map sC)), .l (.sl (a0.rows.map TRow.c))]), (12, [.l (.int .i64 x3.1.w), .l (.int .i64 x3.1.h), .own 1002560 x3.1.marks.length]), (15, [.l (.int .i64 x5.1.w), .l (.int .i64 x5.1.h), .own 1003264 x5.1.marks.length])], [(1002560, some ⟨true, x3.1.marks.map TMark.c⟩), (1003264, some ⟨true, x5.1.marks.map TMark.c⟩)]⟩) (fun i => i = e32) ?_ ?_
              · intro K35 hK35; have hM := hU34; clear hU34; rcases ifM hM with ⟨h36, hM⟩ | ⟨h36, hM⟩
                · have g := h36; (try simp at g); have F := And.intro F (And.intro h36 (And.intro g (lT h36))); refine AW_region ?_; simp (maxSteps := 9999999) [go_sem, F]; obtain rfl := si hM; exact fin hK35 true rfl
                · have g := h36; (try simp at g); have F := And.intro F (And.intro h36 (And.intro g (lF h36))); obtain ⟨x12, e37, hM⟩ := bind_some hM; rcases ifM hM with ⟨h38, hM⟩ | ⟨h38, hM⟩
                  · have g := h38; (try simp at g); have F := And.intro F (And.intro h38 g); refine AW_region ?_; simp (maxSteps := 9999999) [go_sem, F]; refine by_c true (w_eqScene_ctr k x5.1 x3.1 x12 e37) ?_; simp (maxSteps := 9999999) [go_sem, F]; obtain rfl := si hM; exact fin hK35 true rfl
                  · have g := h38; (try simp at g); have F := And.intro F (And.intro h38 g); refine AW_region ?_; simp (maxSteps := 9999999) [go_sem, F]; refine by_c true (w_eqScene_ctr k x5.1 x3.1 x12 e37) ?_; simp (maxSteps := 9999999) [go_sem, F]; obtain rfl := si hM; exact fin hK35 (!(x5.2 == x3.2)) rfl
              · rintro x11 rfl; have hM := hR33; (try dsimp only at hM); refine AW_if hM (fun h39 hM => ?_) (fun h39 hM => ?_)
                · have g := h39; (try simp at g); have F := And.intro F (And.intro h39 g); refine AW_sr fun K h => ?_; simp (maxSteps := 9999999) [go_sem, F]; refine h _ ?_; obtain rfl := si hM; refine AW_ret ?_; simp (maxSteps := 9999999) [go_sem, F]
                · have g := h39; (try simp at g); have F := And.intro F (And.intro h39 g); refine AW_skip ?_; refine hK31 _ ?_; refine AW_sr fun K h => ?_; simp (maxSteps := 9999999) [go_sem, F]; refine h _ ?_; refine AW_seq fun K40 hK40 => ?_; obtain ⟨x13, e41, hM⟩ := bind_some hM; obtain ⟨q42, q43, q44, q45⟩ := wr_spec e41; have F := And.intro F (And.intro q44 q45); have F := And.intro F (TScene.markV_len e41)
                  refine AW_write hbad 2 ?_; simp (maxSteps := 9999999) [go_sem, F]; refine by_wr (mk_Scene e41) (by simp (maxSteps := 9999999) [go_sem, F]) (by simp (maxSteps := 9999999) [go_sem, F]) ?_; simp (maxSteps := 9999999) [go_sem, F]; refine hK40 _ ?_; refine AW_sr fun K h => ?_; simp (maxSteps := 9999999) [go_sem, F]; refine h _ ?_; refine AW_seq fun K46 hK46 => ?_; obtain ⟨x14, e47, hM⟩ := bind_some hM
                  refine AW_region ?_; simp (maxSteps := 9999999) [go_sem, F]; refine by_c true (hd_Scene (k := 1) (y := (TScene.mk x5.1.w x5.1.h x13.1.marks)) e47 (by first | exact q42 | (rw [q42]; first | done | rfl))) ?_; simp (maxSteps := 9999999) [go_sem, F]; refine hK46 _ ?_; refine AW_seq fun K48 hK48 => ?_; refine AW_sr fun K h => ?_; simp (maxSteps := 9999999) [go_sem, F]; refine h _ ?_; refine AW_if hM (fun h49 hM => ?_) (fun h49 hM => ?_)
                  · have g := h49; (try simp at g); have F := And.intro F (And.intro h49 (And.intro g (lT h49))); refine AW_sr fun K h => ?_; simp (maxSteps := 9999999) [go_sem, F]; refine h _ ?_; obtain rfl := si hM; refine AW_ret ?_; simp (maxSteps := 9999999) [go_sem, F]
                  · have g := h49; (try simp at g); have F := And.intro F (And.intro h49 (And.intro g (lF h49))); refine AW_skip ?_; refine hK48 _ ?_; refine AW_seq fun K50 hK50 => ?_; refine AW_sr fun K h => ?_; simp (maxSteps := 9999999) [go_sem, F]; refine h _ ?_; refine AW_if hM (fun h51 hM => ?_) (fun h51 hM => ?_)
                    · have g := h51; (try simp at g); have F := And.intro F (And.intro h51 g); refine AW_sr fun K h => ?_; simp (maxSteps := 9999999) [go_sem, F]; refine h _ ?_; obtain rfl := si hM; refine AW_ret ?_; simp (maxSteps := 9999999) [go_sem, F]
                    · have g := h51; (try simp at g); have F := And.intro F (And.intro h51 g); refine AW_skip ?_; refine hK50 _ ?_; obtain ⟨x15, e52, hM⟩ := bind_some hM; obtain ⟨x16, e53, hM⟩ := bind_some hM; refine AW_sr fun K h => ?_; simp (maxSteps := 9999999) [go_sem, F]; refine by_c true (w_toValue_ctr k a0 x15 e52) ?_; simp (maxSteps := 9999999) [go_sem, F]; refine by_c true (i_PointsOf_ctr k x15 a1 a2 a3 a4 x16 e53) ?_
                      simp (maxSteps := 9999999) [go_sem, F]; refine h _ ?_; refine AW_seq fun K54 hK54 => ?_; obtain ⟨e55, hU57, hR56⟩ := bind_some hM; clear hM; refine AW_mid (ι := Bool) (fun i => ⟨122, [(15, .one (.box 15 0)), (18, .one (.l (.int .i64 x13.2))), (113, .one (.l (.bool i)))], [(15, [.l (.int .i64 x5.1.w), .l (.int .i64 x5.1.h), .l (.sl (x13.1.marks.map TMark.c))])], []⟩) (fun i => i = e55) ?_ ?_
                      · intro K58 hK58; have hM := hU57; clear hU57; obtain ⟨x18, e59, hM⟩ := bind_some hM; rcases ifM hM with ⟨h60, hM⟩ | ⟨h60, hM⟩
                        · have g := h60; (try simp at g); have F := And.intro F (And.intro h60 g); refine AW_region ?_; simp (maxSteps := 9999999) [go_sem, F]; refine by_c true (w_eqScene_ctr k x16.1 x3.1 x18 e59) ?_; simp (maxSteps := 9999999) [go_sem, F]; obtain rfl := si hM; exact fin hK58 true rfl
                        · have g := h60; (try simp at g); have F := And.intro F (And.intro h60 g); refine AW_region ?_; simp (maxSteps := 9999999) [go_sem, F]; refine by_c true (w_eqScene_ctr k x16.1 x3.1 x18 e59) ?_; simp (maxSteps := 9999999) [go_sem, F]; obtain rfl := si hM; exact fin hK58 (!(x16.2 == x3.2)) rfl
                      · rintro x17 rfl; have hM := hR56; (try dsimp only at hM); refine AW_if hM (fun h61 hM => ?_) (fun h61 hM => ?_)
                        · have g := h61; (try simp at g); have F := And.intro F (And.intro h61 g); refine AW_sr fun K h => ?_; simp (maxSteps := 9999999) [go_sem, F]; refine h _ ?_; obtain rfl := si hM; refine AW_ret ?_; simp (maxSteps := 9999999) [go_sem, F]
                        · have g := h61; (try simp at g); have F := And.intro F (And.intro h61 g); refine AW_skip ?_; refine hK54 _ ?_; refine AW_sr fun K h => ?_; simp (maxSteps := 9999999) [go_sem, F]; refine h _ ?_; refine AW_seq fun K62 hK62 => ?_; obtain ⟨x19, e63, hM⟩ := bind_some hM; refine AW_region ?_; simp (maxSteps := 9999999) [go_sem, F]; refine by_c true (hd_Scene (k := 1) (y := (TScene.mk x5.1.w x5.1.h x13.1.marks)) e63 (by first | exact q42 | (rw [q42]; first | done | rfl))) ?_
                          simp (maxSteps := 9999999) [go_sem, F]; refine hK62 _ ?_; refine AW_seq fun K64 hK64 => ?_; refine AW_sr fun K h => ?_; simp (maxSteps := 9999999) [go_sem, F]; refine h _ ?_; refine AW_if hM (fun h65 hM => ?_) (fun h65 hM => ?_)
                          · have g := h65; (try simp at g); have F := And.intro F (And.intro h65 (And.intro g (lT h65))); refine AW_sr fun K h => ?_; simp (maxSteps := 9999999) [go_sem, F]; refine h _ ?_; obtain rfl := si hM; refine AW_ret ?_; simp (maxSteps := 9999999) [go_sem, F]
                          · have g := h65; (try simp at g); have F := And.intro F (And.intro h65 (And.intro g (lF h65))); refine AW_skip ?_; refine hK64 _ ?_; refine AW_seq fun K66 hK66 => ?_; refine AW_sr fun K h => ?_; simp (maxSteps := 9999999) [go_sem, F]; refine h _ ?_; refine AW_if hM (fun h67 hM => ?_) (fun h67 hM => ?_)
                            · have g := h67; (try simp at g); have F := And.intro F (And.intro h67 g); refine AW_sr fun K h => ?_; simp (maxSteps := 9999999) [go_sem, F]; refine h _ ?_; obtain rfl := si hM; refine AW_ret ?_; simp (maxSteps := 9999999) [go_sem, F]
                            · have g := h67; (try simp at g); have F := And.intro F (And.intro h67 g); refine AW_skip ?_; refine hK66 _ ?_; refine AW_sr fun K h => ?_; simp (maxSteps := 9999999) [go_sem, F]; refine h _ ?_; obtain rfl := si hM; refine AW_ret ?_; simp (maxSteps := 9999999) [go_sem, F]
end Go.Proofs.Ytmiboaogfjgkjaa
