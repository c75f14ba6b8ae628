/- The law FnExactCellLine: its mirrored function, and its contract. Written by a program of mine. -/
import Derived.Test.YtmiboaogfjgkjaaDoorWn
import Derived.Test.YtmiboaogfjgkjaaDoorCt2
import Derived.Test.YtmiboaogfjgkjaaDoorCt4
import Derived.Test.YtmiboaogfjgkjaaDoorCtA0
import Derived.Test.YtmiboaogfjgkjaaDoorCtA1
import Derived.Test.YtmiboaogfjgkjaaDoorCtA2
set_option linter.unusedSimpArgs false
set_option linter.unusedVariables false
namespace Go.Proofs.YtmiboaogfjgkjaaDoor
open Go.RowKit Am
def w_FnExactCellLine (k : Nat) (a0 : TCell) (a1 : TValue) (a2 : Bool) : Option Bool :=
  (w_szCell a0 1048576).bind fun x1 =>
  if (decide (x1 < 0)) then
    some true
  else
    (w_szValue k a1 x1).bind fun x2 =>
    if (decide (x2 < 0)) then
      some true
    else
      (w_toCell a0).bind fun x3 =>
      (w_toValue k a1).bind fun x4 =>
      (s_CellLine k x3 x4 a2).bind fun x5 =>
      (w_toValue k a1).bind fun x6 =>
      (w_toCell a0).bind fun x7 =>
      (i_CellLine k x7 x6 a2).bind fun x8 =>
      (w_eqLine x8 x5).bind fun x9 =>
      if (!x9) then
        some false
      else
        (w_toValue k a1).bind fun x10 =>
        (w_eqValue k x6 x10).bind fun x11 =>
        if (!x11) then
          some false
        else
          some true
set_option maxHeartbeats 4000000 in
set_option maxRecDepth 100000 in
theorem w_FnExactCellLine_ctr (k : Nat) (a0 : TCell) (a1 : TValue) (a2 : Bool) (r : Bool) (hM : w_FnExactCellLine k a0 a1 a2 = some r) : Ctr Tryd.prog 4 [.agg (TCell.c a0), .agg (TValue.c a1), .one (.bool a2)] true [.one (.bool r)] := by
  unfold w_FnExactCellLine at hM
  refine walkM Tryd.func4 Tryd.ntmps4 Tryd.results4 fun N w0 hbad F => ?_
  refine AW_sr fun K h => ?_; simp (maxSteps := 9999999) [go_sem, F]; refine h _ ?_; refine AW_sr fun K h => ?_; simp (maxSteps := 9999999) [go_sem, F]; refine h _ ?_; obtain ⟨x1, e1, hM⟩ := bind_some hM; refine AW_sr fun K h => ?_; simp (maxSteps := 9999999) [go_sem, F]; refine by_c false (w_szCell_ctr a0 1048576 x1 e1) ?_; simp (maxSteps := 9999999) [go_sem, F]; refine h _ ?_; refine AW_seq fun K2 hK2 => ?_
  refine AW_sr fun K h => ?_; simp (maxSteps := 9999999) [go_sem, F]; refine h _ ?_; refine AW_if hM (fun h3 hM => ?_) (fun h3 hM => ?_)
  · have g := h3; (try simp at g); have F := And.intro F (And.intro h3 (And.intro g (lT h3))); refine AW_sr fun K h => ?_; simp (maxSteps := 9999999) [go_sem, F]; refine h _ ?_; obtain rfl := si hM; refine AW_ret ?_; simp (maxSteps := 9999999) [go_sem, F]
  · have g := h3; (try simp at g); have F := And.intro F (And.intro h3 (And.intro g (lF h3))); refine AW_skip ?_; refine hK2 _ ?_; obtain ⟨x2, e4, hM⟩ := bind_some hM; refine AW_sr fun K h => ?_; simp (maxSteps := 9999999) [go_sem, F]; refine by_c false (w_szValue_ctr k a1 x1 x2 e4) ?_; simp (maxSteps := 9999999) [go_sem, F]; refine h _ ?_; refine AW_seq fun K5 hK5 => ?_; refine AW_sr fun K h => ?_
    simp (maxSteps := 9999999) [go_sem, F]; refine h _ ?_; refine AW_if hM (fun h6 hM => ?_) (fun h6 hM => ?_)
    · have g := h6; (try simp at g); have F := And.intro F (And.intro h6 (And.intro g (lT h6))); refine AW_sr fun K h => ?_; simp (maxSteps := 9999999) [go_sem, F]; refine h _ ?_; obtain rfl := si hM; refine AW_ret ?_; simp (maxSteps := 9999999) [go_sem, F]
    · have g := h6; (try simp at g); have F := And.intro F (And.intro h6 (And.intro g (lF h6))); refine AW_skip ?_; refine hK5 _ ?_; refine AW_seq fun K7 hK7 => ?_; refine AW_fz (σ' := ⟨43, [(2, .one (.l (.bool a2))), (3, .one (.box 3 0)), (4, .one (.box 4 0))], [(3, [.l (.int .i64 a0.id), .l (.int .i64 a0.version), .l (.int .i64 a0.kind), .l (.str a0.name), .l (.str a0.code), .l (.int .i64 a0.n)]), (4, [.l (.int .i64 a1.kind), .l (.int .i64 a1.n), .l (.int .i64 a1.step), .l (.str a1.text), .l (.sl (a1.list.map TValue.c)), .l (.sl (a1.columns.map sC)), .l (.sl (a1.rows.map TRow.c))])], []⟩) ?_
      obtain ⟨x3, e8, hM⟩ := bind_some hM; obtain ⟨x4, e9, hM⟩ := bind_some hM; obtain ⟨x5, e10, hM⟩ := bind_some hM; refine AW_open [[], [0], [], [0, 1, 2], [], [0, 1, 2, 3, 4], [], [0, 1, 2, 3, 4, 5, 6]] mixed (by kernel_rfl) ?_; simp (maxSteps := 9999999) [go_sem, F]; refine by_c false (w_toCell_ctr a0 x3 e8) ?_; simp (maxSteps := 9999999) [go_sem, F]; refine by_c false (w_toValue_ctr k a1 x4 e9) ?_
      simp (maxSteps := 9999999) [go_sem, F]; refine by_c false (s_CellLine_ctr k x3 x4 a2 x5 e10) ?_; simp (maxSteps := 9999999) [go_sem, F]; refine ⟨dOkK_sound (by kernel_rfl), ?_⟩; refine hK7 _ ?_; obtain ⟨x6, e11, hM⟩ := bind_some hM; refine AW_sr fun K h => ?_; simp (maxSteps := 9999999) [go_sem, F]; refine by_c false (w_toValue_ctr k a1 x6 e11) ?_; simp (maxSteps := 9999999) [go_sem, F]; refine h _ ?_
      refine AW_seq fun K12 hK12 => ?_; refine AW_fz (σ' := ⟨43, [(2, .one (.l (.bool a2))), (3, .one (.box 3 0)), (4, .one (.box 4 0)), (8, .one (.box 8 0)), (9, .one (.box 9 0))], [(3, [.l (.int .i64 a0.id), .l (.int .i64 a0.version), .l (.int .i64 a0.kind), .l (.str a0.name), .l (.str a0.code), .l (.int .i64 a0.n)]), (4, [.l (.int .i64 a1.kind), .l (.int .i64 a1.n), .l (.int .i64 a1.step), .l (.str a1.text), .l (.sl (a1.list.map TValue.c)), .l (.sl (a1.columns.map sC)), .l (.sl (a1.rows.map TRow.c))]), (8, [.l (.int .i64 x5.cell), .l (.bool x5.fresh), .l (.str x5.text)]), (9, [.l (.int .i64 x6.kind), .l (.int .i64 x6.n), .l (.int .i64 x6.step), .l (.str x6.text), .own 1792 x6.list.length, .own 1793 x6.columns.length, .own 1794 x6.rows.length])], [(1792, some ⟨true, x6.list.map TValue.c⟩), (1793, some ⟨true, x6.columns.map sC⟩), (1794, some ⟨true, x6.rows.map TRow.c⟩)]⟩) ?_
      obtain ⟨x7, e13, hM⟩ := bind_some hM; obtain ⟨x8, e14, hM⟩ := bind_some hM; refine AW_open [[], [0], [], [], [0, 1, 2, 3], [], [0, 1, 2, 3, 4, 5]] mixed (by kernel_rfl) ?_; simp (maxSteps := 9999999) [go_sem, F]; refine by_c false (w_toCell_ctr a0 x7 e13) ?_; simp (maxSteps := 9999999) [go_sem, F]; refine by_c false (i_CellLine_ctr k x7 x6 a2 x8 e14) ?_; simp (maxSteps := 9999999) [go_sem, F]
      refine ⟨dOkK_sound (by kernel_rfl), ?_⟩; refine hK12 _ ?_; refine AW_seq fun K15 hK15 => ?_; obtain ⟨x9, e16, hM⟩ := bind_some hM; refine AW_sr fun K h => ?_; simp (maxSteps := 9999999) [go_sem, F]; refine by_c false (w_eqLine_ctr x8 x5 x9 e16) ?_; simp (maxSteps := 9999999) [go_sem, F]; refine h _ ?_; refine AW_if hM (fun h17 hM => ?_) (fun h17 hM => ?_)
      · have g := h17; (try simp at g); have F := And.intro F (And.intro h17 g); refine AW_sr fun K h => ?_; simp (maxSteps := 9999999) [go_sem, F]; refine h _ ?_; obtain rfl := si hM; refine AW_ret ?_; simp (maxSteps := 9999999) [go_sem, F]
      · have g := h17; (try simp at g); have F := And.intro F (And.intro h17 g); refine AW_skip ?_; refine hK15 _ ?_; refine AW_seq fun K18 hK18 => ?_; refine AW_seq fun K19 hK19 => ?_; refine AW_fz (σ' := ⟨43, [(4, .one (.box 4 0)), (9, .one (.box 9 0))], [(4, [.l (.int .i64 a1.kind), .l (.int .i64 a1.n), .l (.int .i64 a1.step), .l (.str a1.text), .l (.sl (a1.list.map TValue.c)), .l (.sl (a1.columns.map sC)), .l (.sl (a1.rows.map TRow.c))]), (9, [.l (.int .i64 x6.kind), .l (.int .i64 x6.n), .l (.int .i64 x6.step), .l (.str x6.text), .own 1792 x6.list.length, .own 1793 x6.columns.length, .own 1794 x6.rows.length])], [(1792, some ⟨true, x6.list.map TValue.c⟩), (1793, some ⟨true, x6.columns.map sC⟩), (1794, some ⟨true, x6.rows.map TRow.c⟩)]⟩) ?_
        obtain ⟨x10, e20, hM⟩ := bind_some hM; obtain ⟨x11, e21, hM⟩ := bind_some hM; refine AW_open [[], [], [1], [0, 1, 2], [0, 1, 2, 3]] mixed (by kernel_rfl) ?_; simp (maxSteps := 9999999) [go_sem, F]; refine by_c false (w_toValue_ctr k a1 x10 e20) ?_; simp (maxSteps := 9999999) [go_sem, F]; refine by_c false (w_eqValue_ctr k x6 x10 x11 e21) ?_; simp (maxSteps := 9999999) [go_sem, F]; refine ⟨dOkK_sound (by kernel_rfl), ?_⟩
        refine hK19 _ ?_; refine AW_if hM (fun h22 hM => ?_) (fun h22 hM => ?_)
        · have g := h22; (try simp at g); have F := And.intro F (And.intro h22 g); refine AW_sr fun K h => ?_; simp (maxSteps := 9999999) [go_sem, F]; refine h _ ?_; obtain rfl := si hM; refine AW_ret ?_; simp (maxSteps := 9999999) [go_sem, F]
        · have g := h22; (try simp at g); have F := And.intro F (And.intro h22 g); refine AW_skip ?_; refine hK18 _ ?_; refine AW_sr fun K h => ?_; simp (maxSteps := 9999999) [go_sem, F]; refine h _ ?_; obtain rfl := si hM; refine AW_ret ?_; simp (maxSteps := 9999999) [go_sem, F]
end Go.Proofs.YtmiboaogfjgkjaaDoor
