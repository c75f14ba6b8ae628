/- The law FnTables: its mirrored function, and its contract. Written by a program of mine. -/
import Derived.Test.YtbknilpmpjjfpaaWn
import Derived.Test.YtbknilpmpjjfpaaCt0
import Derived.Test.YtbknilpmpjjfpaaCt4
import Derived.Test.YtbknilpmpjjfpaaCt5
import Derived.Test.YtbknilpmpjjfpaaCt6
import Derived.Test.YtbknilpmpjjfpaaCt7
set_option linter.unusedSimpArgs false
set_option linter.unusedVariables false
namespace Go.Proofs.Ytbknilpmpjjfpaa
open Go.RowKit Am
def w_FnTables_u1 (k : Nat) (x2 : TValue × TValue × TValue) (x3 : TValue) (x8 : Int) : Nat → Int → Option (Unit ⊕ Bool)
  | 0, _ => none
  | n_ + 1, x9 =>
    if (decide (x9 < (x3.rows.length : Int))) then
      ((at? x3.rows x9).bind fun x11 =>
      (at? x11.cells x8).bind fun x12 =>
      if (!decide (x12 = x2.2.1.n)) then
        some true
      else
        (s_HasRow k x2.2.2 x11).bind fun x13 =>
        some (!x13)).bind fun x10 =>
      if x10 then
        some (.inr false)
      else
        w_FnTables_u1 k x2 x3 x8 n_ (IntKind.i64.wrap (x9 + 1))
    else
      some (.inl ())
def w_FnTables (k : Nat) (a0 : List Int) : Option Bool :=
  (w_big a0).bind fun x1 =>
  if x1 then
    some true
  else
    (s_DrawWhereEqual k a0).bind fun x2 =>
    (i_WhereEqual k x2.1 x2.2.1 x2.2.2).bind fun x3 =>
    ((s_WhereEqual k x2.1 x2.2.1 x2.2.2).bind fun x5 =>
    (s_EqualValue k x3 x5).bind fun x6 =>
    if (!x6) then
      some true
    else
      (s_IsValidValue k x3).bind fun x7 =>
      some (!x7)).bind fun x4 =>
    if x4 then
      some false
    else
      if (!decide (x3.kind = 5)) then
        some (decide (x3.kind = 6))
      else
        (i_ColumnIndex k x2.2.2 x2.1.text).bind fun x8 =>
        (w_FnTables_u1 k x2 x3 x8 k 0 : Option (Unit ⊕ Bool)).bind fun
          | .inl _ => (
            (i_WhereEqual k x2.1 x2.2.1 x3).bind fun x14 =>
            (s_EqualValue k x14 x3).bind fun x15 =>
            some x15)
          | .inr z16 => (
            some z16)
set_option maxHeartbeats 4000000 in
set_option maxRecDepth 100000 in
theorem w_FnTables_ctr (k : Nat) (a0 : List Int) (r : Bool) (hM : w_FnTables k a0 = some r) : Ctr Try.prog 5 [.one (.sl (a0.map uC))] true [.one (.bool r)] := by
  unfold w_FnTables at hM
  refine walkM Try.func5 Try.ntmps5 Try.results5 fun N w0 hbad F => ?_
  refine AW_sr fun K h => ?_; simp (maxSteps := 9999999) [go_sem, F]; refine h _ ?_; refine AW_seq fun K1 hK1 => ?_; obtain ⟨x1, e2, hM⟩ := bind_some hM; refine AW_sr fun K h => ?_; simp (maxSteps := 9999999) [go_sem, F]; refine by_c false (w_big_ctr a0 x1 e2) ?_; simp (maxSteps := 9999999) [go_sem, F]; refine h _ ?_; refine AW_if hM (fun h3 hM => ?_) (fun h3 hM => ?_)
  · have g := h3; (try simp at g); have F := And.intro F (And.intro h3 g); refine AW_sr fun K h => ?_; simp (maxSteps := 9999999) [go_sem, F]; refine h _ ?_; obtain rfl := si hM; refine AW_ret ?_; simp (maxSteps := 9999999) [go_sem, F]
  · have g := h3; (try simp at g); have F := And.intro F (And.intro h3 g); refine AW_skip ?_; refine hK1 _ ?_; obtain ⟨x2, e4, hM⟩ := bind_some hM; refine AW_sr fun K h => ?_; simp (maxSteps := 9999999) [go_sem, F]; refine by_c false (s_DrawWhereEqual_ctr k a0 x2 e4) ?_; simp (maxSteps := 9999999) [go_sem, F]; refine h _ ?_; obtain ⟨x3, e5, hM⟩ := bind_some hM; refine AW_sr fun K h => ?_; simp (maxSteps := 9999999) [go_sem, F]
    refine by_c false (i_WhereEqual_ctr k x2.1 x2.2.1 x2.2.2 x3 e5) ?_; simp (maxSteps := 9999999) [go_sem, F]; refine h _ ?_; refine AW_seq fun K6 hK6 => ?_; obtain ⟨e7, hU9, hR8⟩ := bind_some hM; clear hM; refine AW_mid (ι := Bool) (fun i => ⟨78, [(3, .one (.box 3 0)), (4, .one (.box 4 0)), (5, .one (.box 5 0)), (6, .one (.box 6 0)), (32, .one (.l (.bool i)))], [(3, [.l (.int .i64 x2.1.kind), .l (.int .i64 x2.1.n), .l (.int .i64 x2.1.step), .l (.str x2.1.text), .l (.sl (x2.1.list.map TValue.c)), .l (.sl (x2.1.columns.map sC)), .l (.sl (x2.1.rows.map TRow.c))]), (4, [.l (.int .i64 x2.2.1.kind), .l (.int .i64 x2.2.1.n), .l (.int .i64 x2.2.1.step), .l (.str x2.2.1.text), .l (.sl (x2.2.1.list.map TValue.c)), .l (.sl (x2.2.1.columns.map sC)), .l (.sl (x2.2.1.rows.map TRow.c))]), (5, [.l (.int .i64 x2.2.2.kind), .l (.int .i64 x2.2.2.n), .l (.int .i64 x2.2.2.step), .l (.str x2.2.2.text), .l (.sl (x2.2.2.list.map TValue.c)), .l (.sl (x2.2.2.columns.map sC)), .l (.sl (x2.2.2.rows.map TRow.c))]), (6, [.l (.int .i64 x3.kind), .l (.int .i64 x3.n), .l (.int .i64 x3.step), .l (.str x3.text), .l (.sl (x3.list.map TValue.c)), .l (.sl (x3.columns.map sC)), .l (.sl (x3.rows.map TRow.c))])], []⟩) (fun i => i = e7) ?_ ?_
    · intro K10 hK10; have hM := hU9; clear hU9; refine AW_fz (σ' := ⟨78, [(3, .one (.box 3 0)), (4, .one (.box 4 0)), (5, .one (.box 5 0)), (6, .one (.box 6 0))], [(3, [.l (.int .i64 x2.1.kind), .l (.int .i64 x2.1.n), .l (.int .i64 x2.1.step), .l (.str x2.1.text), .l (.sl (x2.1.list.map TValue.c)), .l (.sl (x2.1.columns.map sC)), .l (.sl (x2.1.rows.map TRow.c))]), (4, [.l (.int .i64 x2.2.1.kind), .l (.int .i64 x2.2.1.n), .l (.int .i64 x2.2.1.step), .l (.str x2.2.1.text), .l (.sl (x2.2.1.list.map TValue.c)), .l (.sl (x2.2.1.columns.map sC)), .l (.sl (x2.2.1.rows.map TRow.c))]), (5, [.l (.int .i64 x2.2.2.kind), .l (.int .i64 x2.2.2.n), .l (.int .i64 x2.2.2.step), .l (.str x2.2.2.text), .l (.sl (x2.2.2.list.map TValue.c)), .l (.sl (x2.2.2.columns.map sC)), .l (.sl (x2.2.2.rows.map TRow.c))]), (6, [.l (.int .i64 x3.kind), .l (.int .i64 x3.n), .l (.int .i64 x3.step), .l (.str x3.text), .l (.sl (x3.list.map TValue.c)), .l (.sl (x3.columns.map sC)), .l (.sl (x3.rows.map TRow.c))])], []⟩) ?_
      obtain ⟨x5, e11, hM⟩ := bind_some hM; obtain ⟨x6, e12, hM⟩ := bind_some hM; rcases ifM hM with ⟨h13, hM⟩ | ⟨h13, hM⟩
      · have g := h13; (try simp at g); have F := And.intro F (And.intro h13 g); refine AW_open [[], [], [], [], [1, 2, 3], [0, 1, 2, 3, 4], [0, 1, 2, 3, 4, 5], [0, 1, 2, 3, 4, 5, 6], [0, 1, 2, 3, 4, 5, 6, 7], [0, 1, 2, 3, 4, 5, 6, 7, 8], [0, 1, 2, 3, 4, 5, 6, 7, 8, 9], [0, 1, 2, 3, 4, 5, 6, 7, 8, 9, 10]] mixed (by kernel_rfl) ?_; simp (maxSteps := 9999999) [go_sem, F]; refine by_c false (s_WhereEqual_ctr k x2.1 x2.2.1 x2.2.2 x5 e11) ?_
        simp (maxSteps := 9999999) [go_sem, F]; refine by_c false (s_EqualValue_ctr k x3 x5 x6 e12) ?_; simp (maxSteps := 9999999) [go_sem, F]; refine ⟨dOkK_sound (by kernel_rfl), ?_⟩; obtain rfl := si hM; exact fin hK10 true rfl
      · have g := h13; (try simp at g); have F := And.intro F (And.intro h13 g); obtain ⟨x7, e14, hM⟩ := bind_some hM; refine AW_open [[], [], [], [], [1, 2, 3], [0, 1, 2, 3, 4], [0, 1, 2, 3, 4, 5], [0, 1, 2, 3, 4, 5, 6], [0, 1, 2, 3, 4, 5, 6, 7], [0, 1, 2, 3, 4, 5, 6, 7, 8], [0, 1, 2, 3, 4, 5, 6, 7, 8, 9], [0, 1, 2, 3, 4, 5, 6, 7, 8, 9, 10]] mixed (by kernel_rfl) ?_; simp (maxSteps := 9999999) [go_sem, F]
        refine by_c false (s_WhereEqual_ctr k x2.1 x2.2.1 x2.2.2 x5 e11) ?_; simp (maxSteps := 9999999) [go_sem, F]; refine by_c false (s_EqualValue_ctr k x3 x5 x6 e12) ?_; simp (maxSteps := 9999999) [go_sem, F]; refine by_c false (s_IsValidValue_ctr k x3 x7 e14) ?_; simp (maxSteps := 9999999) [go_sem, F]; refine ⟨dOkK_sound (by kernel_rfl), ?_⟩; obtain rfl := si hM; exact fin hK10 (!x7) rfl
    · rintro x4 rfl; have hM := hR8; (try dsimp only at hM); refine AW_if hM (fun h15 hM => ?_) (fun h15 hM => ?_)
      · have g := h15; (try simp at g); have F := And.intro F (And.intro h15 g); refine AW_sr fun K h => ?_; simp (maxSteps := 9999999) [go_sem, F]; refine h _ ?_; obtain rfl := si hM; refine AW_ret ?_; simp (maxSteps := 9999999) [go_sem, F]
      · have g := h15; (try simp at g); have F := And.intro F (And.intro h15 g); refine AW_skip ?_; refine hK6 _ ?_; refine AW_seq fun K16 hK16 => ?_; refine AW_sr fun K h => ?_; simp (maxSteps := 9999999) [go_sem, F]; refine h _ ?_; refine AW_if hM (fun h17 hM => ?_) (fun h17 hM => ?_)
        · have g := h17; (try simp at g); have F := And.intro F (And.intro h17 g); refine AW_sr fun K h => ?_; simp (maxSteps := 9999999) [go_sem, F]; refine h _ ?_; obtain rfl := si hM; refine AW_ret ?_; simp (maxSteps := 9999999) [go_sem, F]
        · have g := h17; (try simp at g); have F := And.intro F (And.intro h17 g); refine AW_skip ?_; refine hK16 _ ?_; obtain ⟨x8, e18, hM⟩ := bind_some hM; refine AW_sr fun K h => ?_; simp (maxSteps := 9999999) [go_sem, F]; refine by_c false (i_ColumnIndex_ctr k x2.2.2 x2.1.text x8 e18) ?_; simp (maxSteps := 9999999) [go_sem, F]; refine h _ ?_; obtain ⟨e19, hU21, hR20⟩ := bind_some hM; clear hM; refine AW_mid (ι := Unit) (fun i => ⟨78, [(3, .one (.box 3 0)), (4, .one (.box 4 0)), (6, .one (.box 6 0))], [(3, [.l (.int .i64 x2.1.kind), .l (.int .i64 x2.1.n), .l (.int .i64 x2.1.step), .l (.str x2.1.text), .l (.sl (x2.1.list.map TValue.c)), .l (.sl (x2.1.columns.map sC)), .l (.sl (x2.1.rows.map TRow.c))]), (4, [.l (.int .i64 x2.2.1.kind), .l (.int .i64 x2.2.1.n), .l (.int .i64 x2.2.1.step), .l (.str x2.2.1.text), .l (.sl (x2.2.1.list.map TValue.c)), .l (.sl (x2.2.1.columns.map sC)), .l (.sl (x2.2.1.rows.map TRow.c))]), (6, [.l (.int .i64 x3.kind), .l (.int .i64 x3.n), .l (.int .i64 x3.step), .l (.str x3.text), .l (.sl (x3.list.map TValue.c)), .l (.sl (x3.columns.map sC)), .l (.sl (x3.rows.map TRow.c))])], []⟩) (fun i => (.inl i) = e19) ?_ ?_
          · intro K22 hK22; have hM := hU21; clear hU21; refine AW_sr fun K h => ?_; simp (maxSteps := 9999999) [go_sem, F]; refine h _ ?_; refine AW_block ?_; refine AW_lp (ι := Int) (fun i => ⟨78, [(3, .one (.box 3 0)), (4, .one (.box 4 0)), (5, .one (.box 5 0)), (6, .one (.box 6 0)), (7, .one (.l (.int .i64 x8))), (8, .one (.l (.int .i64 i)))], [(3, [.l (.int .i64 x2.1.kind), .l (.int .i64 x2.1.n), .l (.int .i64 x2.1.step), .l (.str x2.1.text), .l (.sl (x2.1.list.map TValue.c)), .l (.sl (x2.1.columns.map sC)), .l (.sl (x2.1.rows.map TRow.c))]), (4, [.l (.int .i64 x2.2.1.kind), .l (.int .i64 x2.2.1.n), .l (.int .i64 x2.2.1.step), .l (.str x2.2.1.text), .l (.sl (x2.2.1.list.map TValue.c)), .l (.sl (x2.2.1.columns.map sC)), .l (.sl (x2.2.1.rows.map TRow.c))]), (5, [.l (.int .i64 x2.2.2.kind), .l (.int .i64 x2.2.2.n), .l (.int .i64 x2.2.2.step), .l (.str x2.2.2.text), .l (.sl (x2.2.2.list.map TValue.c)), .l (.sl (x2.2.2.columns.map sC)), .l (.sl (x2.2.2.rows.map TRow.c))]), (6, [.l (.int .i64 x3.kind), .l (.int .i64 x3.n), .l (.int .i64 x3.step), .l (.str x3.text), .l (.sl (x3.list.map TValue.c)), .l (.sl (x3.columns.map sC)), .l (.sl (x3.rows.map TRow.c))])], []⟩) (fun n i => w_FnTables_u1 k x2 x3 x8 n i = some e19) k 0 hM (by simp [w_FnTables_u1]) ?_
            intro KL23 n x9 hL23 hM F; have hM : w_FnTables_u1 k x2 x3 x8 (n + 1) x9 = some e19 := hM; rw [w_FnTables_u1] at hM; refine AW_seq fun K24 hK24 => ?_; refine AW_sr fun K h => ?_; simp (maxSteps := 9999999) [go_sem, F]; refine h _ ?_; refine AW_if hM (fun h25 hM => ?_) (fun h25 hM => ?_)
            · have g := h25; (try simp at g); have F := And.intro F (And.intro h25 (And.intro g (lT h25))); refine AW_skip ?_; refine hK24 _ ?_; refine AW_seq fun K26 hK26 => ?_; refine AW_block ?_; obtain ⟨e27, hU29, hR28⟩ := bind_some hM; clear hM; refine AW_mid (ι := Bool) (fun i => ⟨78, [(3, .one (.box 3 0)), (4, .one (.box 4 0)), (5, .one (.box 5 0)), (6, .one (.box 6 0)), (7, .one (.l (.int .i64 x8))), (8, .one (.l (.int .i64 x9))), (71, .one (.l (.bool i)))], [(3, [.l (.int .i64 x2.1.kind), .l (.int .i64 x2.1.n), .l (.int .i64 x2.1.step), .l (.str x2.1.text), .l (.sl (x2.1.list.map TValue.c)), .l (.sl (x2.1.columns.map sC)), .l (.sl (x2.1.rows.map TRow.c))]), (4, [.l (.int .i64 x2.2.1.kind), .l (.int .i64 x2.2.1.n), .l (.int .i64 x2.2.1.step), .l (.str x2.2.1.text), .l (.sl (x2.2.1.list.map TValue.c)), .l (.sl (x2.2.1.columns.map sC)), .l (.sl (x2.2.1.rows.map TRow.c))]), (5, [.l (.int .i64 x2.2.2.kind), .l (.int .i64 x2.2.2.n), .l (.int .i64 x2.2.2.step), .l (.str x2.2.2.text), .l (.sl (x2.2.2.list.map TValue.c)), .l (.sl (x2.2.2.columns.map sC)), .l (.sl (x2.2.2.rows.map TRow.c))]), (6, [.l (.int .i64 x3.kind), .l (.int .i64 x3.n), .l (.int .i64 x3.step), .l (.str x3.text), .l (.sl (x3.list.map TValue.c)), .l (.sl (x3.columns.map sC)), .l (.sl (x3.rows.map TRow.c))])], []⟩) (fun i => i = e27) ?_ ?_
              · intro K30 hK30; have hM := hU29; clear hU29; obtain ⟨x11, e31, hM⟩ := bind_some hM; have F := And.intro F (at_f e31); obtain ⟨x12, e32, hM⟩ := bind_some hM; have F := And.intro F (at_f e32); rcases ifM hM with ⟨h33, hM⟩ | ⟨h33, hM⟩
                · have g := h33; (try simp at g); have F := And.intro F (And.intro h33 g); refine AW_quickN 19 mixed (by kernel_rfl) (by kernel_rfl) ?_; simp (maxSteps := 9999999) [go_sem, F]; obtain rfl := si hM; exact fin hK30 true rfl
                · have g := h33; (try simp at g); have F := And.intro F (And.intro h33 g); obtain ⟨x13, e34, hM⟩ := bind_some hM; refine AW_quickN 19 mixed (by kernel_rfl) (by kernel_rfl) ?_; simp (maxSteps := 9999999) [go_sem, F]; refine by_c false (s_HasRow_ctr k x2.2.2 x11 x13 e34) ?_; simp (maxSteps := 9999999) [go_sem, F]; obtain rfl := si hM; exact fin hK30 (!x13) rfl
              · rintro x10 rfl; have hM := hR28; (try dsimp only at hM); refine AW_if hM (fun h35 hM => ?_) (fun h35 hM => ?_)
                · have g := h35; (try simp at g); have F := And.intro F (And.intro h35 g); refine AW_sr fun K h => ?_; simp (maxSteps := 9999999) [go_sem, F]; refine h _ ?_; obtain rfl := si hM; have hM := hR20; dsimp only at hM; obtain rfl := si hM; refine AW_ret ?_; simp (maxSteps := 9999999) [go_sem, F]
                · have g := h35; (try simp at g); have F := And.intro F (And.intro h35 g); refine AW_skip ?_; refine hK26 _ ?_; refine AW_region ?_; simp (maxSteps := 9999999) [go_sem, F]; exact fin hL23 (IntKind.i64.wrap (x9 + 1)) hM
            · have g := h25; (try simp at g); have F := And.intro F (And.intro h25 (And.intro g (lF h25))); refine AW_exit ?_; obtain rfl := si hM; exact fin hK22 () rfl
          · rintro _ rfl; have hM := hR20; dsimp only at hM; refine AW_seq fun K36 hK36 => ?_; obtain ⟨x14, e37, hM⟩ := bind_some hM; obtain ⟨x15, e38, hM⟩ := bind_some hM; refine AW_quickN 5 mixed (by kernel_rfl) (by kernel_rfl) ?_; simp (maxSteps := 9999999) [go_sem, F]; refine by_c false (i_WhereEqual_ctr k x2.1 x2.2.1 x3 x14 e37) ?_; simp (maxSteps := 9999999) [go_sem, F]; refine by_c false (s_EqualValue_ctr k x14 x3 x15 e38) ?_
            simp (maxSteps := 9999999) [go_sem, F]; refine hK36 _ ?_; obtain rfl := si hM; refine AW_ret ?_; simp (maxSteps := 9999999) [go_sem, F]
end Go.Proofs.Ytbknilpmpjjfpaa
