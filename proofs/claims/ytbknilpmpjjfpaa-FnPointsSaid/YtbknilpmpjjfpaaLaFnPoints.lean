/- The law FnPoints: its mirrored function, and its contract. Written by a program of mine. -/
import Derived.Test.YtbknilpmpjjfpaaWn
import Derived.Test.YtbknilpmpjjfpaaCt0
import Derived.Test.YtbknilpmpjjfpaaCt4
import Derived.Test.YtbknilpmpjjfpaaCt5
set_option linter.unusedSimpArgs false
set_option linter.unusedVariables false
namespace Go.Proofs.Ytbknilpmpjjfpaa
open Go.RowKit Am
def w_FnPoints_u2 (k : Nat) (x2 : TValue × ByteArray × ByteArray × Int × Int) (x3 : TScene × Bool) (x6 : Int) (x11 : Int) : Nat → Int → Option (Unit ⊕ Bool)
  | 0, _ => none
  | n_ + 1, x12 =>
    if (decide (x12 < x6)) then
      ((at? x2.1.rows x12).bind fun x14 =>
      (s_ColumnIndex k x2.1 x2.2.1).bind fun x15 =>
      (at? x14.cells x15).bind fun x16 =>
      if (decide (x16 ≤ x11)) then
        (at? x3.1.marks x12).bind fun x17 =>
        (at? x3.1.marks x6).bind fun x18 =>
        some (decide (x18.x < x17.x))
      else
        some false).bind fun x13 =>
      if x13 then
        some (.inr false)
      else
        w_FnPoints_u2 k x2 x3 x6 x11 n_ (IntKind.i64.wrap (x12 + 1))
    else
      some (.inl ())
def w_FnPoints_u1 (k : Nat) (x2 : TValue × ByteArray × ByteArray × Int × Int) (x3 : TScene × Bool) (x4 : TScene × Bool) : Nat → Int → Option (Unit ⊕ Bool)
  | 0, _ => none
  | n_ + 1, x6 =>
    if (decide (x6 < (x3.1.marks.length : Int))) then
      ((at? x3.1.marks x6).bind fun x7 =>
      (at? x4.1.marks x6).bind fun x8 =>
      if (!(decide (x7.x = x8.x) && (decide (x7.y = x8.y) && (decide (x7.w = x8.w) && decide (x7.h = x8.h))))) then
        some (.inr false)
      else
        (at? x2.1.rows x6).bind fun x9 =>
        (s_ColumnIndex k x2.1 x2.2.1).bind fun x10 =>
        (at? x9.cells x10).bind fun x11 =>
        w_FnPoints_u2 k x2 x3 x6 x11 k 0 : Option (Unit ⊕ Bool)).bind fun
        | .inl _ => (
          w_FnPoints_u1 k x2 x3 x4 n_ (IntKind.i64.wrap (x6 + 1)))
        | .inr z19 => (
          some (.inr z19))
    else
      some (.inl ())
def w_FnPoints (k : Nat) (a0 : List Int) : Option Bool :=
  (w_big a0).bind fun x1 =>
  if x1 then
    some true
  else
    (s_DrawPointsOf k a0).bind fun x2 =>
    (i_PointsOf k x2.1 x2.2.1 x2.2.2.1 x2.2.2.2.1 x2.2.2.2.2).bind fun x3 =>
    (s_PointsOf k x2.1 x2.2.1 x2.2.2.1 x2.2.2.2.1 x2.2.2.2.2).bind fun x4 =>
    (if (!(x3.2 == x4.2)) then
      some true
    else
      some (!decide ((x3.1.marks.length : Int) = (x4.1.marks.length : Int)))).bind fun x5 =>
    if x5 then
      some false
    else
      (w_FnPoints_u1 k x2 x3 x4 k 0 : Option (Unit ⊕ Bool)).bind fun
        | .inl _ => (
          (if (!x3.2) then
            some true
          else
            (i_IsInside k x3.1).bind fun x21 =>
            if x21 then
              some (decide ((x3.1.marks.length : Int) = (x2.1.rows.length : Int)))
            else
              some false).bind fun x20 =>
          some x20)
        | .inr z22 => (
          some z22)
set_option maxHeartbeats 4000000 in
set_option maxRecDepth 100000 in
theorem w_FnPoints_ctr (k : Nat) (a0 : List Int) (r : Bool) (hM : w_FnPoints k a0 = some r) : Ctr Try.prog 4 [.one (.sl (a0.map uC))] true [.one (.bool r)] := by
  unfold w_FnPoints at hM
  refine walkM Try.func4 Try.ntmps4 Try.results4 fun N w0 hbad F => ?_
  refine AW_sr fun K h => ?_; simp (maxSteps := 9999999) [go_sem, F]; refine h _ ?_; refine AW_seq fun K1 hK1 => ?_; obtain ⟨x1, e2, hM⟩ := bind_some hM; refine AW_sr fun K h => ?_; simp (maxSteps := 9999999) [go_sem, F]; refine by_c false (w_big_ctr a0 x1 e2) ?_; simp (maxSteps := 9999999) [go_sem, F]; refine h _ ?_; refine AW_if hM (fun h3 hM => ?_) (fun h3 hM => ?_)
  · have g := h3; (try simp at g); have F := And.intro F (And.intro h3 g); refine AW_sr fun K h => ?_; simp (maxSteps := 9999999) [go_sem, F]; refine h _ ?_; obtain rfl := si hM; refine AW_ret ?_; simp (maxSteps := 9999999) [go_sem, F]
  · have g := h3; (try simp at g); have F := And.intro F (And.intro h3 g); refine AW_skip ?_; refine hK1 _ ?_; obtain ⟨x2, e4, hM⟩ := bind_some hM; refine AW_sr fun K h => ?_; simp (maxSteps := 9999999) [go_sem, F]; refine by_c false (s_DrawPointsOf_ctr k a0 x2 e4) ?_; simp (maxSteps := 9999999) [go_sem, F]; refine h _ ?_; obtain ⟨x3, e5, hM⟩ := bind_some hM; refine AW_sr fun K h => ?_; simp (maxSteps := 9999999) [go_sem, F]
    refine by_c false (i_PointsOf_ctr k x2.1 x2.2.1 x2.2.2.1 x2.2.2.2.1 x2.2.2.2.2 x3 e5) ?_; simp (maxSteps := 9999999) [go_sem, F]; refine h _ ?_; obtain ⟨x4, e6, hM⟩ := bind_some hM; refine AW_sr fun K h => ?_; simp (maxSteps := 9999999) [go_sem, F]; refine by_c false (s_PointsOf_ctr k x2.1 x2.2.1 x2.2.2.1 x2.2.2.2.1 x2.2.2.2.2 x4 e6) ?_; simp (maxSteps := 9999999) [go_sem, F]; refine h _ ?_; refine AW_seq fun K7 hK7 => ?_
    obtain ⟨e8, hU10, hR9⟩ := bind_some hM; clear hM; refine AW_mid (ι := Bool) (fun i => ⟨132, [(3, .one (.box 3 0)), (4, .one (.l (.str x2.2.1))), (8, .one (.box 8 0)), (9, .one (.l (.bool x3.2))), (10, .one (.box 10 0)), (54, .one (.l (.bool i)))], [(3, [.l (.int .i64 x2.1.kind), .l (.int .i64 x2.1.n), .l (.int .i64 x2.1.step), .l (.str x2.1.text), .own 1216 x2.1.list.length, .own 1217 x2.1.columns.length, .own 1218 x2.1.rows.length]), (8, [.l (.int .i64 x3.1.w), .l (.int .i64 x3.1.h), .own 1984 x3.1.marks.length]), (10, [.l (.int .i64 x4.1.w), .l (.int .i64 x4.1.h), .own 2560 x4.1.marks.length])], [(1216, some ⟨true, x2.1.list.map TValue.c⟩), (1217, some ⟨true, x2.1.columns.map sC⟩), (1218, some ⟨true, x2.1.rows.map TRow.c⟩), (1984, some ⟨true, x3.1.marks.map TMark.c⟩), (2560, some ⟨true, x4.1.marks.map TMark.c⟩)]⟩) (fun i => i = e8) ?_ ?_
    · intro K11 hK11; have hM := hU10; clear hU10; rcases ifM hM with ⟨h12, hM⟩ | ⟨h12, hM⟩
      · have g := h12; (try simp at g); have F := And.intro F (And.intro h12 g); refine AW_region ?_; simp (maxSteps := 9999999) [go_sem, F]; obtain rfl := si hM; exact fin hK11 true rfl
      · have g := h12; (try simp at g); have F := And.intro F (And.intro h12 g); refine AW_region ?_; simp (maxSteps := 9999999) [go_sem, F]; obtain rfl := si hM; exact fin hK11 (!decide ((x3.1.marks.length : Int) = (x4.1.marks.length : Int))) rfl
    · rintro x5 rfl; have hM := hR9; (try dsimp only at hM); refine AW_if hM (fun h13 hM => ?_) (fun h13 hM => ?_)
      · have g := h13; (try simp at g); have F := And.intro F (And.intro h13 g); refine AW_sr fun K h => ?_; simp (maxSteps := 9999999) [go_sem, F]; refine h _ ?_; obtain rfl := si hM; refine AW_ret ?_; simp (maxSteps := 9999999) [go_sem, F]
      · have g := h13; (try simp at g); have F := And.intro F (And.intro h13 g); refine AW_skip ?_; refine hK7 _ ?_; obtain ⟨e14, hU16, hR15⟩ := bind_some hM; clear hM; refine AW_mid (ι := Unit) (fun i => ⟨132, [(3, .one (.box 3 0)), (8, .one (.box 8 0)), (9, .one (.l (.bool x3.2)))], [(3, [.l (.int .i64 x2.1.kind), .l (.int .i64 x2.1.n), .l (.int .i64 x2.1.step), .l (.str x2.1.text), .own 1216 x2.1.list.length, .own 1217 x2.1.columns.length, .own 1218 x2.1.rows.length]), (8, [.l (.int .i64 x3.1.w), .l (.int .i64 x3.1.h), .own 1984 x3.1.marks.length])], [(1216, some ⟨true, x2.1.list.map TValue.c⟩), (1217, some ⟨true, x2.1.columns.map sC⟩), (1218, some ⟨true, x2.1.rows.map TRow.c⟩), (1984, some ⟨true, x3.1.marks.map TMark.c⟩)]⟩) (fun i => (.inl i) = e14) ?_ ?_
        · intro K17 hK17; have hM := hU16; clear hU16; refine AW_sr fun K h => ?_; simp (maxSteps := 9999999) [go_sem, F]; refine h _ ?_; refine AW_block ?_; refine AW_lp (ι := Int) (fun i => ⟨132, [(3, .one (.box 3 0)), (4, .one (.l (.str x2.2.1))), (8, .one (.box 8 0)), (9, .one (.l (.bool x3.2))), (10, .one (.box 10 0)), (12, .one (.l (.int .i64 i)))], [(3, [.l (.int .i64 x2.1.kind), .l (.int .i64 x2.1.n), .l (.int .i64 x2.1.step), .l (.str x2.1.text), .own 1216 x2.1.list.length, .own 1217 x2.1.columns.length, .own 1218 x2.1.rows.length]), (8, [.l (.int .i64 x3.1.w), .l (.int .i64 x3.1.h), .own 1984 x3.1.marks.length]), (10, [.l (.int .i64 x4.1.w), .l (.int .i64 x4.1.h), .own 2560 x4.1.marks.length])], [(1216, some ⟨true, x2.1.list.map TValue.c⟩), (1217, some ⟨true, x2.1.columns.map sC⟩), (1218, some ⟨true, x2.1.rows.map TRow.c⟩), (1984, some ⟨true, x3.1.marks.map TMark.c⟩), (2560, some ⟨true, x4.1.marks.map TMark.c⟩)]⟩) (fun n i => w_FnPoints_u1 k x2 x3 x4 n i = some e14) k 0 hM (by simp [w_FnPoints_u1]) ?_
          intro KL18 n x6 hL18 hM F; have hM : w_FnPoints_u1 k x2 x3 x4 (n + 1) x6 = some e14 := hM; rw [w_FnPoints_u1] at hM; refine AW_seq fun K19 hK19 => ?_; refine AW_sr fun K h => ?_; simp (maxSteps := 9999999) [go_sem, F]; refine h _ ?_; refine AW_if hM (fun h20 hM => ?_) (fun h20 hM => ?_)
          · have g := h20; (try simp at g); have F := And.intro F (And.intro h20 (And.intro g (lT h20))); refine AW_skip ?_; refine hK19 _ ?_; obtain ⟨e21, hU23, hR22⟩ := bind_some hM; clear hM; refine AW_mid (ι := Unit) (fun i => ⟨132, [(3, .one (.box 3 0)), (4, .one (.l (.str x2.2.1))), (8, .one (.box 8 0)), (9, .one (.l (.bool x3.2))), (10, .one (.box 10 0)), (12, .one (.l (.int .i64 x6)))], [(3, [.l (.int .i64 x2.1.kind), .l (.int .i64 x2.1.n), .l (.int .i64 x2.1.step), .l (.str x2.1.text), .own 1216 x2.1.list.length, .own 1217 x2.1.columns.length, .own 1218 x2.1.rows.length]), (8, [.l (.int .i64 x3.1.w), .l (.int .i64 x3.1.h), .own 1984 x3.1.marks.length]), (10, [.l (.int .i64 x4.1.w), .l (.int .i64 x4.1.h), .own 2560 x4.1.marks.length])], [(1216, some ⟨true, x2.1.list.map TValue.c⟩), (1217, some ⟨true, x2.1.columns.map sC⟩), (1218, some ⟨true, x2.1.rows.map TRow.c⟩), (1984, some ⟨true, x3.1.marks.map TMark.c⟩), (2560, some ⟨true, x4.1.marks.map TMark.c⟩)]⟩) (fun i => (.inl i) = e21) ?_ ?_
            · intro K24 hK24; have hM := hU23; clear hU23; refine AW_block ?_; refine AW_seq fun K25 hK25 => ?_; refine AW_seq fun K26 hK26 => ?_; obtain ⟨x7, e27, hM⟩ := bind_some hM; have F := And.intro F (at_f e27); have F := And.intro F (at_l e27); obtain ⟨x8, e28, hM⟩ := bind_some hM; have F := And.intro F (at_f e28); have F := And.intro F (at_l e28); refine AW_quickN 10 mixed (by kernel_rfl) (by kernel_rfl) ?_
              simp (maxSteps := 9999999) [go_sem, F]; refine hK26 _ ?_; refine AW_if hM (fun h29 hM => ?_) (fun h29 hM => ?_)
              · have g := h29; (try simp at g); have F := And.intro F (And.intro h29 g); refine AW_sr fun K h => ?_; simp (maxSteps := 9999999) [go_sem, F]; refine h _ ?_; obtain rfl := si hM; have hM := hR22; dsimp only at hM; obtain rfl := si hM; have hM := hR15; dsimp only at hM; obtain rfl := si hM; refine AW_ret ?_; simp (maxSteps := 9999999) [go_sem, F]
              · have g := h29; (try simp at g); have F := And.intro F (And.intro h29 g); refine AW_skip ?_; refine hK25 _ ?_; refine AW_seq fun K30 hK30 => ?_; obtain ⟨x9, e31, hM⟩ := bind_some hM; have F := And.intro F (at_f e31); have F := And.intro F (at_l e31); obtain ⟨x10, e32, hM⟩ := bind_some hM; obtain ⟨x11, e33, hM⟩ := bind_some hM; have F := And.intro F (at_f e33); refine AW_quickN 9 mixed (by kernel_rfl) (by kernel_rfl) ?_
                simp (maxSteps := 9999999) [go_sem, F]; refine by_c false (s_ColumnIndex_ctr k x2.1 x2.2.1 x10 e32) ?_; simp (maxSteps := 9999999) [go_sem, F]; refine hK30 _ ?_; refine AW_sr fun K h => ?_; simp (maxSteps := 9999999) [go_sem, F]; refine h _ ?_; refine AW_block ?_; refine AW_lp (ι := Int) (fun i => ⟨132, [(3, .one (.box 3 0)), (4, .one (.l (.str x2.2.1))), (8, .one (.box 8 0)), (9, .one (.l (.bool x3.2))), (10, .one (.box 10 0)), (12, .one (.l (.int .i64 x6))), (13, .one (.l (.int .i64 x11))), (14, .one (.l (.int .i64 i)))], [(3, [.l (.int .i64 x2.1.kind), .l (.int .i64 x2.1.n), .l (.int .i64 x2.1.step), .l (.str x2.1.text), .own 1216 x2.1.list.length, .own 1217 x2.1.columns.length, .own 1218 x2.1.rows.length]), (8, [.l (.int .i64 x3.1.w), .l (.int .i64 x3.1.h), .own 1984 x3.1.marks.length]), (10, [.l (.int .i64 x4.1.w), .l (.int .i64 x4.1.h), .own 2560 x4.1.marks.length])], [(1216, some ⟨true, x2.1.list.map TValue.c⟩), (1217, some ⟨true, x2.1.columns.map sC⟩), (1218, some ⟨true, x2.1.rows.map TRow.c⟩), (1984, some ⟨true, x3.1.marks.map TMark.c⟩), (2560, some ⟨true, x4.1.marks.map TMark.c⟩)]⟩) (fun n i => w_FnPoints_u2 k x2 x3 x6 x11 n i = some e21) k 0 hM (by simp [w_FnPoints_u2]) ?_
                intro KL34 n x12 hL34 hM F; have hM : w_FnPoints_u2 k x2 x3 x6 x11 (n + 1) x12 = some e21 := hM; rw [w_FnPoints_u2] at hM; refine AW_seq fun K35 hK35 => ?_; refine AW_sr fun K h => ?_; simp (maxSteps := 9999999) [go_sem, F]; refine h _ ?_; refine AW_if hM (fun h36 hM => ?_) (fun h36 hM => ?_)
                · have g := h36; (try simp at g); have F := And.intro F (And.intro h36 (And.intro g (lT h36))); refine AW_skip ?_; refine hK35 _ ?_; refine AW_seq fun K37 hK37 => ?_; refine AW_block ?_; obtain ⟨e38, hU40, hR39⟩ := bind_some hM; clear hM; refine AW_mid (ι := Bool) (fun i => ⟨132, [(3, .one (.box 3 0)), (4, .one (.l (.str x2.2.1))), (8, .one (.box 8 0)), (9, .one (.l (.bool x3.2))), (10, .one (.box 10 0)), (12, .one (.l (.int .i64 x6))), (13, .one (.l (.int .i64 x11))), (14, .one (.l (.int .i64 x12))), (116, .one (.l (.bool i)))], [(3, [.l (.int .i64 x2.1.kind), .l (.int .i64 x2.1.n), .l (.int .i64 x2.1.step), .l (.str x2.1.text), .own 1216 x2.1.list.length, .own 1217 x2.1.columns.length, .own 1218 x2.1.rows.length]), (8, [.l (.int .i64 x3.1.w), .l (.int .i64 x3.1.h), .own 1984 x3.1.marks.length]), (10, [.l (.int .i64 x4.1.w), .l (.int .i64 x4.1.h), .own 2560 x4.1.marks.length])], [(1216, some ⟨true, x2.1.list.map TValue.c⟩), (1217, some ⟨true, x2.1.columns.map sC⟩), (1218, some ⟨true, x2.1.rows.map TRow.c⟩), (1984, some ⟨true, x3.1.marks.map TMark.c⟩), (2560, some ⟨true, x4.1.marks.map TMark.c⟩)]⟩) (fun i => i = e38) ?_ ?_
                  · intro K41 hK41; have hM := hU40; clear hU40; obtain ⟨x14, e42, hM⟩ := bind_some hM; have F := And.intro F (at_f e42); have F := And.intro F (at_l e42); obtain ⟨x15, e43, hM⟩ := bind_some hM; obtain ⟨x16, e44, hM⟩ := bind_some hM; have F := And.intro F (at_f e44); rcases ifM hM with ⟨h45, hM⟩ | ⟨h45, hM⟩
                    · have g := h45; (try simp at g); have F := And.intro F (And.intro h45 (And.intro g (eT h45))); obtain ⟨x17, e46, hM⟩ := bind_some hM; have F := And.intro F (at_f e46); have F := And.intro F (at_l e46); obtain ⟨x18, e47, hM⟩ := bind_some hM; have F := And.intro F (at_f e47); have F := And.intro F (at_l e47); refine AW_quickN 26 mixed (by kernel_rfl) (by kernel_rfl) ?_; simp (maxSteps := 9999999) [go_sem, F]
                      refine by_c false (s_ColumnIndex_ctr k x2.1 x2.2.1 x15 e43) ?_; simp (maxSteps := 9999999) [go_sem, F]; obtain rfl := si hM; exact fin hK41 (decide (x18.x < x17.x)) rfl
                    · have g := h45; (try simp at g); have F := And.intro F (And.intro h45 (And.intro g (eF h45))); refine AW_quickN 26 mixed (by kernel_rfl) (by kernel_rfl) ?_; simp (maxSteps := 9999999) [go_sem, F]; refine by_c false (s_ColumnIndex_ctr k x2.1 x2.2.1 x15 e43) ?_; simp (maxSteps := 9999999) [go_sem, F]; obtain rfl := si hM; exact fin hK41 false rfl
                  · rintro x13 rfl; have hM := hR39; (try dsimp only at hM); refine AW_if hM (fun h48 hM => ?_) (fun h48 hM => ?_)
                    · have g := h48; (try simp at g); have F := And.intro F (And.intro h48 g); refine AW_sr fun K h => ?_; simp (maxSteps := 9999999) [go_sem, F]; refine h _ ?_; obtain rfl := si hM; have hM := hR22; dsimp only at hM; obtain rfl := si hM; have hM := hR15; dsimp only at hM; obtain rfl := si hM; refine AW_ret ?_; simp (maxSteps := 9999999) [go_sem, F]
                    · have g := h48; (try simp at g); have F := And.intro F (And.intro h48 g); refine AW_skip ?_; refine hK37 _ ?_; refine AW_region ?_; simp (maxSteps := 9999999) [go_sem, F]; exact fin hL34 (IntKind.i64.wrap (x12 + 1)) hM
                · have g := h36; (try simp at g); have F := And.intro F (And.intro h36 (And.intro g (lF h36))); refine AW_exit ?_; obtain rfl := si hM; exact fin hK24 () rfl
            · rintro _ rfl; have hM := hR22; dsimp only at hM; refine AW_region ?_; simp (maxSteps := 9999999) [go_sem, F]; exact fin hL18 (IntKind.i64.wrap (x6 + 1)) hM
          · have g := h20; (try simp at g); have F := And.intro F (And.intro h20 (And.intro g (lF h20))); refine AW_exit ?_; obtain rfl := si hM; exact fin hK17 () rfl
        · rintro _ rfl; have hM := hR15; dsimp only at hM; obtain ⟨e49, hU51, hR50⟩ := bind_some hM; clear hM; refine AW_mid (ι := Bool) (fun i => ⟨132, [(2, .one (.l (.bool i)))], [], []⟩) (fun i => i = e49) ?_ ?_
          · intro K52 hK52; have hM := hU51; clear hU51; rcases ifM hM with ⟨h53, hM⟩ | ⟨h53, hM⟩
            · have g := h53; (try simp at g); have F := And.intro F (And.intro h53 g); refine AW_region ?_; simp (maxSteps := 9999999) [go_sem, F]; obtain rfl := si hM; exact fin hK52 true rfl
            · have g := h53; (try simp at g); have F := And.intro F (And.intro h53 g); obtain ⟨x21, e54, hM⟩ := bind_some hM; rcases ifM hM with ⟨h55, hM⟩ | ⟨h55, hM⟩
              · have g := h55; (try simp at g); have F := And.intro F (And.intro h55 g); refine AW_region ?_; simp (maxSteps := 9999999) [go_sem, F]; refine by_c false (i_IsInside_ctr k x3.1 x21 e54) ?_; simp (maxSteps := 9999999) [go_sem, F]; obtain rfl := si hM; exact fin hK52 (decide ((x3.1.marks.length : Int) = (x2.1.rows.length : Int))) rfl
              · have g := h55; (try simp at g); have F := And.intro F (And.intro h55 g); refine AW_region ?_; simp (maxSteps := 9999999) [go_sem, F]; refine by_c false (i_IsInside_ctr k x3.1 x21 e54) ?_; simp (maxSteps := 9999999) [go_sem, F]; obtain rfl := si hM; exact fin hK52 false rfl
          · rintro x20 rfl; have hM := hR50; (try dsimp only at hM); obtain rfl := si hM; refine AW_ret ?_; simp (maxSteps := 9999999) [go_sem, F]
end Go.Proofs.Ytbknilpmpjjfpaa
