/- The law FnBars: its mirrored function, and its contract. Written by a program of mine. -/
import Derived.Test.YtbknilpmpjjfpaaWn
import Derived.Test.YtbknilpmpjjfpaaCt0
import Derived.Test.YtbknilpmpjjfpaaCt1
import Derived.Test.YtbknilpmpjjfpaaCt2
import Derived.Test.YtbknilpmpjjfpaaCt4
set_option linter.unusedSimpArgs false
set_option linter.unusedVariables false
namespace Go.Proofs.Ytbknilpmpjjfpaa
open Go.RowKit Am
def w_FnBars_u2 (x2 : TValue × Int × Int) (x3 : TScene × Bool) (x7 : Int) (x8 : Int) (x13 : TMark) : Nat → Int → Option (Int ⊕ Bool)
  | 0, _ => none
  | n_ + 1, x14 =>
    if (decide (x14 < x8)) then
      ((at? x2.1.list x14).bind fun x16 =>
      (at? x2.1.list x8).bind fun x17 =>
      if (decide (x17.n ≤ x16.n)) then
        if (decide (0 ≤ x17.n)) then
          (at? x3.1.marks x14).bind fun x18 =>
          (at? x3.1.marks x8).bind fun x19 =>
          some (decide (x19.y < x18.y))
        else
          some false
      else
        some false).bind fun x15 =>
      if x15 then
        some (.inr false)
      else
        w_FnBars_u2 x2 x3 x7 x8 x13 n_ (IntKind.i64.wrap (x14 + 1))
    else
      some (.inl (IntKind.i64.wrap (x7 + x13.w)))
def w_FnBars_u1 (k : Nat) (x2 : TValue × Int × Int) (x3 : TScene × Bool) (x4 : TScene × Bool) : Nat → Int → Int → Option (Int ⊕ Bool)
  | 0, _, _ => none
  | n_ + 1, x7, x8 =>
    if (decide (x8 < (x3.1.marks.length : Int))) then
      (((at? x3.1.marks x8).bind fun x11 =>
      (at? x4.1.marks x8).bind fun x12 =>
      if (!(decide (x11.x = x12.x) && (decide (x11.y = x12.y) && (decide (x11.w = x12.w) && decide (x11.h = x12.h))))) then
        some true
      else
        some (!decide (x11.x = x7))).bind fun x10 =>
      if x10 then
        some (.inr false)
      else
        (at? x3.1.marks x8).bind fun x13 =>
        w_FnBars_u2 x2 x3 x7 x8 x13 k 0 : Option (Int ⊕ Bool)).bind fun
        | .inl x9 => (
          w_FnBars_u1 k x2 x3 x4 n_ x9 (IntKind.i64.wrap (x8 + 1)))
        | .inr z20 => (
          some (.inr z20))
    else
      some (.inl x7)
def w_FnBars (k : Nat) (a0 : List Int) : Option Bool :=
  (w_big a0).bind fun x1 =>
  if x1 then
    some true
  else
    (s_DrawBarsOf k a0).bind fun x2 =>
    (i_BarsOf k x2.1 x2.2.1 x2.2.2).bind fun x3 =>
    (s_BarsOf k x2.1 x2.2.1 x2.2.2).bind fun x4 =>
    (if (!(x3.2 == x4.2)) then
      some true
    else
      some (!decide ((x3.1.marks.length : Int) = (x4.1.marks.length : Int)))).bind fun x5 =>
    if x5 then
      some false
    else
      if (!x3.2) then
        some (decide (x3.1.w = 0))
      else
        (w_FnBars_u1 k x2 x3 x4 k 0 0 : Option (Int ⊕ Bool)).bind fun
          | .inl x6 => (
            (if (decide (x6 = x2.2.1)) then
              (i_IsInside k x3.1).bind fun x22 =>
              if x22 then
                some (decide ((x3.1.marks.length : Int) = (x2.1.list.length : Int)))
              else
                some false
            else
              some false).bind fun x21 =>
            some x21)
          | .inr z23 => (
            some z23)
set_option maxHeartbeats 4000000 in
set_option maxRecDepth 100000 in
theorem w_FnBars_ctr (k : Nat) (a0 : List Int) (r : Bool) (hM : w_FnBars k a0 = some r) : Ctr Try.prog 3 [.one (.sl (a0.map uC))] true [.one (.bool r)] := by
  unfold w_FnBars at hM
  refine walkM Try.func3 Try.ntmps3 Try.results3 fun N w0 hbad F => ?_
  refine AW_sr fun K h => ?_; simp (maxSteps := 9999999) [go_sem, F]; refine h _ ?_; refine AW_seq fun K1 hK1 => ?_; obtain ⟨x1, e2, hM⟩ := bind_some hM; refine AW_sr fun K h => ?_; simp (maxSteps := 9999999) [go_sem, F]; refine by_c false (w_big_ctr a0 x1 e2) ?_; simp (maxSteps := 9999999) [go_sem, F]; refine h _ ?_; refine AW_if hM (fun h3 hM => ?_) (fun h3 hM => ?_)
  · have g := h3; (try simp at g); have F := And.intro F (And.intro h3 g); refine AW_sr fun K h => ?_; simp (maxSteps := 9999999) [go_sem, F]; refine h _ ?_; obtain rfl := si hM; refine AW_ret ?_; simp (maxSteps := 9999999) [go_sem, F]
  · have g := h3; (try simp at g); have F := And.intro F (And.intro h3 g); refine AW_skip ?_; refine hK1 _ ?_; obtain ⟨x2, e4, hM⟩ := bind_some hM; refine AW_sr fun K h => ?_; simp (maxSteps := 9999999) [go_sem, F]; refine by_c false (s_DrawBarsOf_ctr k a0 x2 e4) ?_; simp (maxSteps := 9999999) [go_sem, F]; refine h _ ?_; obtain ⟨x3, e5, hM⟩ := bind_some hM; refine AW_sr fun K h => ?_; simp (maxSteps := 9999999) [go_sem, F]
    refine by_c false (i_BarsOf_ctr k x2.1 x2.2.1 x2.2.2 x3 e5) ?_; simp (maxSteps := 9999999) [go_sem, F]; refine h _ ?_; obtain ⟨x4, e6, hM⟩ := bind_some hM; refine AW_sr fun K h => ?_; simp (maxSteps := 9999999) [go_sem, F]; refine by_c false (s_BarsOf_ctr k x2.1 x2.2.1 x2.2.2 x4 e6) ?_; simp (maxSteps := 9999999) [go_sem, F]; refine h _ ?_; refine AW_seq fun K7 hK7 => ?_; obtain ⟨e8, hU10, hR9⟩ := bind_some hM; clear hM
    refine AW_mid (ι := Bool) (fun i => ⟨146, [(3, .one (.box 3 0)), (4, .one (.l (.int .i64 x2.2.1))), (6, .one (.box 6 0)), (7, .one (.l (.bool x3.2))), (8, .one (.box 8 0)), (46, .one (.l (.bool i)))], [(3, [.l (.int .i64 x2.1.kind), .l (.int .i64 x2.1.n), .l (.int .i64 x2.1.step), .l (.str x2.1.text), .l (.sl (x2.1.list.map TValue.c)), .l (.sl (x2.1.columns.map sC)), .l (.sl (x2.1.rows.map TRow.c))]), (6, [.l (.int .i64 x3.1.w), .l (.int .i64 x3.1.h), .own 1600 x3.1.marks.length]), (8, [.l (.int .i64 x4.1.w), .l (.int .i64 x4.1.h), .own 2048 x4.1.marks.length])], [(1600, some ⟨true, x3.1.marks.map TMark.c⟩), (2048, some ⟨true, x4.1.marks.map TMark.c⟩)]⟩) (fun i => i = e8) ?_ ?_
    · intro K11 hK11; have hM := hU10; clear hU10; rcases ifM hM with ⟨h12, hM⟩ | ⟨h12, hM⟩
      · have g := h12; (try simp at g); have F := And.intro F (And.intro h12 g); refine AW_region ?_; simp (maxSteps := 9999999) [go_sem, F]; obtain rfl := si hM; exact fin hK11 true rfl
      · have g := h12; (try simp at g); have F := And.intro F (And.intro h12 g); refine AW_region ?_; simp (maxSteps := 9999999) [go_sem, F]; obtain rfl := si hM; exact fin hK11 (!decide ((x3.1.marks.length : Int) = (x4.1.marks.length : Int))) rfl
    · rintro x5 rfl; have hM := hR9; (try dsimp only at hM); refine AW_if hM (fun h13 hM => ?_) (fun h13 hM => ?_)
      · have g := h13; (try simp at g); have F := And.intro F (And.intro h13 g); refine AW_sr fun K h => ?_; simp (maxSteps := 9999999) [go_sem, F]; refine h _ ?_; obtain rfl := si hM; refine AW_ret ?_; simp (maxSteps := 9999999) [go_sem, F]
      · have g := h13; (try simp at g); have F := And.intro F (And.intro h13 g); refine AW_skip ?_; refine hK7 _ ?_; refine AW_seq fun K14 hK14 => ?_; refine AW_sr fun K h => ?_; simp (maxSteps := 9999999) [go_sem, F]; refine h _ ?_; refine AW_if hM (fun h15 hM => ?_) (fun h15 hM => ?_)
        · have g := h15; (try simp at g); have F := And.intro F (And.intro h15 g); refine AW_sr fun K h => ?_; simp (maxSteps := 9999999) [go_sem, F]; refine h _ ?_; obtain rfl := si hM; refine AW_ret ?_; simp (maxSteps := 9999999) [go_sem, F]
        · have g := h15; (try simp at g); have F := And.intro F (And.intro h15 g); refine AW_skip ?_; refine hK14 _ ?_; refine AW_sr fun K h => ?_; simp (maxSteps := 9999999) [go_sem, F]; refine h _ ?_; obtain ⟨e16, hU18, hR17⟩ := bind_some hM; clear hM; refine AW_mid (ι := Int) (fun i => ⟨146, [(3, .one (.box 3 0)), (4, .one (.l (.int .i64 x2.2.1))), (6, .one (.box 6 0)), (10, .one (.l (.int .i64 i)))], [(3, [.l (.int .i64 x2.1.kind), .l (.int .i64 x2.1.n), .l (.int .i64 x2.1.step), .l (.str x2.1.text), .l (.sl (x2.1.list.map TValue.c)), .l (.sl (x2.1.columns.map sC)), .l (.sl (x2.1.rows.map TRow.c))]), (6, [.l (.int .i64 x3.1.w), .l (.int .i64 x3.1.h), .own 1600 x3.1.marks.length])], [(1600, some ⟨true, x3.1.marks.map TMark.c⟩)]⟩) (fun i => (.inl i) = e16) ?_ ?_
          · intro K19 hK19; have hM := hU18; clear hU18; refine AW_sr fun K h => ?_; simp (maxSteps := 9999999) [go_sem, F]; refine h _ ?_; refine AW_block ?_; refine AW_lp (ι := Int × Int) (fun i => ⟨146, [(3, .one (.box 3 0)), (4, .one (.l (.int .i64 x2.2.1))), (6, .one (.box 6 0)), (8, .one (.box 8 0)), (10, .one (.l (.int .i64 i.1))), (11, .one (.l (.int .i64 i.2)))], [(3, [.l (.int .i64 x2.1.kind), .l (.int .i64 x2.1.n), .l (.int .i64 x2.1.step), .l (.str x2.1.text), .l (.sl (x2.1.list.map TValue.c)), .l (.sl (x2.1.columns.map sC)), .l (.sl (x2.1.rows.map TRow.c))]), (6, [.l (.int .i64 x3.1.w), .l (.int .i64 x3.1.h), .own 1600 x3.1.marks.length]), (8, [.l (.int .i64 x4.1.w), .l (.int .i64 x4.1.h), .own 2048 x4.1.marks.length])], [(1600, some ⟨true, x3.1.marks.map TMark.c⟩), (2048, some ⟨true, x4.1.marks.map TMark.c⟩)]⟩) (fun n i => w_FnBars_u1 k x2 x3 x4 n i.1 i.2 = some e16) k (0, 0) hM (by simp [w_FnBars_u1]) ?_
            intro KL20 n ⟨x7, x8⟩ hL20 hM F; have hM : w_FnBars_u1 k x2 x3 x4 (n + 1) x7 x8 = some e16 := hM; rw [w_FnBars_u1] at hM; refine AW_seq fun K21 hK21 => ?_; refine AW_sr fun K h => ?_; simp (maxSteps := 9999999) [go_sem, F]; refine h _ ?_; refine AW_if hM (fun h22 hM => ?_) (fun h22 hM => ?_)
            · have g := h22; (try simp at g); have F := And.intro F (And.intro h22 (And.intro g (lT h22))); refine AW_skip ?_; refine hK21 _ ?_; obtain ⟨e23, hU25, hR24⟩ := bind_some hM; clear hM; refine AW_mid (ι := Int) (fun i => ⟨146, [(3, .one (.box 3 0)), (4, .one (.l (.int .i64 x2.2.1))), (6, .one (.box 6 0)), (8, .one (.box 8 0)), (10, .one (.l (.int .i64 i))), (11, .one (.l (.int .i64 x8)))], [(3, [.l (.int .i64 x2.1.kind), .l (.int .i64 x2.1.n), .l (.int .i64 x2.1.step), .l (.str x2.1.text), .l (.sl (x2.1.list.map TValue.c)), .l (.sl (x2.1.columns.map sC)), .l (.sl (x2.1.rows.map TRow.c))]), (6, [.l (.int .i64 x3.1.w), .l (.int .i64 x3.1.h), .own 1600 x3.1.marks.length]), (8, [.l (.int .i64 x4.1.w), .l (.int .i64 x4.1.h), .own 2048 x4.1.marks.length])], [(1600, some ⟨true, x3.1.marks.map TMark.c⟩), (2048, some ⟨true, x4.1.marks.map TMark.c⟩)]⟩) (fun i => (.inl i) = e23) ?_ ?_
              · intro K26 hK26; have hM := hU25; clear hU25; refine AW_block ?_; refine AW_seq fun K27 hK27 => ?_; obtain ⟨e28, hU30, hR29⟩ := bind_some hM; clear hM; refine AW_mid (ι := Bool) (fun i => ⟨146, [(3, .one (.box 3 0)), (4, .one (.l (.int .i64 x2.2.1))), (6, .one (.box 6 0)), (8, .one (.box 8 0)), (10, .one (.l (.int .i64 x7))), (11, .one (.l (.int .i64 x8))), (79, .one (.l (.bool i)))], [(3, [.l (.int .i64 x2.1.kind), .l (.int .i64 x2.1.n), .l (.int .i64 x2.1.step), .l (.str x2.1.text), .l (.sl (x2.1.list.map TValue.c)), .l (.sl (x2.1.columns.map sC)), .l (.sl (x2.1.rows.map TRow.c))]), (6, [.l (.int .i64 x3.1.w), .l (.int .i64 x3.1.h), .own 1600 x3.1.marks.length]), (8, [.l (.int .i64 x4.1.w), .l (.int .i64 x4.1.h), .own 2048 x4.1.marks.length])], [(1600, some ⟨true, x3.1.marks.map TMark.c⟩), (2048, some ⟨true, x4.1.marks.map TMark.c⟩)]⟩) (fun i => i = e28) ?_ ?_
                · intro K31 hK31; have hM := hU30; clear hU30; obtain ⟨x11, e32, hM⟩ := bind_some hM; have F := And.intro F (at_f e32); have F := And.intro F (at_l e32); obtain ⟨x12, e33, hM⟩ := bind_some hM; have F := And.intro F (at_f e33); have F := And.intro F (at_l e33); rcases ifM hM with ⟨h34, hM⟩ | ⟨h34, hM⟩
                  · have g := h34; (try simp at g); have F := And.intro F (And.intro h34 g); refine AW_quickN 19 mixed (by kernel_rfl) (by kernel_rfl) ?_; simp (maxSteps := 9999999) [go_sem, F]; obtain rfl := si hM; exact fin hK31 true rfl
                  · have g := h34; (try simp at g); have F := And.intro F (And.intro h34 g); refine AW_quickN 19 mixed (by kernel_rfl) (by kernel_rfl) ?_; simp (maxSteps := 9999999) [go_sem, F]; obtain rfl := si hM; exact fin hK31 (!decide (x11.x = x7)) rfl
                · rintro x10 rfl; have hM := hR29; (try dsimp only at hM); refine AW_if hM (fun h35 hM => ?_) (fun h35 hM => ?_)
                  · have g := h35; (try simp at g); have F := And.intro F (And.intro h35 g); refine AW_sr fun K h => ?_; simp (maxSteps := 9999999) [go_sem, F]; refine h _ ?_; obtain rfl := si hM; have hM := hR24; dsimp only at hM; obtain rfl := si hM; have hM := hR17; dsimp only at hM; obtain rfl := si hM; refine AW_ret ?_; simp (maxSteps := 9999999) [go_sem, F]
                  · have g := h35; (try simp at g); have F := And.intro F (And.intro h35 g); refine AW_skip ?_; refine hK27 _ ?_; obtain ⟨x13, e36, hM⟩ := bind_some hM; have F := And.intro F (at_f e36); have F := And.intro F (at_l e36); refine AW_sr fun K h => ?_; simp (maxSteps := 9999999) [go_sem, F]; refine h _ ?_; refine AW_sr fun K h => ?_; simp (maxSteps := 9999999) [go_sem, F]; refine h _ ?_
                    refine AW_block ?_; refine AW_lp (ι := Int) (fun i => ⟨146, [(3, .one (.box 3 0)), (4, .one (.l (.int .i64 x2.2.1))), (6, .one (.box 6 0)), (8, .one (.box 8 0)), (10, .one (.l (.int .i64 (IntKind.i64.wrap (x7 + x13.w))))), (11, .one (.l (.int .i64 x8))), (12, .one (.l (.int .i64 i)))], [(3, [.l (.int .i64 x2.1.kind), .l (.int .i64 x2.1.n), .l (.int .i64 x2.1.step), .l (.str x2.1.text), .l (.sl (x2.1.list.map TValue.c)), .l (.sl (x2.1.columns.map sC)), .l (.sl (x2.1.rows.map TRow.c))]), (6, [.l (.int .i64 x3.1.w), .l (.int .i64 x3.1.h), .own 1600 x3.1.marks.length]), (8, [.l (.int .i64 x4.1.w), .l (.int .i64 x4.1.h), .own 2048 x4.1.marks.length])], [(1600, some ⟨true, x3.1.marks.map TMark.c⟩), (2048, some ⟨true, x4.1.marks.map TMark.c⟩)]⟩) (fun n i => w_FnBars_u2 x2 x3 x7 x8 x13 n i = some e23) k 0 hM (by simp [w_FnBars_u2]) ?_
                    intro KL37 n x14 hL37 hM F; have hM : w_FnBars_u2 x2 x3 x7 x8 x13 (n + 1) x14 = some e23 := hM; rw [w_FnBars_u2] at hM; refine AW_seq fun K38 hK38 => ?_; refine AW_sr fun K h => ?_; simp (maxSteps := 9999999) [go_sem, F]; refine h _ ?_; refine AW_if hM (fun h39 hM => ?_) (fun h39 hM => ?_)
                    · have g := h39; (try simp at g); have F := And.intro F (And.intro h39 (And.intro g (lT h39))); refine AW_skip ?_; refine hK38 _ ?_; refine AW_seq fun K40 hK40 => ?_; refine AW_block ?_; obtain ⟨e41, hU43, hR42⟩ := bind_some hM; clear hM; refine AW_mid (ι := Bool) (fun i => ⟨146, [(3, .one (.box 3 0)), (4, .one (.l (.int .i64 x2.2.1))), (6, .one (.box 6 0)), (8, .one (.box 8 0)), (10, .one (.l (.int .i64 (IntKind.i64.wrap (x7 + x13.w))))), (11, .one (.l (.int .i64 x8))), (12, .one (.l (.int .i64 x14))), (129, .one (.l (.bool i)))], [(3, [.l (.int .i64 x2.1.kind), .l (.int .i64 x2.1.n), .l (.int .i64 x2.1.step), .l (.str x2.1.text), .l (.sl (x2.1.list.map TValue.c)), .l (.sl (x2.1.columns.map sC)), .l (.sl (x2.1.rows.map TRow.c))]), (6, [.l (.int .i64 x3.1.w), .l (.int .i64 x3.1.h), .own 1600 x3.1.marks.length]), (8, [.l (.int .i64 x4.1.w), .l (.int .i64 x4.1.h), .own 2048 x4.1.marks.length])], [(1600, some ⟨true, x3.1.marks.map TMark.c⟩), (2048, some ⟨true, x4.1.marks.map TMark.c⟩)]⟩) (fun i => i = e41) ?_ ?_
                      · intro K44 hK44; have hM := hU43; clear hU43; obtain ⟨x16, e45, hM⟩ := bind_some hM; have F := And.intro F (at_f e45); obtain ⟨x17, e46, hM⟩ := bind_some hM; have F := And.intro F (at_f e46); rcases ifM hM with ⟨h47, hM⟩ | ⟨h47, hM⟩
                        · have g := h47; (try simp at g); have F := And.intro F (And.intro h47 (And.intro g (eT h47))); rcases ifM hM with ⟨h48, hM⟩ | ⟨h48, hM⟩
                          · have g := h48; (try simp at g); have F := And.intro F (And.intro h48 (And.intro g (eT h48))); obtain ⟨x18, e49, hM⟩ := bind_some hM; have F := And.intro F (at_f e49); have F := And.intro F (at_l e49); obtain ⟨x19, e50, hM⟩ := bind_some hM; have F := And.intro F (at_f e50); have F := And.intro F (at_l e50); refine AW_quickN 35 mixed (by kernel_rfl) (by kernel_rfl) ?_; simp (maxSteps := 9999999) [go_sem, F]
                            obtain rfl := si hM; exact fin hK44 (decide (x19.y < x18.y)) rfl
                          · have g := h48; (try simp at g); have F := And.intro F (And.intro h48 (And.intro g (eF h48))); refine AW_quickN 35 mixed (by kernel_rfl) (by kernel_rfl) ?_; simp (maxSteps := 9999999) [go_sem, F]; obtain rfl := si hM; exact fin hK44 false rfl
                        · have g := h47; (try simp at g); have F := And.intro F (And.intro h47 (And.intro g (eF h47))); refine AW_quickN 35 mixed (by kernel_rfl) (by kernel_rfl) ?_; simp (maxSteps := 9999999) [go_sem, F]; obtain rfl := si hM; exact fin hK44 false rfl
                      · rintro x15 rfl; have hM := hR42; (try dsimp only at hM); refine AW_if hM (fun h51 hM => ?_) (fun h51 hM => ?_)
                        · have g := h51; (try simp at g); have F := And.intro F (And.intro h51 g); refine AW_sr fun K h => ?_; simp (maxSteps := 9999999) [go_sem, F]; refine h _ ?_; obtain rfl := si hM; have hM := hR24; dsimp only at hM; obtain rfl := si hM; have hM := hR17; dsimp only at hM; obtain rfl := si hM; refine AW_ret ?_; simp (maxSteps := 9999999) [go_sem, F]
                        · have g := h51; (try simp at g); have F := And.intro F (And.intro h51 g); refine AW_skip ?_; refine hK40 _ ?_; refine AW_region ?_; simp (maxSteps := 9999999) [go_sem, F]; exact fin hL37 (IntKind.i64.wrap (x14 + 1)) hM
                    · have g := h39; (try simp at g); have F := And.intro F (And.intro h39 (And.intro g (lF h39))); refine AW_exit ?_; obtain rfl := si hM; exact fin hK26 (IntKind.i64.wrap (x7 + x13.w)) rfl
              · rintro x9 rfl; have hM := hR24; dsimp only at hM; refine AW_region ?_; simp (maxSteps := 9999999) [go_sem, F]; exact fin hL20 (x9, (IntKind.i64.wrap (x8 + 1))) hM
            · have g := h22; (try simp at g); have F := And.intro F (And.intro h22 (And.intro g (lF h22))); refine AW_exit ?_; obtain rfl := si hM; exact fin hK19 x7 rfl
          · rintro x6 rfl; have hM := hR17; dsimp only at hM; obtain ⟨e52, hU54, hR53⟩ := bind_some hM; clear hM; refine AW_mid (ι := Bool) (fun i => ⟨146, [(2, .one (.l (.bool i)))], [], []⟩) (fun i => i = e52) ?_ ?_
            · intro K55 hK55; have hM := hU54; clear hU54; rcases ifM hM with ⟨h56, hM⟩ | ⟨h56, hM⟩
              · have g := h56; (try simp at g); have F := And.intro F (And.intro h56 g); obtain ⟨x22, e57, hM⟩ := bind_some hM; rcases ifM hM with ⟨h58, hM⟩ | ⟨h58, hM⟩
                · have g := h58; (try simp at g); have F := And.intro F (And.intro h58 g); refine AW_region ?_; simp (maxSteps := 9999999) [go_sem, F]; refine by_c false (i_IsInside_ctr k x3.1 x22 e57) ?_; simp (maxSteps := 9999999) [go_sem, F]; obtain rfl := si hM; exact fin hK55 (decide ((x3.1.marks.length : Int) = (x2.1.list.length : Int))) rfl
                · have g := h58; (try simp at g); have F := And.intro F (And.intro h58 g); refine AW_region ?_; simp (maxSteps := 9999999) [go_sem, F]; refine by_c false (i_IsInside_ctr k x3.1 x22 e57) ?_; simp (maxSteps := 9999999) [go_sem, F]; obtain rfl := si hM; exact fin hK55 false rfl
              · have g := h56; (try simp at g); have F := And.intro F (And.intro h56 g); refine AW_region ?_; simp (maxSteps := 9999999) [go_sem, F]; obtain rfl := si hM; exact fin hK55 false rfl
            · rintro x21 rfl; have hM := hR53; (try dsimp only at hM); obtain rfl := si hM; refine AW_ret ?_; simp (maxSteps := 9999999) [go_sem, F]
end Go.Proofs.Ytbknilpmpjjfpaa
