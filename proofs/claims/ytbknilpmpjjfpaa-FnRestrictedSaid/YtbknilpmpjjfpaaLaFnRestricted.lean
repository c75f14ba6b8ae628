/- The law FnRestricted: its mirrored function, and its contract. Written by a program of mine. -/
import Derived.Test.YtbknilpmpjjfpaaWn
import Derived.Test.YtbknilpmpjjfpaaCt0
import Derived.Test.YtbknilpmpjjfpaaCt4
import Derived.Test.YtbknilpmpjjfpaaCt7
import Derived.Test.YtbknilpmpjjfpaaCt8
import Derived.Test.YtbknilpmpjjfpaaCt9
set_option linter.unusedSimpArgs false
set_option linter.unusedVariables false
namespace Go.Proofs.Ytbknilpmpjjfpaa
open Go.RowKit Am
def w_FnRestricted_u1 (k : Nat) (x2 : TValue × (List TOrigin)) (x3 : TValue) : Nat → Int → Option (Unit ⊕ Bool)
  | 0, _ => none
  | n_ + 1, x12 =>
    if (decide (x12 < (x3.rows.length : Int))) then
      (at? x3.rows x12).bind fun x13 =>
      (s_HasRow k x2.1 x13).bind fun x14 =>
      if (!x14) then
        some (.inr false)
      else
        w_FnRestricted_u1 k x2 x3 n_ (IntKind.i64.wrap (x12 + 1))
    else
      some (.inl ())
def w_FnRestricted (k : Nat) (a0 : List Int) : Option Bool :=
  (w_big a0).bind fun x1 =>
  if x1 then
    some true
  else
    (s_DrawRestrictTable k a0).bind fun x2 =>
    (i_RestrictTable k x2.1 x2.2).bind fun x3 =>
    ((s_RestrictTable k x2.1 x2.2).bind fun x5 =>
    (s_EqualValue k x3 x5).bind fun x6 =>
    if (!x6) then
      some true
    else
      (i_RestrictTable k x3 x2.2).bind fun x7 =>
      (s_EqualValue k x7 x3).bind fun x8 =>
      some (!x8)).bind fun x4 =>
    if x4 then
      some false
    else
      ((s_IsValidValue k x2.1).bind fun x10 =>
      if (!x10) then
        some true
      else
        some (!decide (x2.1.kind = 5))).bind fun x9 =>
      if x9 then
        (s_EqualValue k x3 x2.1).bind fun x11 =>
        some x11
      else
        (w_FnRestricted_u1 k x2 x3 k 0 : Option (Unit ⊕ Bool)).bind fun
          | .inl _ => (
            (s_OriginsOf k x2.1).bind fun x15 =>
            (i_RestrictTable k x2.1 x15).bind fun x16 =>
            (s_EqualValue k x16 x2.1).bind fun x17 =>
            some x17)
          | .inr z18 => (
            some z18)
set_option maxHeartbeats 4000000 in
set_option maxRecDepth 100000 in
theorem w_FnRestricted_ctr (k : Nat) (a0 : List Int) (r : Bool) (hM : w_FnRestricted k a0 = some r) : Ctr Try.prog 6 [.one (.sl (a0.map uC))] true [.one (.bool r)] := by
  unfold w_FnRestricted at hM
  refine walkM Try.func6 Try.ntmps6 Try.results6 fun N w0 hbad F => ?_
  refine AW_sr fun K h => ?_; simp (maxSteps := 9999999) [go_sem, F]; refine h _ ?_; refine AW_seq fun K1 hK1 => ?_; obtain ⟨x1, e2, hM⟩ := bind_some hM; refine AW_sr fun K h => ?_; simp (maxSteps := 9999999) [go_sem, F]; refine by_c false (w_big_ctr a0 x1 e2) ?_; simp (maxSteps := 9999999) [go_sem, F]; refine h _ ?_; refine AW_if hM (fun h3 hM => ?_) (fun h3 hM => ?_)
  · have g := h3; (try simp at g); have F := And.intro F (And.intro h3 g); refine AW_sr fun K h => ?_; simp (maxSteps := 9999999) [go_sem, F]; refine h _ ?_; obtain rfl := si hM; refine AW_ret ?_; simp (maxSteps := 9999999) [go_sem, F]
  · have g := h3; (try simp at g); have F := And.intro F (And.intro h3 g); refine AW_skip ?_; refine hK1 _ ?_; obtain ⟨x2, e4, hM⟩ := bind_some hM; refine AW_sr fun K h => ?_; simp (maxSteps := 9999999) [go_sem, F]; refine by_c false (s_DrawRestrictTable_ctr k a0 x2 e4) ?_; simp (maxSteps := 9999999) [go_sem, F]; refine h _ ?_; obtain ⟨x3, e5, hM⟩ := bind_some hM; refine AW_sr fun K h => ?_; simp (maxSteps := 9999999) [go_sem, F]
    refine by_c false (i_RestrictTable_ctr k x2.1 x2.2 x3 e5) ?_; simp (maxSteps := 9999999) [go_sem, F]; refine h _ ?_; refine AW_seq fun K6 hK6 => ?_; obtain ⟨e7, hU9, hR8⟩ := bind_some hM; clear hM; refine AW_mid (ι := Bool) (fun i => ⟨63, [(3, .one (.box 3 0)), (5, .one (.box 5 0)), (30, .one (.l (.bool i)))], [(3, [.l (.int .i64 x2.1.kind), .l (.int .i64 x2.1.n), .l (.int .i64 x2.1.step), .l (.str x2.1.text), .l (.sl (x2.1.list.map TValue.c)), .l (.sl (x2.1.columns.map sC)), .l (.sl (x2.1.rows.map TRow.c))]), (5, [.l (.int .i64 x3.kind), .l (.int .i64 x3.n), .l (.int .i64 x3.step), .l (.str x3.text), .own 1024 x3.list.length, .own 1025 x3.columns.length, .own 1026 x3.rows.length])], [(1024, some ⟨true, x3.list.map TValue.c⟩), (1025, some ⟨true, x3.columns.map sC⟩), (1026, some ⟨true, x3.rows.map TRow.c⟩)]⟩) (fun i => i = e7) ?_ ?_
    · intro K10 hK10; have hM := hU9; clear hU9; refine AW_fz (σ' := ⟨63, [(3, .one (.box 3 0)), (4, .one (.l (.sl (x2.2.map TOrigin.c)))), (5, .one (.box 5 0))], [(3, [.l (.int .i64 x2.1.kind), .l (.int .i64 x2.1.n), .l (.int .i64 x2.1.step), .l (.str x2.1.text), .l (.sl (x2.1.list.map TValue.c)), .l (.sl (x2.1.columns.map sC)), .l (.sl (x2.1.rows.map TRow.c))]), (5, [.l (.int .i64 x3.kind), .l (.int .i64 x3.n), .l (.int .i64 x3.step), .l (.str x3.text), .own 1024 x3.list.length, .own 1025 x3.columns.length, .own 1026 x3.rows.length])], [(1024, some ⟨true, x3.list.map TValue.c⟩), (1025, some ⟨true, x3.columns.map sC⟩), (1026, some ⟨true, x3.rows.map TRow.c⟩)]⟩) ?_
      obtain ⟨x5, e11, hM⟩ := bind_some hM; obtain ⟨x6, e12, hM⟩ := bind_some hM; rcases ifM hM with ⟨h13, hM⟩ | ⟨h13, hM⟩
      · have g := h13; (try simp at g); have F := And.intro F (And.intro h13 g); refine AW_open [[], [], [], [1, 2], [0, 1, 2, 3], [0, 1, 2, 3, 4], [0, 1, 2, 3, 4, 5], [0, 1, 2, 3, 4, 5, 6], [0, 1, 2, 3, 4, 5, 6], [0, 1, 2, 3, 4, 5, 6, 7, 8], [0, 1, 2, 3, 4, 5, 6], [0, 1, 2, 3, 4, 5, 6, 7, 8, 9, 10], [0, 1, 2, 3, 4, 5, 6, 7, 8, 9, 10, 11], [0, 1, 2, 3, 4, 5, 6, 7, 8, 9, 10, 11, 12]] mixed (by kernel_rfl) ?_
        simp (maxSteps := 9999999) [go_sem, F]; refine by_c false (s_RestrictTable_ctr k x2.1 x2.2 x5 e11) ?_; simp (maxSteps := 9999999) [go_sem, F]; refine by_c false (s_EqualValue_ctr k x3 x5 x6 e12) ?_; simp (maxSteps := 9999999) [go_sem, F]; refine ⟨dOkK_sound (by kernel_rfl), ?_⟩; obtain rfl := si hM; exact fin hK10 true rfl
      · have g := h13; (try simp at g); have F := And.intro F (And.intro h13 g); obtain ⟨x7, e14, hM⟩ := bind_some hM; obtain ⟨x8, e15, hM⟩ := bind_some hM; refine AW_open [[], [], [], [1, 2], [0, 1, 2, 3], [0, 1, 2, 3, 4], [0, 1, 2, 3, 4, 5], [0, 1, 2, 3, 4, 5, 6], [0, 1, 2, 3, 4, 5, 6], [0, 1, 2, 3, 4, 5, 6, 7, 8], [0, 1, 2, 3, 4, 5, 6], [0, 1, 2, 3, 4, 5, 6, 7, 8, 9, 10], [0, 1, 2, 3, 4, 5, 6, 7, 8, 9, 10, 11], [0, 1, 2, 3, 4, 5, 6, 7, 8, 9, 10, 11, 12]] mixed (by kernel_rfl) ?_
        simp (maxSteps := 9999999) [go_sem, F]; refine by_c false (s_RestrictTable_ctr k x2.1 x2.2 x5 e11) ?_; simp (maxSteps := 9999999) [go_sem, F]; refine by_c false (s_EqualValue_ctr k x3 x5 x6 e12) ?_; simp (maxSteps := 9999999) [go_sem, F]; refine by_c false (i_RestrictTable_ctr k x3 x2.2 x7 e14) ?_; simp (maxSteps := 9999999) [go_sem, F]; refine by_c false (s_EqualValue_ctr k x7 x3 x8 e15) ?_
        simp (maxSteps := 9999999) [go_sem, F]; refine ⟨dOkK_sound (by kernel_rfl), ?_⟩; obtain rfl := si hM; exact fin hK10 (!x8) rfl
    · rintro x4 rfl; have hM := hR8; (try dsimp only at hM); refine AW_if hM (fun h16 hM => ?_) (fun h16 hM => ?_)
      · have g := h16; (try simp at g); have F := And.intro F (And.intro h16 g); refine AW_sr fun K h => ?_; simp (maxSteps := 9999999) [go_sem, F]; refine h _ ?_; obtain rfl := si hM; refine AW_ret ?_; simp (maxSteps := 9999999) [go_sem, F]
      · have g := h16; (try simp at g); have F := And.intro F (And.intro h16 g); refine AW_skip ?_; refine hK6 _ ?_; refine AW_seq fun K17 hK17 => ?_; obtain ⟨e18, hU20, hR19⟩ := bind_some hM; clear hM; refine AW_mid (ι := Bool) (fun i => ⟨63, [(3, .one (.box 3 0)), (5, .one (.box 5 0)), (38, .one (.l (.bool i)))], [(3, [.l (.int .i64 x2.1.kind), .l (.int .i64 x2.1.n), .l (.int .i64 x2.1.step), .l (.str x2.1.text), .l (.sl (x2.1.list.map TValue.c)), .l (.sl (x2.1.columns.map sC)), .l (.sl (x2.1.rows.map TRow.c))]), (5, [.l (.int .i64 x3.kind), .l (.int .i64 x3.n), .l (.int .i64 x3.step), .l (.str x3.text), .own 1024 x3.list.length, .own 1025 x3.columns.length, .own 1026 x3.rows.length])], [(1024, some ⟨true, x3.list.map TValue.c⟩), (1025, some ⟨true, x3.columns.map sC⟩), (1026, some ⟨true, x3.rows.map TRow.c⟩)]⟩) (fun i => i = e18) ?_ ?_
        · intro K21 hK21; have hM := hU20; clear hU20; obtain ⟨x10, e22, hM⟩ := bind_some hM; rcases ifM hM with ⟨h23, hM⟩ | ⟨h23, hM⟩
          · have g := h23; (try simp at g); have F := And.intro F (And.intro h23 g); refine AW_region ?_; simp (maxSteps := 9999999) [go_sem, F]; refine by_c false (s_IsValidValue_ctr k x2.1 x10 e22) ?_; simp (maxSteps := 9999999) [go_sem, F]; obtain rfl := si hM; exact fin hK21 true rfl
          · have g := h23; (try simp at g); have F := And.intro F (And.intro h23 g); refine AW_region ?_; simp (maxSteps := 9999999) [go_sem, F]; refine by_c false (s_IsValidValue_ctr k x2.1 x10 e22) ?_; simp (maxSteps := 9999999) [go_sem, F]; obtain rfl := si hM; exact fin hK21 (!decide (x2.1.kind = 5)) rfl
        · rintro x9 rfl; have hM := hR19; (try dsimp only at hM); refine AW_if hM (fun h24 hM => ?_) (fun h24 hM => ?_)
          · have g := h24; (try simp at g); have F := And.intro F (And.intro h24 g); obtain ⟨x11, e25, hM⟩ := bind_some hM; refine AW_sr fun K h => ?_; simp (maxSteps := 9999999) [go_sem, F]; refine by_c false (s_EqualValue_ctr k x3 x2.1 x11 e25) ?_; simp (maxSteps := 9999999) [go_sem, F]; refine h _ ?_; obtain rfl := si hM; refine AW_ret ?_; simp (maxSteps := 9999999) [go_sem, F]
          · have g := h24; (try simp at g); have F := And.intro F (And.intro h24 g); refine AW_skip ?_; refine hK17 _ ?_; obtain ⟨e26, hU28, hR27⟩ := bind_some hM; clear hM; refine AW_mid (ι := Unit) (fun i => ⟨63, [(3, .one (.box 3 0))], [(3, [.l (.int .i64 x2.1.kind), .l (.int .i64 x2.1.n), .l (.int .i64 x2.1.step), .l (.str x2.1.text), .l (.sl (x2.1.list.map TValue.c)), .l (.sl (x2.1.columns.map sC)), .l (.sl (x2.1.rows.map TRow.c))])], []⟩) (fun i => (.inl i) = e26) ?_ ?_
            · intro K29 hK29; have hM := hU28; clear hU28; refine AW_sr fun K h => ?_; simp (maxSteps := 9999999) [go_sem, F]; refine h _ ?_; refine AW_block ?_; refine AW_lp (ι := Int) (fun i => ⟨63, [(3, .one (.box 3 0)), (5, .one (.box 5 0)), (6, .one (.l (.int .i64 i)))], [(3, [.l (.int .i64 x2.1.kind), .l (.int .i64 x2.1.n), .l (.int .i64 x2.1.step), .l (.str x2.1.text), .l (.sl (x2.1.list.map TValue.c)), .l (.sl (x2.1.columns.map sC)), .l (.sl (x2.1.rows.map TRow.c))]), (5, [.l (.int .i64 x3.kind), .l (.int .i64 x3.n), .l (.int .i64 x3.step), .l (.str x3.text), .own 1024 x3.list.length, .own 1025 x3.columns.length, .own 1026 x3.rows.length])], [(1024, some ⟨true, x3.list.map TValue.c⟩), (1025, some ⟨true, x3.columns.map sC⟩), (1026, some ⟨true, x3.rows.map TRow.c⟩)]⟩) (fun n i => w_FnRestricted_u1 k x2 x3 n i = some e26) k 0 hM (by simp [w_FnRestricted_u1]) ?_
              intro KL30 n x12 hL30 hM F; have hM : w_FnRestricted_u1 k x2 x3 (n + 1) x12 = some e26 := hM; rw [w_FnRestricted_u1] at hM; refine AW_seq fun K31 hK31 => ?_; refine AW_sr fun K h => ?_; simp (maxSteps := 9999999) [go_sem, F]; refine h _ ?_; refine AW_if hM (fun h32 hM => ?_) (fun h32 hM => ?_)
              · have g := h32; (try simp at g); have F := And.intro F (And.intro h32 (And.intro g (lT h32))); refine AW_skip ?_; refine hK31 _ ?_; refine AW_seq fun K33 hK33 => ?_; refine AW_block ?_; refine AW_seq fun K34 hK34 => ?_; obtain ⟨x13, e35, hM⟩ := bind_some hM; have F := And.intro F (at_f e35); have F := And.intro F (at_l e35); obtain ⟨x14, e36, hM⟩ := bind_some hM; refine AW_quickN 6 mixed (by kernel_rfl) (by kernel_rfl) ?_
                simp (maxSteps := 9999999) [go_sem, F]; refine by_c false (s_HasRow_ctr k x2.1 x13 x14 e36) ?_; simp (maxSteps := 9999999) [go_sem, F]; refine hK34 _ ?_; refine AW_if hM (fun h37 hM => ?_) (fun h37 hM => ?_)
                · have g := h37; (try simp at g); have F := And.intro F (And.intro h37 g); refine AW_sr fun K h => ?_; simp (maxSteps := 9999999) [go_sem, F]; refine h _ ?_; obtain rfl := si hM; have hM := hR27; dsimp only at hM; obtain rfl := si hM; refine AW_ret ?_; simp (maxSteps := 9999999) [go_sem, F]
                · have g := h37; (try simp at g); have F := And.intro F (And.intro h37 g); refine AW_skip ?_; refine hK33 _ ?_; refine AW_region ?_; simp (maxSteps := 9999999) [go_sem, F]; exact fin hL30 (IntKind.i64.wrap (x12 + 1)) hM
              · have g := h32; (try simp at g); have F := And.intro F (And.intro h32 (And.intro g (lF h32))); refine AW_exit ?_; obtain rfl := si hM; exact fin hK29 () rfl
            · rintro _ rfl; have hM := hR27; dsimp only at hM; refine AW_seq fun K38 hK38 => ?_; refine AW_fz (σ' := ⟨63, [(3, .one (.box 3 0))], [(3, [.l (.int .i64 x2.1.kind), .l (.int .i64 x2.1.n), .l (.int .i64 x2.1.step), .l (.str x2.1.text), .l (.sl (x2.1.list.map TValue.c)), .l (.sl (x2.1.columns.map sC)), .l (.sl (x2.1.rows.map TRow.c))])], []⟩) ?_; obtain ⟨x15, e39, hM⟩ := bind_some hM; obtain ⟨x16, e40, hM⟩ := bind_some hM
              obtain ⟨x17, e41, hM⟩ := bind_some hM; refine AW_open [[], [], [1], [0, 1, 2], [], [0, 1, 2, 3, 4], [0, 1, 2, 3, 4, 5]] mixed (by kernel_rfl) ?_; simp (maxSteps := 9999999) [go_sem, F]; refine by_c false (s_OriginsOf_ctr k x2.1 x15 e39) ?_; simp (maxSteps := 9999999) [go_sem, F]; refine by_c false (i_RestrictTable_ctr k x2.1 x15 x16 e40) ?_; simp (maxSteps := 9999999) [go_sem, F]; refine by_c false (s_EqualValue_ctr k x16 x2.1 x17 e41) ?_
              simp (maxSteps := 9999999) [go_sem, F]; refine ⟨dOkK_sound (by kernel_rfl), ?_⟩; refine hK38 _ ?_; obtain rfl := si hM; refine AW_ret ?_; simp (maxSteps := 9999999) [go_sem, F]
end Go.Proofs.Ytbknilpmpjjfpaa
