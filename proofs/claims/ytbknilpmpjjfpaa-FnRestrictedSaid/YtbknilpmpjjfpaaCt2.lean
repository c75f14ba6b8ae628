/- Contracts of the program's functions: where the mirrored function answers, the program's function returns this answer. Written by a program of mine. -/
import Derived.Test.YtbknilpmpjjfpaaWn
import Derived.Test.YtbknilpmpjjfpaaMd2
import Derived.Test.YtbknilpmpjjfpaaCt1
set_option linter.unusedSimpArgs false
set_option linter.unusedVariables false
namespace Go.Proofs.Ytbknilpmpjjfpaa
open Go.RowKit Am
set_option maxHeartbeats 4000000
set_option maxRecDepth 100000
theorem i_IsReserved_ctr (a0 : ByteArray) (r : Bool) (hM : i_IsReserved a0 = some r) : Ctr Try.prog 164 [.one (.str a0)] true [.one (.bool r)] := by
  unfold i_IsReserved at hM
  refine walkM Try.func164 Try.ntmps164 Try.results164 fun N w0 hbad F => ?_
  refine AW_sr fun K h => ?_; simp [go_sem, F]; refine h _ ?_; refine AW_seq fun K1 hK1 => ?_; refine AW_sr fun K h => ?_; simp [go_sem, F]; refine h _ ?_; refine AW_block ?_; obtain ⟨e2, hU4, hR3⟩ := bind_some hM; clear hM; refine AW_mid (ι := Bool) (fun i => ⟨15, [(0, .one (.l (.str a0))), (4, .one (.l (.bool i)))], [], []⟩) (fun i => i = e2) ?_ ?_
  · intro K5 hK5; have hM := hU4; clear hU4; refine AW_sr fun K h => ?_; simp [go_sem, F]; refine h _ ?_; refine AW_if hM (fun h6 hM => ?_) (fun h6 hM => ?_)
    · have g := h6; (try simp at g); have F := And.intro F (And.intro h6 g); refine AW_skip ?_; obtain rfl := si hM; exact fin hK5 true rfl
    · have g := h6; (try simp at g); have F := And.intro F (And.intro h6 g); refine AW_sr fun K h => ?_; simp [go_sem, F]; refine h _ ?_; refine AW_if hM (fun h7 hM => ?_) (fun h7 hM => ?_)
      · have g := h7; (try simp at g); have F := And.intro F (And.intro h7 g); refine AW_skip ?_; obtain rfl := si hM; exact fin hK5 true rfl
      · have g := h7; (try simp at g); have F := And.intro F (And.intro h7 g); refine AW_sr fun K h => ?_; simp [go_sem, F]; refine h _ ?_; refine AW_if hM (fun h8 hM => ?_) (fun h8 hM => ?_)
        · have g := h8; (try simp at g); have F := And.intro F (And.intro h8 g); refine AW_skip ?_; obtain rfl := si hM; exact fin hK5 true rfl
        · have g := h8; (try simp at g); have F := And.intro F (And.intro h8 g); refine AW_sr fun K h => ?_; simp [go_sem, F]; refine h _ ?_; refine AW_if hM (fun h9 hM => ?_) (fun h9 hM => ?_)
          · have g := h9; (try simp at g); have F := And.intro F (And.intro h9 g); refine AW_skip ?_; obtain rfl := si hM; exact fin hK5 true rfl
          · have g := h9; (try simp at g); have F := And.intro F (And.intro h9 g); refine AW_sr fun K h => ?_; simp [go_sem, F]; refine h _ ?_; refine AW_if hM (fun h10 hM => ?_) (fun h10 hM => ?_)
            · have g := h10; (try simp at g); have F := And.intro F (And.intro h10 g); refine AW_skip ?_; obtain rfl := si hM; exact fin hK5 true rfl
            · have g := h10; (try simp at g); have F := And.intro F (And.intro h10 g); refine AW_sr fun K h => ?_; simp [go_sem, F]; refine h _ ?_; refine AW_if hM (fun h11 hM => ?_) (fun h11 hM => ?_)
              · have g := h11; (try simp at g); have F := And.intro F (And.intro h11 g); refine AW_skip ?_; obtain rfl := si hM; exact fin hK5 true rfl
              · have g := h11; (try simp at g); have F := And.intro F (And.intro h11 g); refine AW_region ?_; simp [go_sem, F]; obtain rfl := si hM; exact fin hK5 (decide (a0 = (⟨#[100, 111]⟩ : ByteArray))) rfl
  · rintro x1 rfl; have hM := hR3; (try dsimp only at hM); refine AW_if hM (fun h12 hM => ?_) (fun h12 hM => ?_)
    · have g := h12; (try simp at g); have F := And.intro F (And.intro h12 g); refine AW_sr fun K h => ?_; simp [go_sem, F]; refine h _ ?_; obtain rfl := si hM; refine AW_ret ?_; simp [go_sem, F]
    · have g := h12; (try simp at g); have F := And.intro F (And.intro h12 g); refine AW_skip ?_; refine hK1 _ ?_; obtain ⟨x2, e13, hM⟩ := bind_some hM; refine AW_sr fun K h => ?_; simp [go_sem, F]; refine by_c false (i_ArgumentCount_ctr a0 x2 e13) ?_; simp [go_sem, F]; refine h _ ?_; obtain rfl := si hM; refine AW_ret ?_; simp [go_sem, F]
theorem i_IsValidName_ctr (k : Nat) (a0 : ByteArray) (r : Bool) (hM : i_IsValidName k a0 = some r) : Ctr Try.prog 146 [.one (.str a0)] true [.one (.bool r)] := by
  unfold i_IsValidName at hM
  refine walkM Try.func146 Try.ntmps146 Try.results146 fun N w0 hbad F => ?_
  refine AW_sr fun K h => ?_; simp [go_sem, F]; refine h _ ?_; obtain ⟨e1, hU3, hR2⟩ := bind_some hM; clear hM; refine AW_mid (ι := Bool) (fun i => ⟨10, [(2, .one (.l (.bool i)))], [], []⟩) (fun i => i = e1) ?_ ?_
  · intro K4 hK4; have hM := hU3; clear hU3; obtain ⟨x2, e5, hM⟩ := bind_some hM; rcases ifM hM with ⟨h6, hM⟩ | ⟨h6, hM⟩
    · have g := h6; (try simp at g); have F := And.intro F (And.intro h6 g); obtain ⟨x3, e7, hM⟩ := bind_some hM; refine AW_region ?_; simp [go_sem, F]; refine by_c false (i_isWord_ctr k a0 x2 e5) ?_; simp [go_sem, F]; refine by_c false (i_IsReserved_ctr a0 x3 e7) ?_; simp [go_sem, F]; obtain rfl := si hM; exact fin hK4 (!x3) rfl
    · have g := h6; (try simp at g); have F := And.intro F (And.intro h6 g); refine AW_region ?_; simp [go_sem, F]; refine by_c false (i_isWord_ctr k a0 x2 e5) ?_; simp [go_sem, F]; obtain rfl := si hM; exact fin hK4 false rfl
  · rintro x1 rfl; have hM := hR2; (try dsimp only at hM); obtain rfl := si hM; refine AW_ret ?_; simp [go_sem, F]
theorem i_IndexOf_ctr (k : Nat) (a0 : List ByteArray) (a1 : ByteArray) (r : Int) (hM : i_IndexOf k a0 a1 = some r) : Ctr Try.prog 69 [.one (.sl (a0.map sC)), .one (.str a1)] true [.one (.int .i64 r)] := by
  unfold i_IndexOf at hM
  refine walkM Try.func69 Try.ntmps69 Try.results69 fun N w0 hbad F => ?_
  refine AW_sr fun K h => ?_; simp [go_sem, F]; refine h _ ?_; obtain ⟨e1, hU3, hR2⟩ := bind_some hM; clear hM; refine AW_mid (ι := Unit) (fun i => ⟨19, [], [], []⟩) (fun i => (.inl i) = e1) ?_ ?_
  · intro K4 hK4; have hM := hU3; clear hU3; refine AW_sr fun K h => ?_; simp [go_sem, F]; refine h _ ?_; refine AW_block ?_; refine AW_lp (ι := Int) (fun i => ⟨19, [(1, .one (.l (.str a1))), (7, .one (.l (.sl (a0.map sC)))), (8, .one (.l (.int .i64 (a0.length : Int)))), (9, .one (.l (.int .i64 i)))], [], []⟩) (fun n i => i_IndexOf_u1 a0 a1 n i = some e1) k 0 hM (by simp [i_IndexOf_u1]) ?_; intro KL5 n x1 hL5 hM F
    have hM : i_IndexOf_u1 a0 a1 (n + 1) x1 = some e1 := hM; rw [i_IndexOf_u1] at hM; refine AW_sr fun K h => ?_; simp [go_sem, F]; refine h _ ?_; refine AW_seq fun K6 hK6 => ?_; refine AW_if hM (fun h7 hM => ?_) (fun h7 hM => ?_)
    · have g := h7; (try simp at g); have F := And.intro F (And.intro h7 (And.intro g (lT h7))); refine AW_skip ?_; refine hK6 _ ?_; refine AW_seq fun K8 hK8 => ?_; refine AW_block ?_; obtain ⟨x2, e9, hM⟩ := bind_some hM; have F := And.intro F (at_f e9); refine AW_sr fun K h => ?_; simp [go_sem, F]; refine h _ ?_; refine AW_sr fun K h => ?_; simp [go_sem, F]; refine h _ ?_; refine AW_if hM (fun h10 hM => ?_) (fun h10 hM => ?_)
      · have g := h10; (try simp at g); have F := And.intro F (And.intro h10 g); refine AW_sr fun K h => ?_; simp [go_sem, F]; refine h _ ?_; obtain rfl := si hM; have hM := hR2; dsimp only at hM; obtain rfl := si hM; refine AW_ret ?_; simp [go_sem, F]
      · have g := h10; (try simp at g); have F := And.intro F (And.intro h10 g); refine AW_skip ?_; refine hK8 _ ?_; refine AW_region ?_; simp [go_sem, F]; exact fin hL5 (IntKind.i64.wrap (x1 + 1)) hM
    · have g := h7; (try simp at g); have F := And.intro F (And.intro h7 (And.intro g (lF h7))); refine AW_exit ?_; obtain rfl := si hM; exact fin hK4 () rfl
  · rintro _ rfl; have hM := hR2; dsimp only at hM; refine AW_sr fun K h => ?_; simp [go_sem, F]; refine h _ ?_; obtain rfl := si hM; refine AW_ret ?_; simp [go_sem, F]
theorem i_AllDistinct_ctr (k : Nat) (a0 : List ByteArray) (r : Bool) (hM : i_AllDistinct k a0 = some r) : Ctr Try.prog 147 [.one (.sl (a0.map sC))] true [.one (.bool r)] := by
  unfold i_AllDistinct at hM
  refine walkM Try.func147 Try.ntmps147 Try.results147 fun N w0 hbad F => ?_
  refine AW_sr fun K h => ?_; simp [go_sem, F]; refine h _ ?_; obtain ⟨e1, hU3, hR2⟩ := bind_some hM; clear hM; refine AW_mid (ι := Unit) (fun i => ⟨18, [], [], []⟩) (fun i => (.inl i) = e1) ?_ ?_
  · intro K4 hK4; have hM := hU3; clear hU3; refine AW_sr fun K h => ?_; simp [go_sem, F]; refine h _ ?_; refine AW_block ?_; refine AW_lp (ι := Int) (fun i => ⟨18, [(0, .one (.l (.sl (a0.map sC)))), (5, .one (.l (.sl (a0.map sC)))), (6, .one (.l (.int .i64 (a0.length : Int)))), (7, .one (.l (.int .i64 i)))], [], []⟩) (fun n i => i_AllDistinct_u1 k a0 n i = some e1) k 0 hM (by simp [i_AllDistinct_u1]) ?_
    intro KL5 n x1 hL5 hM F; have hM : i_AllDistinct_u1 k a0 (n + 1) x1 = some e1 := hM; rw [i_AllDistinct_u1] at hM; refine AW_sr fun K h => ?_; simp [go_sem, F]; refine h _ ?_; refine AW_seq fun K6 hK6 => ?_; refine AW_if hM (fun h7 hM => ?_) (fun h7 hM => ?_)
    · have g := h7; (try simp at g); have F := And.intro F (And.intro h7 (And.intro g (lT h7))); refine AW_skip ?_; refine hK6 _ ?_; refine AW_seq fun K8 hK8 => ?_; refine AW_block ?_; obtain ⟨x2, e9, hM⟩ := bind_some hM; have F := And.intro F (at_f e9); refine AW_sr fun K h => ?_; simp [go_sem, F]; refine h _ ?_; obtain ⟨x3, e10, hM⟩ := bind_some hM; refine AW_sr fun K h => ?_; simp [go_sem, F]; refine by_c false (i_IndexOf_ctr k a0 x2 x3 e10) ?_
      simp [go_sem, F]; refine h _ ?_; refine AW_if hM (fun h11 hM => ?_) (fun h11 hM => ?_)
      · have g := h11; (try simp at g); have F := And.intro F (And.intro h11 g); refine AW_sr fun K h => ?_; simp [go_sem, F]; refine h _ ?_; obtain rfl := si hM; have hM := hR2; dsimp only at hM; obtain rfl := si hM; refine AW_ret ?_; simp [go_sem, F]
      · have g := h11; (try simp at g); have F := And.intro F (And.intro h11 g); refine AW_skip ?_; refine hK8 _ ?_; refine AW_region ?_; simp [go_sem, F]; exact fin hL5 (IntKind.i64.wrap (x1 + 1)) hM
    · have g := h7; (try simp at g); have F := And.intro F (And.intro h7 (And.intro g (lF h7))); refine AW_exit ?_; obtain rfl := si hM; exact fin hK4 () rfl
  · rintro _ rfl; have hM := hR2; dsimp only at hM; refine AW_sr fun K h => ?_; simp [go_sem, F]; refine h _ ?_; obtain rfl := si hM; refine AW_ret ?_; simp [go_sem, F]
theorem i_areColumns_ctr (k : Nat) (a0 : List ByteArray) (r : Bool) (hM : i_areColumns k a0 = some r) : Ctr Try.prog 131 [.one (.sl (a0.map sC))] true [.one (.bool r)] := by
  unfold i_areColumns at hM
  refine walkM Try.func131 Try.ntmps131 Try.results131 fun N w0 hbad F => ?_
  refine AW_sr fun K h => ?_; simp [go_sem, F]; refine h _ ?_; obtain ⟨e1, hU3, hR2⟩ := bind_some hM; clear hM; refine AW_mid (ι := Unit) (fun i => ⟨22, [(0, .one (.l (.sl (a0.map sC))))], [], []⟩) (fun i => (.inl i) = e1) ?_ ?_
  · intro K4 hK4; have hM := hU3; clear hU3; refine AW_sr fun K h => ?_; simp [go_sem, F]; refine h _ ?_; refine AW_block ?_; refine AW_lp (ι := Int) (fun i => ⟨22, [(0, .one (.l (.sl (a0.map sC)))), (5, .one (.l (.sl (a0.map sC)))), (6, .one (.l (.int .i64 (a0.length : Int)))), (7, .one (.l (.int .i64 i)))], [], []⟩) (fun n i => i_areColumns_u1 k a0 n i = some e1) k 0 hM (by simp [i_areColumns_u1]) ?_
    intro KL5 n x1 hL5 hM F; have hM : i_areColumns_u1 k a0 (n + 1) x1 = some e1 := hM; rw [i_areColumns_u1] at hM; refine AW_sr fun K h => ?_; simp [go_sem, F]; refine h _ ?_; refine AW_seq fun K6 hK6 => ?_; refine AW_if hM (fun h7 hM => ?_) (fun h7 hM => ?_)
    · have g := h7; (try simp at g); have F := And.intro F (And.intro h7 (And.intro g (lT h7))); refine AW_skip ?_; refine hK6 _ ?_; refine AW_seq fun K8 hK8 => ?_; refine AW_block ?_; obtain ⟨x2, e9, hM⟩ := bind_some hM; have F := And.intro F (at_f e9); refine AW_sr fun K h => ?_; simp [go_sem, F]; refine h _ ?_; obtain ⟨x3, e10, hM⟩ := bind_some hM; refine AW_sr fun K h => ?_; simp [go_sem, F]; refine by_c false (i_IsValidName_ctr k x2 x3 e10) ?_
      simp [go_sem, F]; refine h _ ?_; refine AW_if hM (fun h11 hM => ?_) (fun h11 hM => ?_)
      · have g := h11; (try simp at g); have F := And.intro F (And.intro h11 g); refine AW_sr fun K h => ?_; simp [go_sem, F]; refine h _ ?_; obtain rfl := si hM; have hM := hR2; dsimp only at hM; obtain rfl := si hM; refine AW_ret ?_; simp [go_sem, F]
      · have g := h11; (try simp at g); have F := And.intro F (And.intro h11 g); refine AW_skip ?_; refine hK8 _ ?_; refine AW_region ?_; simp [go_sem, F]; exact fin hL5 (IntKind.i64.wrap (x1 + 1)) hM
    · have g := h7; (try simp at g); have F := And.intro F (And.intro h7 (And.intro g (lF h7))); refine AW_exit ?_; obtain rfl := si hM; exact fin hK4 () rfl
  · rintro _ rfl; have hM := hR2; dsimp only at hM; obtain ⟨e12, hU14, hR13⟩ := bind_some hM; clear hM; refine AW_mid (ι := Bool) (fun i => ⟨22, [(2, .one (.l (.bool i)))], [], []⟩) (fun i => i = e12) ?_ ?_
    · intro K15 hK15; have hM := hU14; clear hU14; obtain ⟨x5, e16, hM⟩ := bind_some hM; rcases ifM hM with ⟨h17, hM⟩ | ⟨h17, hM⟩
      · have g := h17; (try simp at g); have F := And.intro F (And.intro h17 g); obtain ⟨x6, e18, hM⟩ := bind_some hM; refine AW_region ?_; simp [go_sem, F]; refine by_c false (i_within_ctr (a0.length : Int) 1 4 x5 e16) ?_; simp [go_sem, F]; refine by_c false (i_AllDistinct_ctr k a0 x6 e18) ?_; simp [go_sem, F]; obtain rfl := si hM; exact fin hK15 x6 rfl
      · have g := h17; (try simp at g); have F := And.intro F (And.intro h17 g); refine AW_region ?_; simp [go_sem, F]; refine by_c false (i_within_ctr (a0.length : Int) 1 4 x5 e16) ?_; simp [go_sem, F]; obtain rfl := si hM; exact fin hK15 false rfl
    · rintro x4 rfl; have hM := hR13; (try dsimp only at hM); obtain rfl := si hM; refine AW_ret ?_; simp [go_sem, F]
theorem i_originBefore_ctr (a0 : TOrigin) (a1 : TOrigin) (r : Bool) (hM : i_originBefore a0 a1 = some r) : Ctr Try.prog 132 [.agg (TOrigin.c a0), .agg (TOrigin.c a1)] true [.one (.bool r)] := by
  unfold i_originBefore at hM
  refine walkM Try.func132 Try.ntmps132 Try.results132 fun N w0 hbad F => ?_
  refine AW_sr fun K h => ?_; simp [go_sem, F]; refine h _ ?_; obtain ⟨e1, hU3, hR2⟩ := bind_some hM; clear hM; refine AW_mid (ι := Bool) (fun i => ⟨24, [(4, .one (.l (.bool i)))], [], []⟩) (fun i => i = e1) ?_ ?_
  · intro K4 hK4; have hM := hU3; clear hU3; rcases ifM hM with ⟨h5, hM⟩ | ⟨h5, hM⟩
    · have g := h5; (try simp at g); have F := And.intro F (And.intro h5 (And.intro g (lT h5))); refine AW_region ?_; simp [go_sem, F]; obtain rfl := si hM; exact fin hK4 true rfl
    · have g := h5; (try simp at g); have F := And.intro F (And.intro h5 (And.intro g (lF h5))); rcases ifM hM with ⟨h6, hM⟩ | ⟨h6, hM⟩
      · have g := h6; (try simp at g); have F := And.intro F (And.intro h6 g); refine AW_region ?_; simp [go_sem, F]; obtain rfl := si hM; exact fin hK4 (decide (a0.row < a1.row)) rfl
      · have g := h6; (try simp at g); have F := And.intro F (And.intro h6 g); refine AW_region ?_; simp [go_sem, F]; obtain rfl := si hM; exact fin hK4 false rfl
  · rintro x1 rfl; have hM := hR2; (try dsimp only at hM); obtain rfl := si hM; refine AW_ret ?_; simp [go_sem, F]
theorem i_isTable_ctr (k : Nat) (a0 : TValue) (r : Bool) (hM : i_isTable k a0 = some r) : Ctr Try.prog 97 [.agg (TValue.c a0)] true [.one (.bool r)] := by
  unfold i_isTable at hM
  refine walkM Try.func97 Try.ntmps97 Try.results97 fun N w0 hbad F => ?_
  refine AW_sr fun K h => ?_; simp [go_sem, F]; refine h _ ?_; refine AW_seq fun K1 hK1 => ?_; obtain ⟨e2, hU4, hR3⟩ := bind_some hM; clear hM; refine AW_mid (ι := Bool) (fun i => ⟨77, [(1, .one (.box 1 0)), (18, .one (.l (.bool i)))], [(1, [.l (.int .i64 a0.kind), .l (.int .i64 a0.n), .l (.int .i64 a0.step), .l (.str a0.text), .l (.sl (a0.list.map TValue.c)), .l (.sl (a0.columns.map sC)), .l (.sl (a0.rows.map TRow.c))])], []⟩) (fun i => i = e2) ?_ ?_
  · intro K5 hK5; have hM := hU4; clear hU4; obtain ⟨x2, e6, hM⟩ := bind_some hM; rcases ifM hM with ⟨h7, hM⟩ | ⟨h7, hM⟩
    · have g := h7; (try simp at g); have F := And.intro F (And.intro h7 g); refine AW_region ?_; simp [go_sem, F]; refine by_c false (i_areColumns_ctr k a0.columns x2 e6) ?_; simp [go_sem, F]; obtain rfl := si hM; exact fin hK5 true rfl
    · have g := h7; (try simp at g); have F := And.intro F (And.intro h7 g); refine AW_region ?_; simp [go_sem, F]; refine by_c false (i_areColumns_ctr k a0.columns x2 e6) ?_; simp [go_sem, F]; obtain rfl := si hM; exact fin hK5 (decide (12 < (a0.rows.length : Int))) rfl
  · rintro x1 rfl; have hM := hR3; (try dsimp only at hM); refine AW_if hM (fun h8 hM => ?_) (fun h8 hM => ?_)
    · have g := h8; (try simp at g); have F := And.intro F (And.intro h8 g); refine AW_sr fun K h => ?_; simp [go_sem, F]; refine h _ ?_; obtain rfl := si hM; refine AW_ret ?_; simp [go_sem, F]
    · have g := h8; (try simp at g); have F := And.intro F (And.intro h8 g); refine AW_skip ?_; refine hK1 _ ?_; obtain ⟨e9, hU11, hR10⟩ := bind_some hM; clear hM; refine AW_mid (ι := Unit) (fun i => ⟨77, [], [], []⟩) (fun i => (.inl i) = e9) ?_ ?_
      · intro K12 hK12; have hM := hU11; clear hU11; refine AW_sr fun K h => ?_; simp [go_sem, F]; refine h _ ?_; refine AW_block ?_; refine AW_lp (ι := Int) (fun i => ⟨77, [(1, .one (.box 1 0)), (20, .one (.l (.sl (a0.rows.map TRow.c)))), (21, .one (.l (.int .i64 (a0.rows.length : Int)))), (22, .one (.l (.int .i64 i)))], [(1, [.l (.int .i64 a0.kind), .l (.int .i64 a0.n), .l (.int .i64 a0.step), .l (.str a0.text), .l (.sl (a0.list.map TValue.c)), .l (.sl (a0.columns.map sC)), .l (.sl (a0.rows.map TRow.c))])], []⟩) (fun n i => i_isTable_u1 k a0 n i = some e9) k 0 hM (by simp [i_isTable_u1]) ?_
        intro KL13 n x3 hL13 hM F; have hM : i_isTable_u1 k a0 (n + 1) x3 = some e9 := hM; rw [i_isTable_u1] at hM; refine AW_sr fun K h => ?_; simp [go_sem, F]; refine h _ ?_; refine AW_seq fun K14 hK14 => ?_; refine AW_if hM (fun h15 hM => ?_) (fun h15 hM => ?_)
        · have g := h15; (try simp at g); have F := And.intro F (And.intro h15 (And.intro g (lT h15))); refine AW_skip ?_; refine hK14 _ ?_; obtain ⟨e16, hU18, hR17⟩ := bind_some hM; clear hM; refine AW_mid (ι := Unit) (fun i => ⟨77, [(1, .one (.box 1 0)), (20, .one (.l (.sl (a0.rows.map TRow.c)))), (21, .one (.l (.int .i64 (a0.rows.length : Int)))), (22, .one (.l (.int .i64 x3)))], [(1, [.l (.int .i64 a0.kind), .l (.int .i64 a0.n), .l (.int .i64 a0.step), .l (.str a0.text), .l (.sl (a0.list.map TValue.c)), .l (.sl (a0.columns.map sC)), .l (.sl (a0.rows.map TRow.c))])], []⟩) (fun i => (.inl i) = e16) ?_ ?_
          · intro K19 hK19; have hM := hU18; clear hU18; refine AW_block ?_; obtain ⟨x4, e20, hM⟩ := bind_some hM; have F := And.intro F (at_f e20); refine AW_sr fun K h => ?_; simp [go_sem, F]; refine h _ ?_; refine AW_seq fun K21 hK21 => ?_; refine AW_sr fun K h => ?_; simp [go_sem, F]; refine h _ ?_; refine AW_if hM (fun h22 hM => ?_) (fun h22 hM => ?_)
            · have g := h22; (try simp at g); have F := And.intro F (And.intro h22 g); refine AW_sr fun K h => ?_; simp [go_sem, F]; refine h _ ?_; obtain rfl := si hM; have hM := hR17; dsimp only at hM; obtain rfl := si hM; have hM := hR10; dsimp only at hM; obtain rfl := si hM; refine AW_ret ?_; simp [go_sem, F]
            · have g := h22; (try simp at g); have F := And.intro F (And.intro h22 g); refine AW_skip ?_; refine hK21 _ ?_; obtain ⟨e23, hU25, hR24⟩ := bind_some hM; clear hM; refine AW_mid (ι := Unit) (fun i => ⟨77, [(1, .one (.box 1 0)), (4, .one (.box 4 0)), (20, .one (.l (.sl (a0.rows.map TRow.c)))), (21, .one (.l (.int .i64 (a0.rows.length : Int)))), (22, .one (.l (.int .i64 x3)))], [(1, [.l (.int .i64 a0.kind), .l (.int .i64 a0.n), .l (.int .i64 a0.step), .l (.str a0.text), .l (.sl (a0.list.map TValue.c)), .l (.sl (a0.columns.map sC)), .l (.sl (a0.rows.map TRow.c))]), (4, [.l (.sl (x4.cells.map iC)), .l (.sl (x4.from_.map TOrigin.c))])], []⟩) (fun i => (.inl i) = e23) ?_ ?_
              · intro K26 hK26; have hM := hU25; clear hU25; refine AW_sr fun K h => ?_; simp [go_sem, F]; refine h _ ?_; refine AW_block ?_; refine AW_lp (ι := Int) (fun i => ⟨77, [(1, .one (.box 1 0)), (4, .one (.box 4 0)), (20, .one (.l (.sl (a0.rows.map TRow.c)))), (21, .one (.l (.int .i64 (a0.rows.length : Int)))), (22, .one (.l (.int .i64 x3))), (34, .one (.l (.sl (x4.cells.map iC)))), (35, .one (.l (.int .i64 (x4.cells.length : Int)))), (36, .one (.l (.int .i64 i)))], [(1, [.l (.int .i64 a0.kind), .l (.int .i64 a0.n), .l (.int .i64 a0.step), .l (.str a0.text), .l (.sl (a0.list.map TValue.c)), .l (.sl (a0.columns.map sC)), .l (.sl (a0.rows.map TRow.c))]), (4, [.l (.sl (x4.cells.map iC)), .l (.sl (x4.from_.map TOrigin.c))])], []⟩) (fun n i => i_isTable_u2 x4 n i = some e23) k 0 hM (by simp [i_isTable_u2]) ?_
                intro KL27 n x5 hL27 hM F; have hM : i_isTable_u2 x4 (n + 1) x5 = some e23 := hM; rw [i_isTable_u2] at hM; refine AW_sr fun K h => ?_; simp [go_sem, F]; refine h _ ?_; refine AW_seq fun K28 hK28 => ?_; refine AW_if hM (fun h29 hM => ?_) (fun h29 hM => ?_)
                · have g := h29; (try simp at g); have F := And.intro F (And.intro h29 (And.intro g (lT h29))); refine AW_skip ?_; refine hK28 _ ?_; refine AW_seq fun K30 hK30 => ?_; refine AW_block ?_; obtain ⟨x6, e31, hM⟩ := bind_some hM; have F := And.intro F (at_f e31); refine AW_sr fun K h => ?_; simp [go_sem, F]; refine h _ ?_; obtain ⟨x7, e32, hM⟩ := bind_some hM; refine AW_sr fun K h => ?_
                  simp [go_sem, F]; refine by_c false (i_isNumber_ctr x6 x7 e32) ?_; simp [go_sem, F]; refine h _ ?_; refine AW_if hM (fun h33 hM => ?_) (fun h33 hM => ?_)
                  · have g := h33; (try simp at g); have F := And.intro F (And.intro h33 g); refine AW_sr fun K h => ?_; simp [go_sem, F]; refine h _ ?_; obtain rfl := si hM; have hM := hR24; dsimp only at hM; obtain rfl := si hM; have hM := hR17; dsimp only at hM; obtain rfl := si hM; have hM := hR10; dsimp only at hM; obtain rfl := si hM; refine AW_ret ?_; simp [go_sem, F]
                  · have g := h33; (try simp at g); have F := And.intro F (And.intro h33 g); refine AW_skip ?_; refine hK30 _ ?_; refine AW_region ?_; simp [go_sem, F]; exact fin hL27 (IntKind.i64.wrap (x5 + 1)) hM
                · have g := h29; (try simp at g); have F := And.intro F (And.intro h29 (And.intro g (lF h29))); refine AW_exit ?_; obtain rfl := si hM; exact fin hK26 () rfl
              · rintro _ rfl; have hM := hR24; dsimp only at hM; refine AW_sr fun K h => ?_; simp [go_sem, F]; refine h _ ?_; refine AW_block ?_; refine AW_lp (ι := Int) (fun i => ⟨77, [(1, .one (.box 1 0)), (4, .one (.box 4 0)), (20, .one (.l (.sl (a0.rows.map TRow.c)))), (21, .one (.l (.int .i64 (a0.rows.length : Int)))), (22, .one (.l (.int .i64 x3))), (45, .one (.l (.sl (x4.from_.map TOrigin.c)))), (46, .one (.l (.int .i64 (x4.from_.length : Int)))), (47, .one (.l (.int .i64 i)))], [(1, [.l (.int .i64 a0.kind), .l (.int .i64 a0.n), .l (.int .i64 a0.step), .l (.str a0.text), .l (.sl (a0.list.map TValue.c)), .l (.sl (a0.columns.map sC)), .l (.sl (a0.rows.map TRow.c))]), (4, [.l (.sl (x4.cells.map iC)), .l (.sl (x4.from_.map TOrigin.c))])], []⟩) (fun n i => i_isTable_u3 x4 n i = some e16) k 0 hM (by simp [i_isTable_u3]) ?_
                intro KL34 n x8 hL34 hM F; have hM : i_isTable_u3 x4 (n + 1) x8 = some e16 := hM; rw [i_isTable_u3] at hM; refine AW_sr fun K h => ?_; simp [go_sem, F]; refine h _ ?_; refine AW_seq fun K35 hK35 => ?_; refine AW_if hM (fun h36 hM => ?_) (fun h36 hM => ?_)
                · have g := h36; (try simp at g); have F := And.intro F (And.intro h36 (And.intro g (lT h36))); refine AW_skip ?_; refine hK35 _ ?_; refine AW_seq fun K37 hK37 => ?_; refine AW_block ?_; obtain ⟨x9, e38, hM⟩ := bind_some hM; have F := And.intro F (at_f e38); refine AW_sr fun K h => ?_; simp [go_sem, F]; refine h _ ?_; obtain ⟨e39, hU41, hR40⟩ := bind_some hM; clear hM; refine AW_mid (ι := Bool) (fun i => ⟨77, [(1, .one (.box 1 0)), (4, .one (.box 4 0)), (20, .one (.l (.sl (a0.rows.map TRow.c)))), (21, .one (.l (.int .i64 (a0.rows.length : Int)))), (22, .one (.l (.int .i64 x3))), (45, .one (.l (.sl (x4.from_.map TOrigin.c)))), (46, .one (.l (.int .i64 (x4.from_.length : Int)))), (47, .one (.l (.int .i64 x8))), (74, .one (.l (.bool i)))], [(1, [.l (.int .i64 a0.kind), .l (.int .i64 a0.n), .l (.int .i64 a0.step), .l (.str a0.text), .l (.sl (a0.list.map TValue.c)), .l (.sl (a0.columns.map sC)), .l (.sl (a0.rows.map TRow.c))]), (4, [.l (.sl (x4.cells.map iC)), .l (.sl (x4.from_.map TOrigin.c))])], []⟩) (fun i => i = e39) ?_ ?_
                  · intro K42 hK42; have hM := hU41; clear hU41; rcases ifM hM with ⟨h43, hM⟩ | ⟨h43, hM⟩
                    · have g := h43; (try simp at g); have F := And.intro F (And.intro h43 (And.intro g (lT h43))); refine AW_quickN 19 mixed (by kernel_rfl) (by kernel_rfl) ?_; simp [go_sem, F]; obtain rfl := si hM; exact fin hK42 true rfl
                    · have g := h43; (try simp at g); have F := And.intro F (And.intro h43 (And.intro g (lF h43))); rcases ifM hM with ⟨h44, hM⟩ | ⟨h44, hM⟩
                      · have g := h44; (try simp at g); have F := And.intro F (And.intro h44 (And.intro g (lT h44))); refine AW_quickN 19 mixed (by kernel_rfl) (by kernel_rfl) ?_; simp [go_sem, F]; obtain rfl := si hM; exact fin hK42 true rfl
                      · have g := h44; (try simp at g); have F := And.intro F (And.intro h44 (And.intro g (lF h44))); rcases ifM hM with ⟨h45, hM⟩ | ⟨h45, hM⟩
                        · have g := h45; (try simp at g); have F := And.intro F (And.intro h45 (And.intro g (lT h45))); obtain ⟨x11, e46, hM⟩ := bind_some hM; have F := And.intro F (at_f e46); obtain ⟨x12, e47, hM⟩ := bind_some hM; refine AW_quickN 19 mixed (by kernel_rfl) (by kernel_rfl) ?_; simp [go_sem, F]; refine by_c false (i_originBefore_ctr x11 x9 x12 e47) ?_; simp [go_sem, F]; obtain rfl := si hM
                          exact fin hK42 (!x12) rfl
                        · have g := h45; (try simp at g); have F := And.intro F (And.intro h45 (And.intro g (lF h45))); refine AW_quickN 19 mixed (by kernel_rfl) (by kernel_rfl) ?_; simp [go_sem, F]; obtain rfl := si hM; exact fin hK42 false rfl
                  · rintro x10 rfl; have hM := hR40; (try dsimp only at hM); refine AW_if hM (fun h48 hM => ?_) (fun h48 hM => ?_)
                    · have g := h48; (try simp at g); have F := And.intro F (And.intro h48 g); refine AW_sr fun K h => ?_; simp [go_sem, F]; refine h _ ?_; obtain rfl := si hM; have hM := hR17; dsimp only at hM; obtain rfl := si hM; have hM := hR10; dsimp only at hM; obtain rfl := si hM; refine AW_ret ?_; simp [go_sem, F]
                    · have g := h48; (try simp at g); have F := And.intro F (And.intro h48 g); refine AW_skip ?_; refine hK37 _ ?_; refine AW_region ?_; simp [go_sem, F]; exact fin hL34 (IntKind.i64.wrap (x8 + 1)) hM
                · have g := h36; (try simp at g); have F := And.intro F (And.intro h36 (And.intro g (lF h36))); refine AW_exit ?_; obtain rfl := si hM; exact fin hK19 () rfl
          · rintro _ rfl; have hM := hR17; dsimp only at hM; refine AW_region ?_; simp [go_sem, F]; exact fin hL13 (IntKind.i64.wrap (x3 + 1)) hM
        · have g := h15; (try simp at g); have F := And.intro F (And.intro h15 (And.intro g (lF h15))); refine AW_exit ?_; obtain rfl := si hM; exact fin hK12 () rfl
      · rintro _ rfl; have hM := hR10; dsimp only at hM; refine AW_sr fun K h => ?_; simp [go_sem, F]; refine h _ ?_; obtain rfl := si hM; refine AW_ret ?_; simp [go_sem, F]
theorem i_DepthOf_all : ∀ (k : Nat), (∀ (a0 : TValue) (r : Int) (hM : i_DepthOf k a0 = some r), Ctr Try.prog 98 [.agg (TValue.c a0)] true [.one (.int .i64 r)]) := by
  intro k
  induction k with
  | zero => intro a0 r hM; simp [i_DepthOf] at hM
  | succ k ih_i_DepthOf =>
    · intro a0 r hM
      rw [i_DepthOf] at hM
      refine walkM Try.func98 Try.ntmps98 Try.results98 fun N w0 hbad F => ?_
      refine AW_sr fun K h => ?_; simp [go_sem, F]; refine h _ ?_; refine AW_sr fun K h => ?_; simp [go_sem, F]; refine h _ ?_; obtain ⟨e1, hU3, hR2⟩ := bind_some hM; clear hM; refine AW_mid (ι := Int) (fun i => ⟨20, [(3, .one (.l (.int .i64 i)))], [], []⟩) (fun i => i = e1) ?_ ?_
      · intro K4 hK4; have hM := hU3; clear hU3; refine AW_sr fun K h => ?_; simp [go_sem, F]; refine h _ ?_; refine AW_block ?_; refine AW_lp (ι := Int × Int) (fun i => ⟨20, [(3, .one (.l (.int .i64 i.1))), (7, .one (.l (.sl (a0.list.map TValue.c)))), (8, .one (.l (.int .i64 (a0.list.length : Int)))), (9, .one (.l (.int .i64 i.2)))], [], []⟩) (fun n i => i_DepthOf_u1 (i_DepthOf k) a0 n i.1 i.2 = some e1) k (0, 0) hM (by simp [i_DepthOf_u1]) ?_
        intro KL5 n ⟨x2, x3⟩ hL5 hM F; have hM : i_DepthOf_u1 (i_DepthOf k) a0 (n + 1) x2 x3 = some e1 := hM; rw [i_DepthOf_u1] at hM; refine AW_sr fun K h => ?_; simp [go_sem, F]; refine h _ ?_; refine AW_seq fun K6 hK6 => ?_; refine AW_if hM (fun h7 hM => ?_) (fun h7 hM => ?_)
        · have g := h7; (try simp at g); have F := And.intro F (And.intro h7 (And.intro g (lT h7))); refine AW_skip ?_; refine hK6 _ ?_; refine AW_seq fun K8 hK8 => ?_; refine AW_block ?_; obtain ⟨x4, e9, hM⟩ := bind_some hM; have F := And.intro F (at_f e9); refine AW_sr fun K h => ?_; simp [go_sem, F]; refine h _ ?_; obtain ⟨x5, e10, hM⟩ := bind_some hM; refine AW_region ?_; simp [go_sem, F]; refine by_c false (ih_i_DepthOf x4 x5 e10) ?_
          simp [go_sem, F]; refine hK8 _ ?_; refine AW_region ?_; simp [go_sem, F]; exact fin hL5 ((if x5 > x2 then x5 else x2), (IntKind.i64.wrap (x3 + 1))) hM
        · have g := h7; (try simp at g); have F := And.intro F (And.intro h7 (And.intro g (lF h7))); refine AW_exit ?_; obtain rfl := si hM; exact fin hK4 x2 rfl
      · rintro x1 rfl; have hM := hR2; (try dsimp only at hM); refine AW_sr fun K h => ?_; simp [go_sem, F]; refine h _ ?_; obtain rfl := si hM; refine AW_ret ?_; simp [go_sem, F]
theorem i_DepthOf_ctr (k : Nat) : ∀ (a0 : TValue) (r : Int) (hM : i_DepthOf k a0 = some r), Ctr Try.prog 98 [.agg (TValue.c a0)] true [.one (.int .i64 r)] := (i_DepthOf_all k)
theorem i_IsValidValue_all : ∀ (k : Nat), (∀ (a0 : TValue) (r : Bool) (hM : i_IsValidValue k a0 = some r), Ctr Try.prog 41 [.agg (TValue.c a0)] true [.one (.bool r)]) := by
  intro k
  induction k with
  | zero => intro a0 r hM; simp [i_IsValidValue] at hM
  | succ k ih_i_IsValidValue =>
    · intro a0 r hM
      rw [i_IsValidValue] at hM
      refine walkM Try.func41 Try.ntmps41 Try.results41 fun N w0 hbad F => ?_
      refine AW_sr fun K h => ?_; simp [go_sem, F]; refine h _ ?_; obtain ⟨e1, hU3, hR2⟩ := bind_some hM; clear hM; refine AW_mid (ι := Bool) (fun i => ⟨185, [(1, .one (.box 1 0)), (3, .one (.l (.bool i)))], [(1, [.l (.int .i64 a0.kind), .l (.int .i64 a0.n), .l (.int .i64 a0.step), .l (.str a0.text), .l (.sl (a0.list.map TValue.c)), .l (.sl (a0.columns.map sC)), .l (.sl (a0.rows.map TRow.c))])], []⟩) (fun i => i = e1) ?_ ?_
      · intro K4 hK4; have hM := hU3; clear hU3; rcases ifM hM with ⟨h5, hM⟩ | ⟨h5, hM⟩
        · have g := h5; (try simp at g); have F := And.intro F (And.intro h5 g); rcases ifM hM with ⟨h6, hM⟩ | ⟨h6, hM⟩
          · have g := h6; (try simp at g); have F := And.intro F (And.intro h6 g); refine AW_region ?_; simp [go_sem, F]; obtain rfl := si hM; exact fin hK4 (decide ((a0.rows.length : Int) = 0)) rfl
          · have g := h6; (try simp at g); have F := And.intro F (And.intro h6 g); refine AW_region ?_; simp [go_sem, F]; obtain rfl := si hM; exact fin hK4 false rfl
        · have g := h5; (try simp at g); have F := And.intro F (And.intro h5 g); refine AW_region ?_; simp [go_sem, F]; obtain rfl := si hM; exact fin hK4 false rfl
      · rintro x1 rfl; have hM := hR2; (try dsimp only at hM); refine AW_seq fun K7 hK7 => ?_; refine AW_sr fun K h => ?_; simp [go_sem, F]; refine h _ ?_; refine AW_block ?_; refine AW_sr fun K h => ?_; simp [go_sem, F]; refine h _ ?_; refine AW_if hM (fun h8 hM => ?_) (fun h8 hM => ?_)
        · have g := h8; (try simp at g); have F := And.intro F (And.intro h8 g); obtain ⟨e9, hU11, hR10⟩ := bind_some hM; clear hM; refine AW_mid (ι := Bool) (fun i => ⟨185, [(2, .one (.l (.bool i)))], [], []⟩) (fun i => i = e9) ?_ ?_
          · intro K12 hK12; have hM := hU11; clear hU11; rcases ifM hM with ⟨h13, hM⟩ | ⟨h13, hM⟩
            · have g := h13; (try simp at g); have F := And.intro F (And.intro h13 g); rcases ifM hM with ⟨h14, hM⟩ | ⟨h14, hM⟩
              · have g := h14; (try simp at g); have F := And.intro F (And.intro h14 g); rcases ifM hM with ⟨h15, hM⟩ | ⟨h15, hM⟩
                · have g := h15; (try simp at g); have F := And.intro F (And.intro h15 g); obtain ⟨x3, e16, hM⟩ := bind_some hM; refine AW_region ?_; simp [go_sem, F]; refine by_c false (i_isNumber_ctr a0.n x3 e16) ?_; simp [go_sem, F]; obtain rfl := si hM; exact fin hK12 x3 rfl
                · have g := h15; (try simp at g); have F := And.intro F (And.intro h15 g); refine AW_region ?_; simp [go_sem, F]; obtain rfl := si hM; exact fin hK12 false rfl
              · have g := h14; (try simp at g); have F := And.intro F (And.intro h14 g); refine AW_region ?_; simp [go_sem, F]; obtain rfl := si hM; exact fin hK12 false rfl
            · have g := h13; (try simp at g); have F := And.intro F (And.intro h13 g); refine AW_region ?_; simp [go_sem, F]; obtain rfl := si hM; exact fin hK12 false rfl
          · rintro x2 rfl; have hM := hR10; (try dsimp only at hM); obtain rfl := si hM; refine AW_ret ?_; simp [go_sem, F]
        · have g := h8; (try simp at g); have F := And.intro F (And.intro h8 g); refine AW_sr fun K h => ?_; simp [go_sem, F]; refine h _ ?_; refine AW_if hM (fun h17 hM => ?_) (fun h17 hM => ?_)
          · have g := h17; (try simp at g); have F := And.intro F (And.intro h17 g); obtain ⟨e18, hU20, hR19⟩ := bind_some hM; clear hM; refine AW_mid (ι := Bool) (fun i => ⟨185, [(2, .one (.l (.bool i)))], [], []⟩) (fun i => i = e18) ?_ ?_
            · intro K21 hK21; have hM := hU20; clear hU20; rcases ifM hM with ⟨h22, hM⟩ | ⟨h22, hM⟩
              · have g := h22; (try simp at g); have F := And.intro F (And.intro h22 g); rcases ifM hM with ⟨h23, hM⟩ | ⟨h23, hM⟩
                · have g := h23; (try simp at g); have F := And.intro F (And.intro h23 g); rcases ifM hM with ⟨h24, hM⟩ | ⟨h24, hM⟩
                  · have g := h24; (try simp at g); have F := And.intro F (And.intro h24 g); obtain ⟨x5, e25, hM⟩ := bind_some hM; refine AW_region ?_; simp [go_sem, F]; refine by_c false (i_IsValidText_ctr k a0.text x5 e25) ?_; simp [go_sem, F]; obtain rfl := si hM; exact fin hK21 x5 rfl
                  · have g := h24; (try simp at g); have F := And.intro F (And.intro h24 g); refine AW_region ?_; simp [go_sem, F]; obtain rfl := si hM; exact fin hK21 false rfl
                · have g := h23; (try simp at g); have F := And.intro F (And.intro h23 g); refine AW_region ?_; simp [go_sem, F]; obtain rfl := si hM; exact fin hK21 false rfl
              · have g := h22; (try simp at g); have F := And.intro F (And.intro h22 g); refine AW_region ?_; simp [go_sem, F]; obtain rfl := si hM; exact fin hK21 false rfl
            · rintro x4 rfl; have hM := hR19; (try dsimp only at hM); obtain rfl := si hM; refine AW_ret ?_; simp [go_sem, F]
          · have g := h17; (try simp at g); have F := And.intro F (And.intro h17 g); refine AW_sr fun K h => ?_; simp [go_sem, F]; refine h _ ?_; refine AW_if hM (fun h26 hM => ?_) (fun h26 hM => ?_)
            · have g := h26; (try simp at g); have F := And.intro F (And.intro h26 g); obtain ⟨e27, hU29, hR28⟩ := bind_some hM; clear hM; refine AW_mid (ι := Bool) (fun i => ⟨185, [(2, .one (.l (.bool i)))], [], []⟩) (fun i => i = e27) ?_ ?_
              · intro K30 hK30; have hM := hU29; clear hU29; rcases ifM hM with ⟨h31, hM⟩ | ⟨h31, hM⟩
                · have g := h31; (try simp at g); have F := And.intro F (And.intro h31 g); rcases ifM hM with ⟨h32, hM⟩ | ⟨h32, hM⟩
                  · have g := h32; (try simp at g); have F := And.intro F (And.intro h32 g); obtain ⟨x7, e33, hM⟩ := bind_some hM; rcases ifM hM with ⟨h34, hM⟩ | ⟨h34, hM⟩
                    · have g := h34; (try simp at g); have F := And.intro F (And.intro h34 g); obtain ⟨x8, e35, hM⟩ := bind_some hM; refine AW_region ?_; simp [go_sem, F]; refine by_c false (i_isNumber_ctr a0.n x7 e33) ?_; simp [go_sem, F]; refine by_c false (i_isNumber_ctr a0.step x8 e35) ?_; simp [go_sem, F]; obtain rfl := si hM; exact fin hK30 x8 rfl
                    · have g := h34; (try simp at g); have F := And.intro F (And.intro h34 g); refine AW_region ?_; simp [go_sem, F]; refine by_c false (i_isNumber_ctr a0.n x7 e33) ?_; simp [go_sem, F]; obtain rfl := si hM; exact fin hK30 false rfl
                  · have g := h32; (try simp at g); have F := And.intro F (And.intro h32 g); refine AW_region ?_; simp [go_sem, F]; obtain rfl := si hM; exact fin hK30 false rfl
                · have g := h31; (try simp at g); have F := And.intro F (And.intro h31 g); refine AW_region ?_; simp [go_sem, F]; obtain rfl := si hM; exact fin hK30 false rfl
              · rintro x6 rfl; have hM := hR28; (try dsimp only at hM); obtain rfl := si hM; refine AW_ret ?_; simp [go_sem, F]
            · have g := h26; (try simp at g); have F := And.intro F (And.intro h26 g); refine AW_sr fun K h => ?_; simp [go_sem, F]; refine h _ ?_; refine AW_if hM (fun h36 hM => ?_) (fun h36 hM => ?_)
              · have g := h36; (try simp at g); have F := And.intro F (And.intro h36 g); obtain ⟨e37, hU39, hR38⟩ := bind_some hM; clear hM; refine AW_mid (ι := Bool) (fun i => ⟨185, [(2, .one (.l (.bool i)))], [], []⟩) (fun i => i = e37) ?_ ?_
                · intro K40 hK40; have hM := hU39; clear hU39; rcases ifM hM with ⟨h41, hM⟩ | ⟨h41, hM⟩
                  · have g := h41; (try simp at g); have F := And.intro F (And.intro h41 g); rcases ifM hM with ⟨h42, hM⟩ | ⟨h42, hM⟩
                    · have g := h42; (try simp at g); have F := And.intro F (And.intro h42 g); rcases ifM hM with ⟨h43, hM⟩ | ⟨h43, hM⟩
                      · have g := h43; (try simp at g); have F := And.intro F (And.intro h43 g); obtain ⟨x10, e44, hM⟩ := bind_some hM; refine AW_region ?_; simp [go_sem, F]; refine by_c false (i_within_ctr a0.n 1 8 x10 e44) ?_; simp [go_sem, F]; obtain rfl := si hM; exact fin hK40 x10 rfl
                      · have g := h43; (try simp at g); have F := And.intro F (And.intro h43 g); refine AW_region ?_; simp [go_sem, F]; obtain rfl := si hM; exact fin hK40 false rfl
                    · have g := h42; (try simp at g); have F := And.intro F (And.intro h42 g); refine AW_region ?_; simp [go_sem, F]; obtain rfl := si hM; exact fin hK40 false rfl
                  · have g := h41; (try simp at g); have F := And.intro F (And.intro h41 g); refine AW_region ?_; simp [go_sem, F]; obtain rfl := si hM; exact fin hK40 false rfl
                · rintro x9 rfl; have hM := hR38; (try dsimp only at hM); obtain rfl := si hM; refine AW_ret ?_; simp [go_sem, F]
              · have g := h36; (try simp at g); have F := And.intro F (And.intro h36 g); refine AW_sr fun K h => ?_; simp [go_sem, F]; refine h _ ?_; refine AW_if hM (fun h45 hM => ?_) (fun h45 hM => ?_)
                · have g := h45; (try simp at g); have F := And.intro F (And.intro h45 g); obtain ⟨e46, hU48, hR47⟩ := bind_some hM; clear hM; refine AW_mid (ι := Bool) (fun i => ⟨185, [(2, .one (.l (.bool i)))], [], []⟩) (fun i => i = e46) ?_ ?_
                  · intro K49 hK49; have hM := hU48; clear hU48; rcases ifM hM with ⟨h50, hM⟩ | ⟨h50, hM⟩
                    · have g := h50; (try simp at g); have F := And.intro F (And.intro h50 g); rcases ifM hM with ⟨h51, hM⟩ | ⟨h51, hM⟩
                      · have g := h51; (try simp at g); have F := And.intro F (And.intro h51 g); rcases ifM hM with ⟨h52, hM⟩ | ⟨h52, hM⟩
                        · have g := h52; (try simp at g); have F := And.intro F (And.intro h52 g); rcases ifM hM with ⟨h53, hM⟩ | ⟨h53, hM⟩
                          · have g := h53; (try simp at g); have F := And.intro F (And.intro h53 g); obtain ⟨x12, e54, hM⟩ := bind_some hM; refine AW_region ?_; simp [go_sem, F]; refine by_c false (i_isTable_ctr k a0 x12 e54) ?_; simp [go_sem, F]; obtain rfl := si hM; exact fin hK49 x12 rfl
                          · have g := h53; (try simp at g); have F := And.intro F (And.intro h53 g); refine AW_region ?_; simp [go_sem, F]; obtain rfl := si hM; exact fin hK49 false rfl
                        · have g := h52; (try simp at g); have F := And.intro F (And.intro h52 g); refine AW_region ?_; simp [go_sem, F]; obtain rfl := si hM; exact fin hK49 false rfl
                      · have g := h51; (try simp at g); have F := And.intro F (And.intro h51 g); refine AW_region ?_; simp [go_sem, F]; obtain rfl := si hM; exact fin hK49 false rfl
                    · have g := h50; (try simp at g); have F := And.intro F (And.intro h50 g); refine AW_region ?_; simp [go_sem, F]; obtain rfl := si hM; exact fin hK49 false rfl
                  · rintro x11 rfl; have hM := hR47; (try dsimp only at hM); obtain rfl := si hM; refine AW_ret ?_; simp [go_sem, F]
                · have g := h45; (try simp at g); have F := And.intro F (And.intro h45 g); refine AW_sr fun K h => ?_; simp [go_sem, F]; refine h _ ?_; refine AW_if hM (fun h55 hM => ?_) (fun h55 hM => ?_)
                  · have g := h55; (try simp at g); have F := And.intro F (And.intro h55 g); obtain ⟨e56, hU58, hR57⟩ := bind_some hM; clear hM; refine AW_mid (ι := Unit) (fun i => ⟨185, [(1, .one (.box 1 0))], [(1, [.l (.int .i64 a0.kind), .l (.int .i64 a0.n), .l (.int .i64 a0.step), .l (.str a0.text), .l (.sl (a0.list.map TValue.c)), .l (.sl (a0.columns.map sC)), .l (.sl (a0.rows.map TRow.c))])], []⟩) (fun i => (.inl i) = e56) ?_ ?_
                    · intro K59 hK59; have hM := hU58; clear hU58; refine AW_sr fun K h => ?_; simp [go_sem, F]; refine h _ ?_; refine AW_block ?_; refine AW_lp (ι := Int) (fun i => ⟨185, [(1, .one (.box 1 0)), (124, .one (.l (.sl (a0.list.map TValue.c)))), (125, .one (.l (.int .i64 (a0.list.length : Int)))), (126, .one (.l (.int .i64 i)))], [(1, [.l (.int .i64 a0.kind), .l (.int .i64 a0.n), .l (.int .i64 a0.step), .l (.str a0.text), .l (.sl (a0.list.map TValue.c)), .l (.sl (a0.columns.map sC)), .l (.sl (a0.rows.map TRow.c))])], []⟩) (fun n i => i_IsValidValue_u1 (i_IsValidValue k) a0 n i = some e56) k 0 hM (by simp [i_IsValidValue_u1]) ?_
                      intro KL60 n x13 hL60 hM F; have hM : i_IsValidValue_u1 (i_IsValidValue k) a0 (n + 1) x13 = some e56 := hM; rw [i_IsValidValue_u1] at hM; refine AW_sr fun K h => ?_; simp [go_sem, F]; refine h _ ?_; refine AW_seq fun K61 hK61 => ?_; refine AW_if hM (fun h62 hM => ?_) (fun h62 hM => ?_)
                      · have g := h62; (try simp at g); have F := And.intro F (And.intro h62 (And.intro g (lT h62))); refine AW_skip ?_; refine hK61 _ ?_; refine AW_seq fun K63 hK63 => ?_; refine AW_block ?_; obtain ⟨x14, e64, hM⟩ := bind_some hM; have F := And.intro F (at_f e64); refine AW_sr fun K h => ?_; simp [go_sem, F]; refine h _ ?_; obtain ⟨e65, hU67, hR66⟩ := bind_some hM; clear hM; refine AW_mid (ι := Bool) (fun i => ⟨185, [(1, .one (.box 1 0)), (124, .one (.l (.sl (a0.list.map TValue.c)))), (125, .one (.l (.int .i64 (a0.list.length : Int)))), (126, .one (.l (.int .i64 x13))), (147, .one (.l (.bool i)))], [(1, [.l (.int .i64 a0.kind), .l (.int .i64 a0.n), .l (.int .i64 a0.step), .l (.str a0.text), .l (.sl (a0.list.map TValue.c)), .l (.sl (a0.columns.map sC)), .l (.sl (a0.rows.map TRow.c))])], []⟩) (fun i => i = e65) ?_ ?_
                        · intro K68 hK68; have hM := hU67; clear hU67; rcases ifM hM with ⟨h69, hM⟩ | ⟨h69, hM⟩
                          · have g := h69; (try simp at g); have F := And.intro F (And.intro h69 g); rcases ifM hM with ⟨h70, hM⟩ | ⟨h70, hM⟩
                            · have g := h70; (try simp at g); have F := And.intro F (And.intro h70 g); rcases ifM hM with ⟨h71, hM⟩ | ⟨h71, hM⟩
                              · have g := h71; (try simp at g); have F := And.intro F (And.intro h71 g); refine AW_region ?_; simp [go_sem, F]; obtain rfl := si hM; exact fin hK68 true rfl
                              · have g := h71; (try simp at g); have F := And.intro F (And.intro h71 g); obtain ⟨x16, e72, hM⟩ := bind_some hM; refine AW_region ?_; simp [go_sem, F]; refine by_c false (ih_i_IsValidValue x14 x16 e72) ?_; simp [go_sem, F]; obtain rfl := si hM; exact fin hK68 (!x16) rfl
                            · have g := h70; (try simp at g); have F := And.intro F (And.intro h70 g); obtain ⟨x17, e73, hM⟩ := bind_some hM; refine AW_region ?_; simp [go_sem, F]; refine by_c false (ih_i_IsValidValue x14 x17 e73) ?_; simp [go_sem, F]; obtain rfl := si hM; exact fin hK68 (!x17) rfl
                          · have g := h69; (try simp at g); have F := And.intro F (And.intro h69 g); obtain ⟨x18, e74, hM⟩ := bind_some hM; refine AW_region ?_; simp [go_sem, F]; refine by_c false (ih_i_IsValidValue x14 x18 e74) ?_; simp [go_sem, F]; obtain rfl := si hM; exact fin hK68 (!x18) rfl
                        · rintro x15 rfl; have hM := hR66; (try dsimp only at hM); refine AW_if hM (fun h75 hM => ?_) (fun h75 hM => ?_)
                          · have g := h75; (try simp at g); have F := And.intro F (And.intro h75 g); refine AW_sr fun K h => ?_; simp [go_sem, F]; refine h _ ?_; obtain rfl := si hM; have hM := hR57; dsimp only at hM; obtain rfl := si hM; refine AW_ret ?_; simp [go_sem, F]
                          · have g := h75; (try simp at g); have F := And.intro F (And.intro h75 g); refine AW_skip ?_; refine hK63 _ ?_; refine AW_region ?_; simp [go_sem, F]; exact fin hL60 (IntKind.i64.wrap (x13 + 1)) hM
                      · have g := h62; (try simp at g); have F := And.intro F (And.intro h62 (And.intro g (lF h62))); refine AW_exit ?_; obtain rfl := si hM; exact fin hK59 () rfl
                    · rintro _ rfl; have hM := hR57; dsimp only at hM; obtain ⟨e76, hU78, hR77⟩ := bind_some hM; clear hM; refine AW_mid (ι := Bool) (fun i => ⟨185, [(2, .one (.l (.bool i)))], [], []⟩) (fun i => i = e76) ?_ ?_
                      · intro K79 hK79; have hM := hU78; clear hU78; rcases ifM hM with ⟨h80, hM⟩ | ⟨h80, hM⟩
                        · have g := h80; (try simp at g); have F := And.intro F (And.intro h80 g); rcases ifM hM with ⟨h81, hM⟩ | ⟨h81, hM⟩
                          · have g := h81; (try simp at g); have F := And.intro F (And.intro h81 g); rcases ifM hM with ⟨h82, hM⟩ | ⟨h82, hM⟩
                            · have g := h82; (try simp at g); have F := And.intro F (And.intro h82 g); rcases ifM hM with ⟨h83, hM⟩ | ⟨h83, hM⟩
                              · have g := h83; (try simp at g); have F := And.intro F (And.intro h83 g); rcases ifM hM with ⟨h84, hM⟩ | ⟨h84, hM⟩
                                · have g := h84; (try simp at g); have F := And.intro F (And.intro h84 g); rcases ifM hM with ⟨h85, hM⟩ | ⟨h85, hM⟩
                                  · have g := h85; (try simp at g); have F := And.intro F (And.intro h85 (And.intro g (eT h85))); obtain ⟨x20, e86, hM⟩ := bind_some hM; refine AW_region ?_; simp [go_sem, F]; refine by_c false (i_DepthOf_ctr k a0 x20 e86) ?_; simp [go_sem, F]; obtain rfl := si hM; exact fin hK79 (decide (x20 ≤ 3)) rfl
                                  · have g := h85; (try simp at g); have F := And.intro F (And.intro h85 (And.intro g (eF h85))); refine AW_region ?_; simp [go_sem, F]; obtain rfl := si hM; exact fin hK79 false rfl
                                · have g := h84; (try simp at g); have F := And.intro F (And.intro h84 g); refine AW_region ?_; simp [go_sem, F]; obtain rfl := si hM; exact fin hK79 false rfl
                              · have g := h83; (try simp at g); have F := And.intro F (And.intro h83 g); refine AW_region ?_; simp [go_sem, F]; obtain rfl := si hM; exact fin hK79 false rfl
                            · have g := h82; (try simp at g); have F := And.intro F (And.intro h82 g); refine AW_region ?_; simp [go_sem, F]; obtain rfl := si hM; exact fin hK79 false rfl
                          · have g := h81; (try simp at g); have F := And.intro F (And.intro h81 g); refine AW_region ?_; simp [go_sem, F]; obtain rfl := si hM; exact fin hK79 false rfl
                        · have g := h80; (try simp at g); have F := And.intro F (And.intro h80 g); refine AW_region ?_; simp [go_sem, F]; obtain rfl := si hM; exact fin hK79 false rfl
                      · rintro x19 rfl; have hM := hR77; (try dsimp only at hM); obtain rfl := si hM; refine AW_ret ?_; simp [go_sem, F]
                  · have g := h55; (try simp at g); have F := And.intro F (And.intro h55 g); refine AW_skip ?_; refine hK7 _ ?_; refine AW_sr fun K h => ?_; simp [go_sem, F]; refine h _ ?_; obtain rfl := si hM; refine AW_ret ?_; simp [go_sem, F]
theorem i_IsValidValue_ctr (k : Nat) : ∀ (a0 : TValue) (r : Bool) (hM : i_IsValidValue k a0 = some r), Ctr Try.prog 41 [.agg (TValue.c a0)] true [.one (.bool r)] := (i_IsValidValue_all k)
theorem s_l1In_ctr (a0 : Int) (a1 : Int) (a2 : Int) (r : Bool) (hM : s_l1In a0 a1 a2 = some r) : Ctr Try.prog 45 [.one (.int .i64 a0), .one (.int .i64 a1), .one (.int .i64 a2)] true [.one (.bool r)] := by
  unfold s_l1In at hM
  refine walkM Try.func45 Try.ntmps45 Try.results45 fun N w0 hbad F => ?_
  refine AW_sr fun K h => ?_; simp [go_sem, F]; refine h _ ?_; obtain ⟨e1, hU3, hR2⟩ := bind_some hM; clear hM; refine AW_mid (ι := Bool) (fun i => ⟨15, [(6, .one (.l (.bool i)))], [], []⟩) (fun i => i = e1) ?_ ?_
  · intro K4 hK4; have hM := hU3; clear hU3; rcases ifM hM with ⟨h5, hM⟩ | ⟨h5, hM⟩
    · have g := h5; (try simp at g); have F := And.intro F (And.intro h5 (And.intro g (eT h5))); refine AW_region ?_; simp [go_sem, F]; obtain rfl := si hM; exact fin hK4 (decide (a0 ≤ a2)) rfl
    · have g := h5; (try simp at g); have F := And.intro F (And.intro h5 (And.intro g (eF h5))); refine AW_region ?_; simp [go_sem, F]; obtain rfl := si hM; exact fin hK4 false rfl
  · rintro x1 rfl; have hM := hR2; (try dsimp only at hM); obtain rfl := si hM; refine AW_ret ?_; simp [go_sem, F]
end Go.Proofs.Ytbknilpmpjjfpaa
