/- FnExactEditEngineAll: the mirrored law answers true. Written by a program of mine. -/
import Derived.Test.YtbknilpmpjjfpaaGreatLs
import Derived.Test.YtbknilpmpjjfpaaGreatEditEngineAllL
import Derived.Test.YtbknilpmpjjfpaaGreatLaFnExactEditEngineAll
import Derived.Test.YtbknilpmpjjfpaaGreatMkS
set_option linter.unusedSimpArgs false
set_option linter.unusedVariables false
namespace Go.Proofs.YtbknilpmpjjfpaaGreat
open Go.RowKit Am
set_option maxHeartbeats 2000000 in
theorem FnExactEditEngineAll_law (x0 : TEngine) (h0 : DOkL x0.c) (x1 : List TEdit) (h1 : DOk (.sl (x1.map TEdit.c))) : ∃ k, w_FnExactEditEngineAll k x0 x1 = some true := by
  rcases szR_cut (b := TEngine.bk x0) (left := 1048576) (by omega) with ⟨c0, e0, g0, q0, p0, r0⟩ | ⟨e0, q0⟩
  rotate_left
  · refine Ev.get ?_
    refine (w_szEngine_law x0 h0).mono ?_
    rintro k z0
    unfold w_FnExactEditEngineAll
    rw [z0 1048576 (by omega) (by omega), Option.bind_some, e0, if_pos (by decide)]
  rcases szR_cut (b := bkS TEdit.bk x1) (left := c0) r0 with ⟨c1, e1, g1, q1, p1, r1⟩ | ⟨e1, q1⟩
  rotate_left
  · refine Ev.get ?_
    refine ((w_szEngine_law x0 h0).and (w_szEditS_law x1 h1)).mono ?_
    rintro k ⟨z0, z1⟩
    unfold w_FnExactEditEngineAll
    rw [z0 1048576 (by omega) (by omega), Option.bind_some, e0, if_neg g0, z1 c0 p0 r0, Option.bind_some, e1, if_pos (by decide)]
  have b0 : TEngine.bk x0 ≤ 1048576 := by omega
  have b1 : bkS TEdit.bk x1 ≤ 1048576 := by omega
  obtain ⟨v, vb0, vb1, ag⟩ := EditEngineAll_agree x0 h0 b0 x1 h1 b1
  refine Ev.get ?_
  have u0 := TEngine.cnV_bk x0
  have wk0 : wr? TEngine.markV TEngine.cnV (1) x0 = some (TEngine.markV x0 (1), 1 + ((TEngine.cnV x0 : Nat) : Int)) := wr_ok (by omega) (by omega)
  have u1 := TEdit.cnL_bk x1
  have wk1 : wr? TEdit.markL TEdit.cnL (1 + ((TEngine.cnV x0 : Nat) : Int)) x1 = some (TEdit.markL x1 (1 + ((TEngine.cnV x0 : Nat) : Int)), 1 + ((TEngine.cnV x0 : Nat) : Int) + ((TEdit.cnL x1 : Nat) : Int)) := wr_ok (by omega) (by omega)
  have kn : ¬ (1 + ((TEngine.cnV x0 : Nat) : Int) + ((TEdit.cnL x1 : Nat) : Int) < 0) := by omega
  have ur0 := TEngine.cnV_bk v.1
  have wr0 : wr? TEngine.markV TEngine.cnV (1) v.1 = some (TEngine.markV v.1 (1), 1 + ((TEngine.cnV v.1 : Nat) : Int)) := wr_ok (by omega) (by omega)
  have hd0 : hd? (1) (TEngine.cnV v.1) = some (1 + ((TEngine.cnV v.1 : Nat) : Int)) := hd_ok (by omega) (by omega)
  have hn0 : ¬ (1 + ((TEngine.cnV v.1 : Nat) : Int) < 0) := by omega
  have ur1 := intCnL_bk v.2
  have wr1 : wr? intMarkL intCnL (1 + ((TEngine.cnV v.1 : Nat) : Int)) v.2 = some (intMarkL v.2 (1 + ((TEngine.cnV v.1 : Nat) : Int)), 1 + ((TEngine.cnV v.1 : Nat) : Int) + ((intCnL v.2 : Nat) : Int)) := wr_ok (by omega) (by omega)
  have hd1 : hd? (1 + ((TEngine.cnV v.1 : Nat) : Int)) (intCnL v.2) = some (1 + ((TEngine.cnV v.1 : Nat) : Int) + ((intCnL v.2 : Nat) : Int)) := hd_ok (by omega) (by omega)
  have hn1 : ¬ (1 + ((TEngine.cnV v.1 : Nat) : Int) + ((intCnL v.2 : Nat) : Int) < 0) := by omega
  refine ((w_szEngine_law x0 h0).and ((w_szEditS_law x1 h1).and ((ag).and ((w_toEngine_law x0 b0).and ((w_eqEngine_law x0 (by omega)).and ((w_toEditS_law x1 b1).and ((w_eqEditS_law x1 (by omega)).and ((w_eqEngine_law v.1 vb0).and (w_eqIntS_law v.2 vb1))))))))).mono ?_
  rintro k ⟨z0, z1, ⟨aS, aI⟩, to0, eq0, to1, eq1, eqr0, eqr1⟩
  unfold w_FnExactEditEngineAll
  rw [z0 1048576 (by omega) (by omega), Option.bind_some, e0, if_neg g0, z1 c0 p0 r0, Option.bind_some, e1, if_neg g1]
  simp [aS, aI, to0, eq0, to1, eq1, eqr0, eqr1, wk0, wk1, kn, wr0, hd0, hn0, wr1, hd1, hn1]
end Go.Proofs.YtbknilpmpjjfpaaGreat
