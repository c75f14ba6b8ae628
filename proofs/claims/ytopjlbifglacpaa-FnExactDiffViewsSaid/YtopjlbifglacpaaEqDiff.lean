/- The laws' comparison of Diff: of two that read as the same datum it says true. Conditions: none. Written by a program of mine. -/
import Derived.Test.YtopjlbifglacpaaNew
import Derived.Test.YtopjlbifglacpaaTyDiff
import Derived.Test.YtopjlbifglacpaaEqChange
namespace Go.Proofs.Ytopjlbifglacpaa
open Go.RowKit

set_option maxHeartbeats 2000000 in
set_option maxRecDepth 100000 in
theorem eqDiff_same (w : World) (x : TDiff) (cs cs' : List Value) (F F' : List Nat) (h : Rep w x.d cs F) (k : Rep w x.d cs' F') :
    Calls Try.prog 26 #[.agg cs.toArray, .agg cs'.toArray] w fun e w' => e = .returned (.bool true) ∧ Below w.heap.size w w' := by
  obtain ⟨A1, c1, F1, rfl, _, i0, q1⟩ := TDiff.open_ h
  obtain ⟨A1', c1', F1', rfl, _, i0', q1'⟩ := TDiff.open_ k
  clear h k
  go_enter Try.func26, Try.ntmps26
  go_wp2_with (first | (go_at_call 68; go_must (refine (eqChangeS_same _ _ _ x.changes F1 F1' (q1.below (bnew (bnew (Below.refl _ _) _) _)) (q1'.below (bnew (bnew (Below.refl _ _) _) _))).mono ?_; rintro e w1 ⟨rfl, hb1⟩; have B1 := bnext (show Below w.heap.size w _ from (bnew (bnew (Below.refl _ _) _) _)) hb1; have hc1_ := (bcell hb1).1; have z1_0 : w.heap.size < w1.heap.size := Nat.lt_of_lt_of_le (by first | (simp; done) | assumption | (simp; omega)) hb1.size; have z1_1 : w.heap.size + 1 < w1.heap.size := Nat.lt_of_lt_of_le (by first | (simp; done) | assumption | (simp; omega)) hb1.size)))
  go_ret
  exact ⟨rfl, B1⟩

end Go.Proofs.Ytopjlbifglacpaa
