/- The size counts of Diff and of slices of them. Conditions: the count begins between 0 and 1048576. Written by a program of mine. -/
import Derived.Test.YtopjlbifglacpaaTyDiff
import Derived.Test.YtopjlbifglacpaaSzChange
namespace Go.Proofs.Ytopjlbifglacpaa
open Go.RowKit

set_option maxHeartbeats 1000000 in
theorem szDiff_any (w : World) (x : TDiff) (cs : List Value) (F : List Nat) (left : Int) (h : Rep w x.d cs F) (h0 : 0 ≤ left) (h1 : left ≤ 1048576) :
    Calls Try.prog 22 #[.agg cs.toArray, .int .i64 left] w fun e w' => ∃ r, e = .returned (.int .i64 r) ∧ SzR (bk x.d) left r ∧ Below w.heap.size w w' := by
  obtain ⟨A1, c1, F1, rfl, _, i0, q1⟩ := TDiff.open_ h
  have HB := Lib.hid x.bk_
  clear h i0
  have B0 := Below.refl w.heap.size w
  go_enter Try.func22, Try.ntmps22
  go_wp2_with (first | (go_at_call 66; refine (szChangeS_any _ _ x.changes F1 _ (q1.alloc _) (by omega) (by omega)).mono ?_; (rintro e w1 ⟨r1, rfl, (⟨g1, rfl⟩ | ⟨g1, rfl⟩), hb1⟩ <;> (have hc1_ := (bcell hb1).1; have z1 : w.heap.size < w1.heap.size := Nat.lt_of_lt_of_le (by first | simp | assumption) hb1.size))))
  all_goals go_ret
  all_goals refine ⟨_, rfl, by rw [HB.out]; unfold SzR; omega, ?_⟩
  all_goals first | exact (bnext (bnew B0 _) hb1) | exact (bnew B0 _)

end Go.Proofs.Ytopjlbifglacpaa
