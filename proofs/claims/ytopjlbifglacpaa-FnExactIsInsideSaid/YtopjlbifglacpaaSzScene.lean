/- The size counts of Scene and of slices of them. Conditions: the count begins between 0 and 1048576. Written by a program of mine. -/
import Derived.Test.YtopjlbifglacpaaTyScene
import Derived.Test.YtopjlbifglacpaaSzMark
namespace Go.Proofs.Ytopjlbifglacpaa
open Go.RowKit

set_option maxHeartbeats 1000000 in
theorem szScene_any (w : World) (x : TScene) (cs : List Value) (F : List Nat) (left : Int) (h : Rep w x.d cs F) (h0 : 0 ≤ left) (h1 : left ≤ 1048576) :
    Calls Try.prog 17 #[.agg cs.toArray, .int .i64 left] w fun e w' => ∃ r, e = .returned (.int .i64 r) ∧ SzR (bk x.d) left r ∧ Below w.heap.size w w' := by
  obtain ⟨A2, c2, F2, rfl, _, i0, i1, q2⟩ := TScene.open_ h
  have HB := Lib.hid x.bk_
  clear h i0 i1
  have B0 := Below.refl w.heap.size w
  go_enter Try.func17, Try.ntmps17
  go_wp2_with (first | (go_at_call 63; refine (szMarkS_any _ _ x.marks F2 _ (q2.alloc _) (by omega) (by omega)).mono ?_; (rintro e w1 ⟨r1, rfl, (⟨g1, rfl⟩ | ⟨g1, rfl⟩), hb1⟩ <;> (have hc1_ := (bcell hb1).1; have z1 : w.heap.size < w1.heap.size := Nat.lt_of_lt_of_le (by first | simp | assumption) hb1.size))))
  all_goals go_ret
  all_goals refine ⟨_, rfl, by rw [HB.out]; unfold SzR; omega, ?_⟩
  all_goals first | exact (bnext (bnew B0 _) hb1) | exact (bnew B0 _)

end Go.Proofs.Ytopjlbifglacpaa
