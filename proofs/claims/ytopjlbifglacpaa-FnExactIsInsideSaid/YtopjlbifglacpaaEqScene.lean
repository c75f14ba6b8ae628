/- The laws' comparison of Scene: of two that read as the same datum it says true. Conditions: none. Written by a program of mine. -/
import Derived.Test.YtopjlbifglacpaaNew
import Derived.Test.YtopjlbifglacpaaTyScene
import Derived.Test.YtopjlbifglacpaaEqMark
namespace Go.Proofs.Ytopjlbifglacpaa
open Go.RowKit

set_option maxHeartbeats 2000000 in
set_option maxRecDepth 100000 in
theorem eqScene_same (w : World) (x : TScene) (cs cs' : List Value) (F F' : List Nat) (h : Rep w x.d cs F) (k : Rep w x.d cs' F') :
    Calls Try.prog 21 #[.agg cs.toArray, .agg cs'.toArray] w fun e w' => e = .returned (.bool true) ∧ Below w.heap.size w w' := by
  obtain ⟨A2, c2, F2, rfl, _, i0, i1, q2⟩ := TScene.open_ h
  obtain ⟨A2', c2', F2', rfl, _, i0', i1', q2'⟩ := TScene.open_ k
  clear h k
  go_enter Try.func21, Try.ntmps21
  go_wp2_with (first | (go_at_call 65; go_must (refine (eqMarkS_same _ _ _ x.marks F2 F2' (q2.below (bnew (bnew (Below.refl _ _) _) _)) (q2'.below (bnew (bnew (Below.refl _ _) _) _))).mono ?_; rintro e w1 ⟨rfl, hb1⟩; have B1 := bnext (show Below w.heap.size w _ from (bnew (bnew (Below.refl _ _) _) _)) hb1; have hc1_ := (bcell hb1).1; have z1_0 : w.heap.size < w1.heap.size := Nat.lt_of_lt_of_le (by first | (simp; done) | assumption | (simp; omega)) hb1.size; have z1_1 : w.heap.size + 1 < w1.heap.size := Nat.lt_of_lt_of_le (by first | (simp; done) | assumption | (simp; omega)) hb1.size)))
  go_ret
  exact ⟨rfl, B1⟩

end Go.Proofs.Ytopjlbifglacpaa
