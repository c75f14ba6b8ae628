/- The laws' copies of Scene: a copy reads as what was copied, and all its blocks are new. Conditions: at most 1048576 values and letters. Written by a program of mine. -/
import Derived.Test.YtopjlbifglacpaaNew
import Derived.Test.YtopjlbifglacpaaTyScene
import Derived.Test.YtopjlbifglacpaaToMark
namespace Go.Proofs.Ytopjlbifglacpaa
open Go.RowKit

set_option maxHeartbeats 4000000 in
set_option maxRecDepth 100000 in
theorem toScene_new (w : World) (x : TScene) (cs : List Value) (F : List Nat) (h : Rep w x.d cs F) (hb : bk x.d ≤ 1048576) :
    Calls Try.prog 19 #[.agg cs.toArray] w fun e w' => ∃ (cs' : List Value) (F' : List Nat), e = .returned (.agg cs'.toArray) ∧ Rep w' x.d cs' F' ∧ Fr w.heap.size w' F' ∧ Below w.heap.size w w' := by
  obtain ⟨A2, c2, F2, rfl, _, i0, i1, q2⟩ := TScene.open_ h
  rw [TScene.bk_] at hb
  have HB := Lib.hid hb
  clear h hb
  go_enter Try.func19, Try.ntmps19
  go_wp2_with (first | (go_at_call 64; go_must (refine (toMarkS_new _ _ x.marks F2 (q2.below (bnew (bnew (bnew (Below.refl _ _) _) _) _)) (by have := HB.out; omega)).mono ?_; rintro e w1 ⟨A2n, c2n, G1, rfl, n1, f1, hb1⟩; have B1 := bnext (show Below w.heap.size w _ from (bnew (bnew (bnew (Below.refl _ _) _) _) _)) hb1; have z1 : w.heap.size + 3 ≤ w1.heap.size := Nat.le_trans (by simp only [size_set, World.size_alloc]; try omega) hb1.size; have z1_0 : w.heap.size < w1.heap.size := (by omega); have z1_1 : w.heap.size + 1 < w1.heap.size := (by omega); have z1_2 : w.heap.size + 2 < w1.heap.size := (by omega); have N1_1 : NewD (w.heap.size + 3) w1 _ _ G1 := NewD.sl n1 (f1.mono (by simp only [size_set, World.size_alloc]; try omega)); have u1 := f1.lt; have hc1_ := (bcell hb1).1; have hf1_ := (bcell hb1).2)))
  refine bodyPost_ret (v := .agg #[.int .i64 x.w, .int .i64 x.h, .slice A2n x.marks.length c2n]) (by simp [results, Try.results19, go_sem, hc1_, z1_0, z1_1, z1_2]) rfl ⟨[.int .i64 x.w, .int .i64 x.h, .slice A2n x.marks.length c2n], G1, rfl, ?_, ?_, ?_⟩
  · rw [TScene.d, rep_agg]
    exact repL_of (mk_cons (mk_int i0) (mk_cons (mk_int i1) (mk_cons (NewD.rep (NewD.set (NewD.set (NewD.set (NewD.set N1_1 (by simp; try omega) _) (by simp; try omega) _) (by simp; try omega) _) (by simp; try omega) _)) mk_nil))) rfl (by simp only [List.nil_append, List.append_nil])
  · exact (NewD.low (NewD.set (NewD.set (NewD.set (NewD.set N1_1 (by simp; try omega) _) (by simp; try omega) _) (by simp; try omega) _) (by simp; try omega) _) (by omega))
  · exact (bset (bset (bset (bset B1 (by simp; try omega) _) (by simp; try omega) _) (by simp; try omega) _) (by simp; try omega) _)

end Go.Proofs.Ytopjlbifglacpaa
