/- DiffSize: the reference and the program give the number of changes; the walk through the law. -/
import Derived.Test.YtopjlbifglacpaaSzDiff
import Derived.Test.YtopjlbifglacpaaToDiff
import Derived.Test.YtopjlbifglacpaaEqDiff
import Derived.Deep.RegionHeld3
namespace Go.Proofs.Ytopjlbifglacpaa
open Go.RowKit

theorem specDiffSize_any (w : World) (x : TDiff) (cs : List Value) (F : List Nat) (h : Rep w x.d cs F) :
    Calls Try.prog 23 #[.agg cs.toArray] w fun e w' => e = .returned (.int .i64 x.changes.length) ∧ Below w.heap.size w w' := by
  obtain ⟨A1, c1, F1, rfl, _, i0, q1⟩ := TDiff.open_ h
  go_enter Try.func23, Try.ntmps23
  go_wp2_with fail
  go_ret
  exact ⟨rfl, bnew (Below.refl _ _) _⟩
theorem implDiffSize_any (w : World) (x : TDiff) (cs : List Value) (F : List Nat) (h : Rep w x.d cs F) :
    Calls Try.prog 25 #[.agg cs.toArray] w fun e w' => e = .returned (.int .i64 x.changes.length) ∧ Below w.heap.size w w' := by
  obtain ⟨A1, c1, F1, rfl, _, i0, q1⟩ := TDiff.open_ h
  go_enter Try.func25, Try.ntmps25
  go_wp2_with fail
  go_ret
  exact ⟨rfl, bnew (Below.refl _ _) _⟩

set_option maxHeartbeats 2000000 in
set_option maxRecDepth 100000 in
theorem diffSize_walk (w : World) (x : TDiff) (cs : List Value) (F : List Nat) (h : Rep w x.d cs F) :
    Calls Try.prog 5 #[.agg cs.toArray] w fun e w' => e = .returned (.bool true) ∧ Below w.heap.size w w' := by
  obtain ⟨A1, c1, F1, rfl, _, i0, q1⟩ := TDiff.open_ h
  have B0 := bnew (Below.refl w.heap.size w) (.cells #[.int .i64 x.length, .slice A1 x.changes.length c1] 41)
  have hrep := Lib.hid h
  clear h
  go_enter Try.func5, Try.ntmps5
  go_wp2_with fail
  refine (szDiff_any _ x _ F _ (hrep.out.below B0) (by omega) (by omega)).mono ?_
  rintro e w1 ⟨r1, rfl, (⟨g1, rfl⟩ | ⟨g1, rfl⟩), hb1⟩
  case inr =>
    go_wp2_with fail
    go_ret
    exact ⟨rfl, bnext B0 hb1⟩
  have B1 := bnext B0 hb1
  have z1 : w.heap.size < w1.heap.size := Nat.lt_of_lt_of_le (by simp) hb1.size
  have hc1 := (bcell hb1).1
  go_wp2_with fail
  refine (toDiff_new _ x _ F (hrep.out.below B1) (by omega)).mono ?_
  rintro e w2 ⟨cs2, G2, rfl, n2, f2, hb2⟩
  have B2 := bnext B1 hb2
  have z2 : w.heap.size < w2.heap.size := Nat.lt_of_lt_of_le z1 hb2.size
  have hc2 := (bcell hb2).1
  go_wp2_with fail
  refine (specDiffSize_any _ x _ G2 n2).mono ?_
  rintro e w3 ⟨rfl, hb3⟩
  have B3 := bnext B2 hb3
  have z3 : w.heap.size < w3.heap.size := Nat.lt_of_lt_of_le z2 hb3.size
  have hc3 := (bcell hb3).1
  go_wp2_with fail
  refine (toDiff_new _ x _ F (hrep.out.below B3) (by omega)).mono ?_
  rintro e w4 ⟨cs4, G4, rfl, n4, f4, hb4⟩
  have B4 := bnext B3 hb4
  have z4 : w.heap.size < w4.heap.size := Nat.lt_of_lt_of_le z3 hb4.size
  have hc4 := (bcell hb4).1
  have n4' := Lib.hid n4
  obtain ⟨A4, c4, _, rfl, _, _, _⟩ := TDiff.open_ n4
  clear n4
  go_wp2_with fail
  refine (implDiffSize_any _ x _ G4 (n4'.out.below (bnew (Below.refl _ _) _))).mono ?_
  rintro e w5 ⟨rfl, hb5⟩
  have B5 := bnext (bnew B4 _) hb5
  have z5 : w.heap.size < w5.heap.size := Nat.lt_of_lt_of_le z4 (Nat.le_trans (by simp) hb5.size)
  have z5' : w4.heap.size < w5.heap.size := Nat.lt_of_lt_of_le (by simp) hb5.size
  have hc5 := (bcell hb5).1
  go_wp2_with fail
  have k1 := cell_next hb5 (cell_new w4 #[.int .i64 x.length, .slice A4 x.changes.length c4] 46 0 _ rfl)
  have k2 := cell_next hb5 (cell_new w4 #[.int .i64 x.length, .slice A4 x.changes.length c4] 46 1 _ rfl)
  have k3 := cell_next hb5 (cell_old (cell_next hb4 (cell_next hb3 (cell_next hb2 (cell_next hb1 (cell_new w #[.int .i64 x.length, .slice A1 x.changes.length c1] 41 0 _ rfl))))) (.cells #[.int .i64 x.length, .slice A4 x.changes.length c4] 46))
  have k4 := cell_next hb5 (cell_old (cell_next hb4 (cell_next hb3 (cell_next hb2 (cell_next hb1 (cell_new w #[.int .i64 x.length, .slice A1 x.changes.length c1] 41 1 _ rfl))))) (.cells #[.int .i64 x.length, .slice A4 x.changes.length c4] 46))
  clear hc1 hc2 hc3 hc4 hc5
  have n5 : Rep w5 x.d [.int .i64 x.length, .slice A4 x.changes.length c4] G4 := (n4'.out.below (bnew (Below.refl _ _) _)).below hb5
  have N5 := Lib.hid n5
  clear n5
  go_region_held3 (fun w' => w'.cell? ⟨w4.heap.size, 0, none⟩ = some (.int .i64 x.length) ∧ w'.cell? ⟨w4.heap.size, 1, none⟩ = some (.slice A4 x.changes.length c4) ∧ w'.cell? ⟨w.heap.size, 0, none⟩ = some (.int .i64 x.length) ∧ w'.cell? ⟨w.heap.size, 1, none⟩ = some (.slice A1 x.changes.length c1)) (first | exact ⟨k1, k2, k3, k4⟩ | exact ⟨l1, l2, l3, l4⟩ | exact ⟨m1, m2, m3, m4⟩) (first | (go_at_call 24; refine (toDiff_new _ x _ F (hrep.out.below (Below.drew B5)) (by omega)).mono ?_; rintro e w6 ⟨cs6, G6, rfl, n6, f6, hb6⟩; have H6 := bnext (Below.drew (Below.refl w5.heap.size w5)) hb6; have l1 := cell_next H6 k1; have l2 := cell_next H6 k2; have l3 := cell_next H6 k3; have l4 := cell_next H6 k4) | (go_at_call 26; refine (eqDiff_same _ x _ _ G4 G6 (N5.out.below H6) n6).mono ?_; rintro e w7 ⟨rfl, hb7⟩; have m1 := cell_next hb7 l1; have m2 := cell_next hb7 l2; have m3 := cell_next hb7 l3; have m4 := cell_next hb7 l4))
  go_wp2_with fail
  go_ret
  exact ⟨rfl, bnext (bnext B5 H6) hb7⟩
end Go.Proofs.Ytopjlbifglacpaa
