/- The walk through the law FnExactIsInside. Conditions: none. Written by a program of mine. -/
import Derived.Test.YtopjlbifglacpaaIsInsideA
import Derived.Test.YtopjlbifglacpaaMarkBase
import Derived.Deep.RegionHeld3
namespace Go.Proofs.Ytopjlbifglacpaa
open Go.RowKit

set_option maxHeartbeats 4000000 in
set_option maxRecDepth 100000 in
theorem isInside_walk (w : World) (x0 : TScene) (cs0 : List Value) (F0 : List Nat) (h0 : Rep w x0.d cs0 F0) :
    Calls Try.prog 4 #[.agg cs0.toArray] w fun e w' => e = .returned (.bool true) ∧ Below w.heap.size w w' := by
  have X0 := Lib.hid h0
  obtain ⟨A2_0, c2_0, F2_0, rfl, _, _, _, _⟩ := TScene.open_ h0
  clear h0
  have B := Below.refl w.heap.size w
  obtain ⟨w1, hv1⟩ : ∃ v, v = w.alloc (.cells #[.int .i64 x0.w, .int .i64 x0.h, .slice A2_0 x0.marks.length c2_0] 30) := ⟨_, rfl⟩
  have hb1 : Below w.heap.size w w1 := hv1 ▸ bnew (Below.refl _ _) _
  have ka0_0 : w1.cell? ⟨w.heap.size, 0, none⟩ = some (.int .i64 x0.w) := hv1 ▸ cell_new w _ _ 0 _ rfl
  have ka0_1 : w1.cell? ⟨w.heap.size, 1, none⟩ = some (.int .i64 x0.h) := hv1 ▸ cell_new w _ _ 1 _ rfl
  have ka0_2 : w1.cell? ⟨w.heap.size, 2, none⟩ = some (.slice A2_0 x0.marks.length c2_0) := hv1 ▸ cell_new w _ _ 2 _ rfl
  replace B := bnext B hb1
  have HV1 := Lib.hid hv1
  clear hv1 hb1
  go_enter Try.func4, Try.ntmps4
  go_wp2_with fail
  rw [← HV1.out]
  refine (szScene_any _ x0 _ F0 _ (X0.out.below B) (by omega) (by omega)).mono ?_
  rintro e w2 ⟨r_2, rfl, (⟨g2, rfl⟩ | ⟨g2, rfl⟩), hb2⟩
  case inr =>
    go_wp2_with fail
    go_ret
    exact ⟨rfl, bnext B hb2⟩
  replace ka0_0 := cell_next hb2 ka0_0
  replace ka0_1 := cell_next hb2 ka0_1
  replace ka0_2 := cell_next hb2 ka0_2
  replace B := bnext B hb2
  clear hb2
  go_wp2_with fail
  refine (toScene_new _ x0 _ F0 (X0.out.below B) (by omega)).mono ?_
  rintro e w3 ⟨csy0_s, Gy0_s, rfl, ry0_s, fy0_s, hb3⟩
  have nba0_y0_s : Hid (w.heap.size ∉ Gy0_s) := Lib.hid (notin_new fy0_s (World.block_lt_of_cell? w2 _ ka0_0))
  have loy0_s : Hid (∀ q ∈ Gy0_s, w.heap.size ≤ q) := Lib.hid (low_new fy0_s B.size)
  replace ka0_0 := cell_next hb3 ka0_0
  replace ka0_1 := cell_next hb3 ka0_1
  replace ka0_2 := cell_next hb3 ka0_2
  replace B := bnext B hb3
  have Ry0_s := Lib.hid ry0_s
  have Py0_s := Lib.hid (fun q hq => (fy0_s.2 q hq).2)
  have Dy0_s := Lib.hid fy0_s.1
  clear ry0_s fy0_s hb3
  go_wp2_with fail
  refine (specIsInside_any _ x0 _ Gy0_s Ry0_s.out).mono ?_
  rintro e w4 ⟨rfl, hb4⟩
  replace ka0_0 := cell_next hb4 ka0_0
  replace ka0_1 := cell_next hb4 ka0_1
  replace ka0_2 := cell_next hb4 ka0_2
  replace Ry0_s := Lib.hid (Ry0_s.out.below hb4)
  replace Py0_s := Lib.hid (plains_next Py0_s.out hb4)
  replace B := bnext B hb4
  clear hb4
  clear Ry0_s Py0_s Dy0_s loy0_s
  clear nba0_y0_s
  go_wp2_with fail
  refine (toScene_new _ x0 _ F0 (X0.out.below B) (by omega)).mono ?_
  rintro e w5 ⟨csx0, Gx0, rfl, rx0, fx0, hb5⟩
  have nba0_x0 : Hid (w.heap.size ∉ Gx0) := Lib.hid (notin_new fx0 (World.block_lt_of_cell? w4 _ ka0_0))
  have lox0 : Hid (∀ q ∈ Gx0, w.heap.size ≤ q) := Lib.hid (low_new fx0 B.size)
  replace ka0_0 := cell_next hb5 ka0_0
  replace ka0_1 := cell_next hb5 ka0_1
  replace ka0_2 := cell_next hb5 ka0_2
  replace B := bnext B hb5
  have Rx0 := Lib.hid rx0
  have Px0 := Lib.hid (fun q hq => (fx0.2 q hq).2)
  have Dx0 := Lib.hid fx0.1
  clear rx0 fx0 hb5
  obtain ⟨A2_x0, c2_x0, F2_x0, rfl, _, _, _, _⟩ := TScene.open_ Rx0.out
  go_wp2_with fail
  obtain ⟨w6, hv6⟩ : ∃ v, v = w5.alloc (.cells #[.int .i64 x0.w, .int .i64 x0.h, .slice A2_x0 x0.marks.length c2_x0] 35) := ⟨_, rfl⟩
  have hb6 : Below w5.heap.size w5 w6 := hv6 ▸ bnew (Below.refl _ _) _
  have kx0_0 : w6.cell? ⟨w5.heap.size, 0, none⟩ = some (.int .i64 x0.w) := hv6 ▸ cell_new w5 _ _ 0 _ rfl
  have kx0_1 : w6.cell? ⟨w5.heap.size, 1, none⟩ = some (.int .i64 x0.h) := hv6 ▸ cell_new w5 _ _ 1 _ rfl
  have kx0_2 : w6.cell? ⟨w5.heap.size, 2, none⟩ = some (.slice A2_x0 x0.marks.length c2_x0) := hv6 ▸ cell_new w5 _ _ 2 _ rfl
  have nbx0_x0 : Hid (w5.heap.size ∉ Gx0) := Lib.hid (fun hm => by have := (Px0.out _ hm).lt; omega)
  replace ka0_0 := cell_next hb6 ka0_0
  replace ka0_1 := cell_next hb6 ka0_1
  replace ka0_2 := cell_next hb6 ka0_2
  replace Rx0 := Lib.hid (Rx0.out.below hb6)
  replace Px0 := Lib.hid (plains_next Px0.out hb6)
  replace B := bnext B hb6
  have HV6 := Lib.hid hv6
  clear hv6 hb6
  rw [← HV6.out]
  refine (implIsInside_any _ x0 _ Gx0 Rx0.out).mono ?_
  rintro e w7 ⟨rfl, hb7⟩
  replace ka0_0 := cell_next hb7 ka0_0
  replace ka0_1 := cell_next hb7 ka0_1
  replace ka0_2 := cell_next hb7 ka0_2
  replace kx0_0 := cell_next hb7 kx0_0
  replace kx0_1 := cell_next hb7 kx0_1
  replace kx0_2 := cell_next hb7 kx0_2
  replace Rx0 := Lib.hid (Rx0.out.below hb7)
  replace Px0 := Lib.hid (plains_next Px0.out hb7)
  replace B := bnext B hb7
  clear hb7
  go_wp2_with fail
  have HD : Below w7.heap.size w7 w7.drew := Below.drew (Below.refl _ _)
  have BD : Hid (Below w.heap.size w w7) := Lib.hid B
  go_region_held3 (fun w' => w'.cell? ⟨w5.heap.size, 0, none⟩ = some (.int .i64 x0.w) ∧ w'.cell? ⟨w5.heap.size, 1, none⟩ = some (.int .i64 x0.h) ∧ w'.cell? ⟨w5.heap.size, 2, none⟩ = some (.slice A2_x0 x0.marks.length c2_x0) ∧ w'.cell? ⟨w.heap.size, 0, none⟩ = some (.int .i64 x0.w) ∧ w'.cell? ⟨w.heap.size, 1, none⟩ = some (.int .i64 x0.h) ∧ w'.cell? ⟨w.heap.size, 2, none⟩ = some (.slice A2_0 x0.marks.length c2_0)) (first | exact ⟨kx0_0, kx0_1, kx0_2, ka0_0, ka0_1, ka0_2⟩ | exact ⟨l0, l1, l2, l3, l4, l5⟩ | exact ⟨m0, m1, m2, m3, m4, m5⟩) (first | (go_at_call 19; refine (toScene_new _ x0 _ F0 (X0.out.below (bnext BD.out HD)) (by omega)).mono ?_; rintro e w8 ⟨csy0_c, Gy0_c, rfl, ry0_c, fy0_c, hb8⟩; have H1_ := bnext HD hb8; have l0 := cell_next H1_ kx0_0; have l1 := cell_next H1_ kx0_1; have l2 := cell_next H1_ kx0_2; have l3 := cell_next H1_ ka0_0; have l4 := cell_next H1_ ka0_1; have l5 := cell_next H1_ ka0_2) | (go_at_call 21; refine (eqScene_same _ x0 _ _ Gx0 Gy0_c (Rx0.out.below H1_) ry0_c).mono ?_; rintro e w9 ⟨rfl, hb9⟩; have H2_ := bnext H1_ hb9; have m0 := cell_next H2_ kx0_0; have m1 := cell_next H2_ kx0_1; have m2 := cell_next H2_ kx0_2; have m3 := cell_next H2_ ka0_0; have m4 := cell_next H2_ ka0_1; have m5 := cell_next H2_ ka0_2))
  have hbX := H2_
  replace ka0_0 := cell_next hbX ka0_0
  replace ka0_1 := cell_next hbX ka0_1
  replace ka0_2 := cell_next hbX ka0_2
  replace kx0_0 := cell_next hbX kx0_0
  replace kx0_1 := cell_next hbX kx0_1
  replace kx0_2 := cell_next hbX kx0_2
  replace Rx0 := Lib.hid (Rx0.out.below hbX)
  replace Px0 := Lib.hid (plains_next Px0.out hbX)
  replace B := bnext B hbX
  clear hbX
  go_wp2_with fail
  go_ret
  exact ⟨rfl, B⟩
end Go.Proofs.Ytopjlbifglacpaa
