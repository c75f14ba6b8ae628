/- The walk through the law FnExactDiffViews. Conditions: none. Written by a program of mine. -/
import Derived.Test.YtopjlbifglacpaaDiffViewsI
import Derived.Deep.RegionHeld3
namespace Go.Proofs.Ytopjlbifglacpaa
open Go.RowKit

set_option maxHeartbeats 4000000 in
set_option maxRecDepth 100000 in
theorem diffViews_walk (w : World) (v0 : Value) (x0 : List TLine) (F0 : List Nat) (h0 : SlAt w v0 (x0.map TLine.d) F0) (v1 : Value) (x1 : List TLine) (F1 : List Nat) (h1 : SlAt w v1 (x1.map TLine.d) F1) :
    Calls Try.prog 7 #[v0, v1] w fun e w' => e = .returned (.bool true) ∧ Below w.heap.size w w' := by
  have X0 := Lib.hid h0
  obtain ⟨A_0, c_0, rfl, _, _⟩ := h0.form
  rw [List.length_map] at X0
  clear h0
  have X1 := Lib.hid h1
  obtain ⟨A_1, c_1, rfl, _, _⟩ := h1.form
  rw [List.length_map] at X1
  clear h1
  have B := Below.refl w.heap.size w
  go_enter Try.func7, Try.ntmps7
  go_wp2_with fail
  refine (szLineS_any _ _ x0 F0 _ (X0.out.below B) (by omega) (by omega)).mono ?_
  rintro e w1 ⟨r_1, rfl, (⟨g1, rfl⟩ | ⟨g1, rfl⟩), hb1⟩
  case inr =>
    go_wp2_with fail
    go_ret
    exact ⟨rfl, bnext B hb1⟩
  replace B := bnext B hb1
  clear hb1
  go_wp2_with fail
  refine (szLineS_any _ _ x1 F1 _ (X1.out.below B) (by omega) (by omega)).mono ?_
  rintro e w2 ⟨r_2, rfl, (⟨g2, rfl⟩ | ⟨g2, rfl⟩), hb2⟩
  case inr =>
    go_wp2_with fail
    go_ret
    exact ⟨rfl, bnext B hb2⟩
  replace B := bnext B hb2
  clear hb2
  go_wp2_with fail
  refine (toLineS_new _ _ x0 F0 (X0.out.below B) (by omega)).mono ?_
  rintro e w3 ⟨Ay0_s, cy0_s, Gy0_s, rfl, ry0_s, fy0_s, hb3⟩
  have loy0_s : Hid (∀ q ∈ Gy0_s, w.heap.size ≤ q) := Lib.hid (low_new fy0_s B.size)
  replace B := bnext B hb3
  have Ry0_s := Lib.hid ry0_s
  have Py0_s := Lib.hid (fun q hq => (fy0_s.2 q hq).2)
  have Dy0_s := Lib.hid fy0_s.1
  clear ry0_s fy0_s hb3
  go_wp2_with fail
  refine (toLineS_new _ _ x1 F1 (X1.out.below B) (by omega)).mono ?_
  rintro e w4 ⟨Ay1_s, cy1_s, Gy1_s, rfl, ry1_s, fy1_s, hb4⟩
  have diy0_s_y1_s : Hid (∀ q ∈ Gy0_s, q ∉ Gy1_s) := Lib.hid (apart_new Py0_s.out fy1_s)
  have loy1_s : Hid (∀ q ∈ Gy1_s, w.heap.size ≤ q) := Lib.hid (low_new fy1_s B.size)
  replace Ry0_s := Lib.hid (Ry0_s.out.below hb4)
  replace Py0_s := Lib.hid (plains_next Py0_s.out hb4)
  replace B := bnext B hb4
  have Ry1_s := Lib.hid ry1_s
  have Py1_s := Lib.hid (fun q hq => (fy1_s.2 q hq).2)
  have Dy1_s := Lib.hid fy1_s.1
  clear ry1_s fy1_s hb4
  go_wp2_with fail
  refine (specDiffViews_any _ _ x0 Gy0_s Ry0_s.out _ x1 Gy1_s Ry1_s.out (by omega) (by omega)).mono ?_
  rintro e w5 ⟨csw0, Gw0, rfl, rw0, fw0, hb5⟩
  have diy0_s_w0 : Hid (∀ q ∈ Gy0_s, q ∉ Gw0) := Lib.hid (apart_new Py0_s.out fw0)
  have diy1_s_w0 : Hid (∀ q ∈ Gy1_s, q ∉ Gw0) := Lib.hid (apart_new Py1_s.out fw0)
  have low0 : Hid (∀ q ∈ Gw0, w.heap.size ≤ q) := Lib.hid (low_new fw0 B.size)
  replace Ry0_s := Lib.hid (Ry0_s.out.below hb5)
  replace Py0_s := Lib.hid (plains_next Py0_s.out hb5)
  replace Ry1_s := Lib.hid (Ry1_s.out.below hb5)
  replace Py1_s := Lib.hid (plains_next Py1_s.out hb5)
  replace B := bnext B hb5
  have Rw0 := Lib.hid rw0
  have Pw0 := Lib.hid (fun q hq => (fw0.2 q hq).2)
  have Dw0 := Lib.hid fw0.1
  clear rw0 fw0 hb5
  obtain ⟨A1_w0, c1_w0, F1_w0, rfl, _, _, _⟩ := TDiff.open_ Rw0.out
  go_wp2_with fail
  obtain ⟨w6, hv6⟩ : ∃ v, v = w5.alloc (.cells #[.int .i64 (diffViews x0 x1).length, .slice A1_w0 (diffViews x0 x1).changes.length c1_w0] 46) := ⟨_, rfl⟩
  have hb6 : Below w5.heap.size w5 w6 := hv6 ▸ bnew (Below.refl _ _) _
  have kw0_0 : w6.cell? ⟨w5.heap.size, 0, none⟩ = some (.int .i64 (diffViews x0 x1).length) := hv6 ▸ cell_new w5 _ _ 0 _ rfl
  have kw0_1 : w6.cell? ⟨w5.heap.size, 1, none⟩ = some (.slice A1_w0 (diffViews x0 x1).changes.length c1_w0) := hv6 ▸ cell_new w5 _ _ 1 _ rfl
  have nbw0_y0_s : Hid (w5.heap.size ∉ Gy0_s) := Lib.hid (fun hm => by have := (Py0_s.out _ hm).lt; omega)
  have nbw0_y1_s : Hid (w5.heap.size ∉ Gy1_s) := Lib.hid (fun hm => by have := (Py1_s.out _ hm).lt; omega)
  have nbw0_w0 : Hid (w5.heap.size ∉ Gw0) := Lib.hid (fun hm => by have := (Pw0.out _ hm).lt; omega)
  replace Ry0_s := Lib.hid (Ry0_s.out.below hb6)
  replace Py0_s := Lib.hid (plains_next Py0_s.out hb6)
  replace Ry1_s := Lib.hid (Ry1_s.out.below hb6)
  replace Py1_s := Lib.hid (plains_next Py1_s.out hb6)
  replace Rw0 := Lib.hid (Rw0.out.below hb6)
  replace Pw0 := Lib.hid (plains_next Pw0.out hb6)
  replace B := bnext B hb6
  have HV6 := Lib.hid hv6
  clear hv6 hb6
  rw [← HV6.out]
  clear Ry0_s Py0_s Dy0_s loy0_s
  clear diy0_s_y1_s diy0_s_w0 nbw0_y0_s
  clear Ry1_s Py1_s Dy1_s loy1_s
  clear diy1_s_w0 nbw0_y1_s
  go_wp2_with fail
  refine (toLineS_new _ _ x0 F0 (X0.out.below B) (by omega)).mono ?_
  rintro e w7 ⟨Ax0, cx0, Gx0, rfl, rx0, fx0, hb7⟩
  have nbw0_x0 : Hid (w5.heap.size ∉ Gx0) := Lib.hid (notin_new fx0 (World.block_lt_of_cell? w6 _ kw0_0))
  have diw0_x0 : Hid (∀ q ∈ Gw0, q ∉ Gx0) := Lib.hid (apart_new Pw0.out fx0)
  have lox0 : Hid (∀ q ∈ Gx0, w.heap.size ≤ q) := Lib.hid (low_new fx0 B.size)
  replace kw0_0 := cell_next hb7 kw0_0
  replace kw0_1 := cell_next hb7 kw0_1
  replace Rw0 := Lib.hid (Rw0.out.below hb7)
  replace Pw0 := Lib.hid (plains_next Pw0.out hb7)
  replace B := bnext B hb7
  have Rx0 := Lib.hid rx0
  have Px0 := Lib.hid (fun q hq => (fx0.2 q hq).2)
  have Dx0 := Lib.hid fx0.1
  clear rx0 fx0 hb7
  go_wp2_with fail
  refine (toLineS_new _ _ x1 F1 (X1.out.below B) (by omega)).mono ?_
  rintro e w8 ⟨Ax1, cx1, Gx1, rfl, rx1, fx1, hb8⟩
  have nbw0_x1 : Hid (w5.heap.size ∉ Gx1) := Lib.hid (notin_new fx1 (World.block_lt_of_cell? w7 _ kw0_0))
  have diw0_x1 : Hid (∀ q ∈ Gw0, q ∉ Gx1) := Lib.hid (apart_new Pw0.out fx1)
  have dix0_x1 : Hid (∀ q ∈ Gx0, q ∉ Gx1) := Lib.hid (apart_new Px0.out fx1)
  have lox1 : Hid (∀ q ∈ Gx1, w.heap.size ≤ q) := Lib.hid (low_new fx1 B.size)
  replace kw0_0 := cell_next hb8 kw0_0
  replace kw0_1 := cell_next hb8 kw0_1
  replace Rw0 := Lib.hid (Rw0.out.below hb8)
  replace Pw0 := Lib.hid (plains_next Pw0.out hb8)
  replace Rx0 := Lib.hid (Rx0.out.below hb8)
  replace Px0 := Lib.hid (plains_next Px0.out hb8)
  replace B := bnext B hb8
  have Rx1 := Lib.hid rx1
  have Px1 := Lib.hid (fun q hq => (fx1.2 q hq).2)
  have Dx1 := Lib.hid fx1.1
  clear rx1 fx1 hb8
  go_wp2_with fail
  refine (implDiffViews_any _ _ x0 Gx0 Rx0.out _ x1 Gx1 Rx1.out (by omega) (by omega)).mono ?_
  rintro e w9 ⟨csg0, Gg0, rfl, rg0, fg0, hb9⟩
  have nbw0_g0 : Hid (w5.heap.size ∉ Gg0) := Lib.hid (notin_new fg0 (World.block_lt_of_cell? w8 _ kw0_0))
  have diw0_g0 : Hid (∀ q ∈ Gw0, q ∉ Gg0) := Lib.hid (apart_new Pw0.out fg0)
  have dix0_g0 : Hid (∀ q ∈ Gx0, q ∉ Gg0) := Lib.hid (apart_new Px0.out fg0)
  have dix1_g0 : Hid (∀ q ∈ Gx1, q ∉ Gg0) := Lib.hid (apart_new Px1.out fg0)
  have log0 : Hid (∀ q ∈ Gg0, w.heap.size ≤ q) := Lib.hid (low_new fg0 B.size)
  replace kw0_0 := cell_next hb9 kw0_0
  replace kw0_1 := cell_next hb9 kw0_1
  replace Rw0 := Lib.hid (Rw0.out.below hb9)
  replace Pw0 := Lib.hid (plains_next Pw0.out hb9)
  replace Rx0 := Lib.hid (Rx0.out.below hb9)
  replace Px0 := Lib.hid (plains_next Px0.out hb9)
  replace Rx1 := Lib.hid (Rx1.out.below hb9)
  replace Px1 := Lib.hid (plains_next Px1.out hb9)
  replace B := bnext B hb9
  have Rg0 := Lib.hid rg0
  have Pg0 := Lib.hid (fun q hq => (fg0.2 q hq).2)
  have Dg0 := Lib.hid fg0.1
  clear rg0 fg0 hb9
  obtain ⟨A1_g0, c1_g0, F1_g0, rfl, _, _, _⟩ := TDiff.open_ Rg0.out
  have e0_ := cell_old kw0_0 (.cells #[.int .i64 (diffViews x0 x1).length, .slice A1_g0 (diffViews x0 x1).changes.length c1_g0] 46)
  have e1_ := cell_old kw0_1 (.cells #[.int .i64 (diffViews x0 x1).length, .slice A1_g0 (diffViews x0 x1).changes.length c1_g0] 46)
  go_wp2_with fail
  clear e0_ e1_
  obtain ⟨w10, hv10⟩ : ∃ v, v = w9.alloc (.cells #[.int .i64 (diffViews x0 x1).length, .slice A1_g0 (diffViews x0 x1).changes.length c1_g0] 46) := ⟨_, rfl⟩
  have hb10 : Below w9.heap.size w9 w10 := hv10 ▸ bnew (Below.refl _ _) _
  have kg0_0 : w10.cell? ⟨w9.heap.size, 0, none⟩ = some (.int .i64 (diffViews x0 x1).length) := hv10 ▸ cell_new w9 _ _ 0 _ rfl
  have kg0_1 : w10.cell? ⟨w9.heap.size, 1, none⟩ = some (.slice A1_g0 (diffViews x0 x1).changes.length c1_g0) := hv10 ▸ cell_new w9 _ _ 1 _ rfl
  have nbg0_w0 : Hid (w9.heap.size ∉ Gw0) := Lib.hid (fun hm => by have := (Pw0.out _ hm).lt; omega)
  have nbg0_x0 : Hid (w9.heap.size ∉ Gx0) := Lib.hid (fun hm => by have := (Px0.out _ hm).lt; omega)
  have nbg0_x1 : Hid (w9.heap.size ∉ Gx1) := Lib.hid (fun hm => by have := (Px1.out _ hm).lt; omega)
  have nbg0_g0 : Hid (w9.heap.size ∉ Gg0) := Lib.hid (fun hm => by have := (Pg0.out _ hm).lt; omega)
  replace kw0_0 := cell_next hb10 kw0_0
  replace kw0_1 := cell_next hb10 kw0_1
  replace Rw0 := Lib.hid (Rw0.out.below hb10)
  replace Pw0 := Lib.hid (plains_next Pw0.out hb10)
  replace Rx0 := Lib.hid (Rx0.out.below hb10)
  replace Px0 := Lib.hid (plains_next Px0.out hb10)
  replace Rx1 := Lib.hid (Rx1.out.below hb10)
  replace Px1 := Lib.hid (plains_next Px1.out hb10)
  replace Rg0 := Lib.hid (Rg0.out.below hb10)
  replace Pg0 := Lib.hid (plains_next Pg0.out hb10)
  replace B := bnext B hb10
  have HV10 := Lib.hid hv10
  clear hv10 hb10
  rw [← HV10.out]
  refine (eqDiff_same _ (diffViews x0 x1) _ _ _ _ Rg0.out Rw0.out).mono ?_
  rintro e w11 ⟨rfl, hb11⟩
  replace kw0_0 := cell_next hb11 kw0_0
  replace kw0_1 := cell_next hb11 kw0_1
  replace kg0_0 := cell_next hb11 kg0_0
  replace kg0_1 := cell_next hb11 kg0_1
  replace Rw0 := Lib.hid (Rw0.out.below hb11)
  replace Pw0 := Lib.hid (plains_next Pw0.out hb11)
  replace Rx0 := Lib.hid (Rx0.out.below hb11)
  replace Px0 := Lib.hid (plains_next Px0.out hb11)
  replace Rx1 := Lib.hid (Rx1.out.below hb11)
  replace Px1 := Lib.hid (plains_next Px1.out hb11)
  replace Rg0 := Lib.hid (Rg0.out.below hb11)
  replace Pg0 := Lib.hid (plains_next Pg0.out hb11)
  replace B := bnext B hb11
  clear hb11
  go_wp2_with fail
  refine (toLineS_new _ _ x0 F0 (X0.out.below B) (by omega)).mono ?_
  rintro e w12 ⟨Ay0_c, cy0_c, Gy0_c, rfl, ry0_c, fy0_c, hb12⟩
  have nbw0_y0_c : Hid (w5.heap.size ∉ Gy0_c) := Lib.hid (notin_new fy0_c (World.block_lt_of_cell? w11 _ kw0_0))
  have nbg0_y0_c : Hid (w9.heap.size ∉ Gy0_c) := Lib.hid (notin_new fy0_c (World.block_lt_of_cell? w11 _ kg0_0))
  have diw0_y0_c : Hid (∀ q ∈ Gw0, q ∉ Gy0_c) := Lib.hid (apart_new Pw0.out fy0_c)
  have dix0_y0_c : Hid (∀ q ∈ Gx0, q ∉ Gy0_c) := Lib.hid (apart_new Px0.out fy0_c)
  have dix1_y0_c : Hid (∀ q ∈ Gx1, q ∉ Gy0_c) := Lib.hid (apart_new Px1.out fy0_c)
  have dig0_y0_c : Hid (∀ q ∈ Gg0, q ∉ Gy0_c) := Lib.hid (apart_new Pg0.out fy0_c)
  have loy0_c : Hid (∀ q ∈ Gy0_c, w.heap.size ≤ q) := Lib.hid (low_new fy0_c B.size)
  replace kw0_0 := cell_next hb12 kw0_0
  replace kw0_1 := cell_next hb12 kw0_1
  replace kg0_0 := cell_next hb12 kg0_0
  replace kg0_1 := cell_next hb12 kg0_1
  replace Rw0 := Lib.hid (Rw0.out.below hb12)
  replace Pw0 := Lib.hid (plains_next Pw0.out hb12)
  replace Rx0 := Lib.hid (Rx0.out.below hb12)
  replace Px0 := Lib.hid (plains_next Px0.out hb12)
  replace Rx1 := Lib.hid (Rx1.out.below hb12)
  replace Px1 := Lib.hid (plains_next Px1.out hb12)
  replace Rg0 := Lib.hid (Rg0.out.below hb12)
  replace Pg0 := Lib.hid (plains_next Pg0.out hb12)
  replace B := bnext B hb12
  have Ry0_c := Lib.hid ry0_c
  have Py0_c := Lib.hid (fun q hq => (fy0_c.2 q hq).2)
  have Dy0_c := Lib.hid fy0_c.1
  clear ry0_c fy0_c hb12
  go_wp2_with fail
  refine (eqLineS_same _ _ _ x0 _ _ Rx0.out Ry0_c.out).mono ?_
  rintro e w13 ⟨rfl, hb13⟩
  replace kw0_0 := cell_next hb13 kw0_0
  replace kw0_1 := cell_next hb13 kw0_1
  replace kg0_0 := cell_next hb13 kg0_0
  replace kg0_1 := cell_next hb13 kg0_1
  replace Rw0 := Lib.hid (Rw0.out.below hb13)
  replace Pw0 := Lib.hid (plains_next Pw0.out hb13)
  replace Rx0 := Lib.hid (Rx0.out.below hb13)
  replace Px0 := Lib.hid (plains_next Px0.out hb13)
  replace Rx1 := Lib.hid (Rx1.out.below hb13)
  replace Px1 := Lib.hid (plains_next Px1.out hb13)
  replace Rg0 := Lib.hid (Rg0.out.below hb13)
  replace Pg0 := Lib.hid (plains_next Pg0.out hb13)
  replace Ry0_c := Lib.hid (Ry0_c.out.below hb13)
  replace Py0_c := Lib.hid (plains_next Py0_c.out hb13)
  replace B := bnext B hb13
  clear hb13
  clear Ry0_c Py0_c Dy0_c loy0_c
  clear dix0_y0_c diw0_y0_c dig0_y0_c dix1_y0_c nbw0_y0_c nbg0_y0_c
  go_wp2_with fail
  refine (toLineS_new _ _ x1 F1 (X1.out.below B) (by omega)).mono ?_
  rintro e w14 ⟨Ay1_c, cy1_c, Gy1_c, rfl, ry1_c, fy1_c, hb14⟩
  have nbw0_y1_c : Hid (w5.heap.size ∉ Gy1_c) := Lib.hid (notin_new fy1_c (World.block_lt_of_cell? w13 _ kw0_0))
  have nbg0_y1_c : Hid (w9.heap.size ∉ Gy1_c) := Lib.hid (notin_new fy1_c (World.block_lt_of_cell? w13 _ kg0_0))
  have diw0_y1_c : Hid (∀ q ∈ Gw0, q ∉ Gy1_c) := Lib.hid (apart_new Pw0.out fy1_c)
  have dix0_y1_c : Hid (∀ q ∈ Gx0, q ∉ Gy1_c) := Lib.hid (apart_new Px0.out fy1_c)
  have dix1_y1_c : Hid (∀ q ∈ Gx1, q ∉ Gy1_c) := Lib.hid (apart_new Px1.out fy1_c)
  have dig0_y1_c : Hid (∀ q ∈ Gg0, q ∉ Gy1_c) := Lib.hid (apart_new Pg0.out fy1_c)
  have loy1_c : Hid (∀ q ∈ Gy1_c, w.heap.size ≤ q) := Lib.hid (low_new fy1_c B.size)
  replace kw0_0 := cell_next hb14 kw0_0
  replace kw0_1 := cell_next hb14 kw0_1
  replace kg0_0 := cell_next hb14 kg0_0
  replace kg0_1 := cell_next hb14 kg0_1
  replace Rw0 := Lib.hid (Rw0.out.below hb14)
  replace Pw0 := Lib.hid (plains_next Pw0.out hb14)
  replace Rx0 := Lib.hid (Rx0.out.below hb14)
  replace Px0 := Lib.hid (plains_next Px0.out hb14)
  replace Rx1 := Lib.hid (Rx1.out.below hb14)
  replace Px1 := Lib.hid (plains_next Px1.out hb14)
  replace Rg0 := Lib.hid (Rg0.out.below hb14)
  replace Pg0 := Lib.hid (plains_next Pg0.out hb14)
  replace B := bnext B hb14
  have Ry1_c := Lib.hid ry1_c
  have Py1_c := Lib.hid (fun q hq => (fy1_c.2 q hq).2)
  have Dy1_c := Lib.hid fy1_c.1
  clear ry1_c fy1_c hb14
  go_wp2_with fail
  refine (eqLineS_same _ _ _ x1 _ _ Rx1.out Ry1_c.out).mono ?_
  rintro e w15 ⟨rfl, hb15⟩
  replace kw0_0 := cell_next hb15 kw0_0
  replace kw0_1 := cell_next hb15 kw0_1
  replace kg0_0 := cell_next hb15 kg0_0
  replace kg0_1 := cell_next hb15 kg0_1
  replace Rw0 := Lib.hid (Rw0.out.below hb15)
  replace Pw0 := Lib.hid (plains_next Pw0.out hb15)
  replace Rx0 := Lib.hid (Rx0.out.below hb15)
  replace Px0 := Lib.hid (plains_next Px0.out hb15)
  replace Rx1 := Lib.hid (Rx1.out.below hb15)
  replace Px1 := Lib.hid (plains_next Px1.out hb15)
  replace Rg0 := Lib.hid (Rg0.out.below hb15)
  replace Pg0 := Lib.hid (plains_next Pg0.out hb15)
  replace Ry1_c := Lib.hid (Ry1_c.out.below hb15)
  replace Py1_c := Lib.hid (plains_next Py1_c.out hb15)
  replace B := bnext B hb15
  clear hb15
  clear Ry1_c Py1_c Dy1_c loy1_c
  clear dig0_y1_c dix1_y1_c dix0_y1_c diw0_y1_c nbg0_y1_c nbw0_y1_c
  have ce0 := TLine.cnL_le x0
  have ce1 := TLine.cnL_le x1
  go_wp2_with fail
  refine (markLineS_run _ _ x0 Gx0 (1) Rx0.out Dx0.out Px0.out (by omega) (by omega)).mono ?_
  rintro e w16 ⟨rfl, rx0, px0, of16⟩
  replace kw0_0 := of16.cell nbw0_x0.out kw0_0
  replace kw0_1 := of16.cell nbw0_x0.out kw0_1
  replace kg0_0 := of16.cell nbg0_x0.out kg0_0
  replace kg0_1 := of16.cell nbg0_x0.out kg0_1
  replace Rw0 := Lib.hid (of16.rep Rw0.out diw0_x0.out)
  replace Pw0 := Lib.hid (fun q hq => of16.plain (Pw0.out q hq) (diw0_x0.out q hq))
  replace Rx0 := Lib.hid rx0
  replace Px0 := Lib.hid px0
  replace Rx1 := Lib.hid (of16.rep Rx1.out (fun q h1 h2 => dix0_x1.out q h2 h1))
  replace Px1 := Lib.hid (fun q hq => of16.plain (Px1.out q hq) ((fun q h1 h2 => dix0_x1.out q h2 h1) q hq))
  replace Rg0 := Lib.hid (of16.rep Rg0.out (fun q h1 h2 => dix0_g0.out q h2 h1))
  replace Pg0 := Lib.hid (fun q hq => of16.plain (Pg0.out q hq) ((fun q h1 h2 => dix0_g0.out q h2 h1) q hq))
  replace B := B.trans (of16.below B.size lox0.out)
  clear rx0 px0 of16
  go_wp2_with fail
  refine (markLineS_run _ _ x1 Gx1 (1 + ((TLine.cnL x0 : Nat) : Int)) Rx1.out Dx1.out Px1.out (by omega) (by omega)).mono ?_
  rintro e w17 ⟨rfl, rx1, px1, of17⟩
  replace kw0_0 := of17.cell nbw0_x1.out kw0_0
  replace kw0_1 := of17.cell nbw0_x1.out kw0_1
  replace kg0_0 := of17.cell nbg0_x1.out kg0_0
  replace kg0_1 := of17.cell nbg0_x1.out kg0_1
  replace Rw0 := Lib.hid (of17.rep Rw0.out diw0_x1.out)
  replace Pw0 := Lib.hid (fun q hq => of17.plain (Pw0.out q hq) (diw0_x1.out q hq))
  replace Rx0 := Lib.hid (of17.rep Rx0.out dix0_x1.out)
  replace Px0 := Lib.hid (fun q hq => of17.plain (Px0.out q hq) (dix0_x1.out q hq))
  replace Rx1 := Lib.hid rx1
  replace Px1 := Lib.hid px1
  replace Rg0 := Lib.hid (of17.rep Rg0.out (fun q h1 h2 => dix1_g0.out q h2 h1))
  replace Pg0 := Lib.hid (fun q hq => of17.plain (Pg0.out q hq) ((fun q h1 h2 => dix1_g0.out q h2 h1) q hq))
  replace B := B.trans (of17.below B.size lox1.out)
  clear rx1 px1 of17
  clear Rx0 Px0 Dx0 lox0
  clear diw0_x0 dix0_g0 dix0_x1 nbw0_x0 nbg0_x0
  clear Rx1 Px1 Dx1 lox1
  clear dix1_g0 diw0_x1 nbg0_x1 nbw0_x1
  have hk : decide (1 + ((TLine.cnL x0 : Nat) : Int) + ((TLine.cnL x1 : Nat) : Int) < 0) = false := by simp; omega
  go_wp2_with fail
  refine (eqDiff_same _ (diffViews x0 x1) _ _ _ _ Rg0.out Rw0.out).mono ?_
  rintro e w18 ⟨rfl, hb18⟩
  replace kw0_0 := cell_next hb18 kw0_0
  replace kw0_1 := cell_next hb18 kw0_1
  replace kg0_0 := cell_next hb18 kg0_0
  replace kg0_1 := cell_next hb18 kg0_1
  replace Rw0 := Lib.hid (Rw0.out.below hb18)
  replace Pw0 := Lib.hid (plains_next Pw0.out hb18)
  replace Rg0 := Lib.hid (Rg0.out.below hb18)
  replace Pg0 := Lib.hid (plains_next Pg0.out hb18)
  replace B := bnext B hb18
  clear hb18
  have hc := diffViews_cn x0 x1 (by omega) (by omega)
  go_wp2_with fail
  refine (markDiff_run _ (diffViews x0 x1) _ Gg0 (1) Rg0.out Dg0.out Pg0.out (by omega) (by omega)).mono ?_
  rintro e w19 ⟨rfl, rg0, pg0, of19⟩
  replace kw0_0 := of19.cell nbw0_g0.out kw0_0
  replace kw0_1 := of19.cell nbw0_g0.out kw0_1
  replace kg0_0 := of19.cell nbg0_g0.out kg0_0
  replace kg0_1 := of19.cell nbg0_g0.out kg0_1
  replace Rw0 := Lib.hid (of19.rep Rw0.out diw0_g0.out)
  replace Pw0 := Lib.hid (fun q hq => of19.plain (Pw0.out q hq) (diw0_g0.out q hq))
  replace Rg0 := Lib.hid rg0
  replace Pg0 := Lib.hid pg0
  replace B := B.trans (of19.below B.size log0.out)
  clear rg0 pg0 of19
  go_wp2_with fail
  refine (heldDiff_run _ (diffViews x0 x1) _ Gg0 1 Rg0.out (by omega) (by omega)).mono ?_
  rintro e w20 ⟨rfl, hb20⟩
  replace kw0_0 := cell_next hb20 kw0_0
  replace kw0_1 := cell_next hb20 kw0_1
  replace kg0_0 := cell_next hb20 kg0_0
  replace kg0_1 := cell_next hb20 kg0_1
  replace Rw0 := Lib.hid (Rw0.out.below hb20)
  replace Pw0 := Lib.hid (plains_next Pw0.out hb20)
  replace Rg0 := Lib.hid (Rg0.out.below hb20)
  replace Pg0 := Lib.hid (plains_next Pg0.out hb20)
  replace B := bnext B hb20
  clear hb20
  have hm : decide (1 + ((TDiff.cnV (diffViews x0 x1) : Nat) : Int) < 0) = false := by simp; omega
  go_wp2_with fail
  refine (toLineS_new _ _ x0 F0 (X0.out.below B) (by omega)).mono ?_
  rintro e w21 ⟨Ay0_h, cy0_h, Gy0_h, rfl, ry0_h, fy0_h, hb21⟩
  have nbw0_y0_h : Hid (w5.heap.size ∉ Gy0_h) := Lib.hid (notin_new fy0_h (World.block_lt_of_cell? w20 _ kw0_0))
  have nbg0_y0_h : Hid (w9.heap.size ∉ Gy0_h) := Lib.hid (notin_new fy0_h (World.block_lt_of_cell? w20 _ kg0_0))
  have diw0_y0_h : Hid (∀ q ∈ Gw0, q ∉ Gy0_h) := Lib.hid (apart_new Pw0.out fy0_h)
  have dig0_y0_h : Hid (∀ q ∈ Gg0, q ∉ Gy0_h) := Lib.hid (apart_new Pg0.out fy0_h)
  have loy0_h : Hid (∀ q ∈ Gy0_h, w.heap.size ≤ q) := Lib.hid (low_new fy0_h B.size)
  replace kw0_0 := cell_next hb21 kw0_0
  replace kw0_1 := cell_next hb21 kw0_1
  replace kg0_0 := cell_next hb21 kg0_0
  replace kg0_1 := cell_next hb21 kg0_1
  replace Rw0 := Lib.hid (Rw0.out.below hb21)
  replace Pw0 := Lib.hid (plains_next Pw0.out hb21)
  replace Rg0 := Lib.hid (Rg0.out.below hb21)
  replace Pg0 := Lib.hid (plains_next Pg0.out hb21)
  replace B := bnext B hb21
  have Ry0_h := Lib.hid ry0_h
  have Py0_h := Lib.hid (fun q hq => (fy0_h.2 q hq).2)
  have Dy0_h := Lib.hid fy0_h.1
  clear ry0_h fy0_h hb21
  go_wp2_with fail
  refine (toLineS_new _ _ x1 F1 (X1.out.below B) (by omega)).mono ?_
  rintro e w22 ⟨Ay1_h, cy1_h, Gy1_h, rfl, ry1_h, fy1_h, hb22⟩
  have nbw0_y1_h : Hid (w5.heap.size ∉ Gy1_h) := Lib.hid (notin_new fy1_h (World.block_lt_of_cell? w21 _ kw0_0))
  have nbg0_y1_h : Hid (w9.heap.size ∉ Gy1_h) := Lib.hid (notin_new fy1_h (World.block_lt_of_cell? w21 _ kg0_0))
  have diw0_y1_h : Hid (∀ q ∈ Gw0, q ∉ Gy1_h) := Lib.hid (apart_new Pw0.out fy1_h)
  have dig0_y1_h : Hid (∀ q ∈ Gg0, q ∉ Gy1_h) := Lib.hid (apart_new Pg0.out fy1_h)
  have diy0_h_y1_h : Hid (∀ q ∈ Gy0_h, q ∉ Gy1_h) := Lib.hid (apart_new Py0_h.out fy1_h)
  have loy1_h : Hid (∀ q ∈ Gy1_h, w.heap.size ≤ q) := Lib.hid (low_new fy1_h B.size)
  replace kw0_0 := cell_next hb22 kw0_0
  replace kw0_1 := cell_next hb22 kw0_1
  replace kg0_0 := cell_next hb22 kg0_0
  replace kg0_1 := cell_next hb22 kg0_1
  replace Rw0 := Lib.hid (Rw0.out.below hb22)
  replace Pw0 := Lib.hid (plains_next Pw0.out hb22)
  replace Rg0 := Lib.hid (Rg0.out.below hb22)
  replace Pg0 := Lib.hid (plains_next Pg0.out hb22)
  replace Ry0_h := Lib.hid (Ry0_h.out.below hb22)
  replace Py0_h := Lib.hid (plains_next Py0_h.out hb22)
  replace B := bnext B hb22
  have Ry1_h := Lib.hid ry1_h
  have Py1_h := Lib.hid (fun q hq => (fy1_h.2 q hq).2)
  have Dy1_h := Lib.hid fy1_h.1
  clear ry1_h fy1_h hb22
  go_wp2_with fail
  refine (implDiffViews_any _ _ x0 Gy0_h Ry0_h.out _ x1 Gy1_h Ry1_h.out (by omega) (by omega)).mono ?_
  rintro e w23 ⟨csh0, Gh0, rfl, rh0, fh0, hb23⟩
  have nbw0_h0 : Hid (w5.heap.size ∉ Gh0) := Lib.hid (notin_new fh0 (World.block_lt_of_cell? w22 _ kw0_0))
  have nbg0_h0 : Hid (w9.heap.size ∉ Gh0) := Lib.hid (notin_new fh0 (World.block_lt_of_cell? w22 _ kg0_0))
  have diw0_h0 : Hid (∀ q ∈ Gw0, q ∉ Gh0) := Lib.hid (apart_new Pw0.out fh0)
  have dig0_h0 : Hid (∀ q ∈ Gg0, q ∉ Gh0) := Lib.hid (apart_new Pg0.out fh0)
  have diy0_h_h0 : Hid (∀ q ∈ Gy0_h, q ∉ Gh0) := Lib.hid (apart_new Py0_h.out fh0)
  have diy1_h_h0 : Hid (∀ q ∈ Gy1_h, q ∉ Gh0) := Lib.hid (apart_new Py1_h.out fh0)
  have loh0 : Hid (∀ q ∈ Gh0, w.heap.size ≤ q) := Lib.hid (low_new fh0 B.size)
  replace kw0_0 := cell_next hb23 kw0_0
  replace kw0_1 := cell_next hb23 kw0_1
  replace kg0_0 := cell_next hb23 kg0_0
  replace kg0_1 := cell_next hb23 kg0_1
  replace Rw0 := Lib.hid (Rw0.out.below hb23)
  replace Pw0 := Lib.hid (plains_next Pw0.out hb23)
  replace Rg0 := Lib.hid (Rg0.out.below hb23)
  replace Pg0 := Lib.hid (plains_next Pg0.out hb23)
  replace Ry0_h := Lib.hid (Ry0_h.out.below hb23)
  replace Py0_h := Lib.hid (plains_next Py0_h.out hb23)
  replace Ry1_h := Lib.hid (Ry1_h.out.below hb23)
  replace Py1_h := Lib.hid (plains_next Py1_h.out hb23)
  replace B := bnext B hb23
  have Rh0 := Lib.hid rh0
  have Ph0 := Lib.hid (fun q hq => (fh0.2 q hq).2)
  have Dh0 := Lib.hid fh0.1
  clear rh0 fh0 hb23
  obtain ⟨A1_h0, c1_h0, F1_h0, rfl, _, _, _⟩ := TDiff.open_ Rh0.out
  have e0_ := cell_old kw0_0 (.cells #[.int .i64 (diffViews x0 x1).length, .slice A1_h0 (diffViews x0 x1).changes.length c1_h0] 46)
  have e1_ := cell_old kw0_1 (.cells #[.int .i64 (diffViews x0 x1).length, .slice A1_h0 (diffViews x0 x1).changes.length c1_h0] 46)
  have e2_ := cell_old kg0_0 (.cells #[.int .i64 (diffViews x0 x1).length, .slice A1_h0 (diffViews x0 x1).changes.length c1_h0] 46)
  have e3_ := cell_old kg0_1 (.cells #[.int .i64 (diffViews x0 x1).length, .slice A1_h0 (diffViews x0 x1).changes.length c1_h0] 46)
  go_wp2_with fail
  clear e0_ e1_ e2_ e3_
  obtain ⟨w24, hv24⟩ : ∃ v, v = w23.alloc (.cells #[.int .i64 (diffViews x0 x1).length, .slice A1_h0 (diffViews x0 x1).changes.length c1_h0] 46) := ⟨_, rfl⟩
  have hb24 : Below w23.heap.size w23 w24 := hv24 ▸ bnew (Below.refl _ _) _
  have kh0_0 : w24.cell? ⟨w23.heap.size, 0, none⟩ = some (.int .i64 (diffViews x0 x1).length) := hv24 ▸ cell_new w23 _ _ 0 _ rfl
  have kh0_1 : w24.cell? ⟨w23.heap.size, 1, none⟩ = some (.slice A1_h0 (diffViews x0 x1).changes.length c1_h0) := hv24 ▸ cell_new w23 _ _ 1 _ rfl
  have nbh0_w0 : Hid (w23.heap.size ∉ Gw0) := Lib.hid (fun hm => by have := (Pw0.out _ hm).lt; omega)
  have nbh0_g0 : Hid (w23.heap.size ∉ Gg0) := Lib.hid (fun hm => by have := (Pg0.out _ hm).lt; omega)
  have nbh0_y0_h : Hid (w23.heap.size ∉ Gy0_h) := Lib.hid (fun hm => by have := (Py0_h.out _ hm).lt; omega)
  have nbh0_y1_h : Hid (w23.heap.size ∉ Gy1_h) := Lib.hid (fun hm => by have := (Py1_h.out _ hm).lt; omega)
  have nbh0_h0 : Hid (w23.heap.size ∉ Gh0) := Lib.hid (fun hm => by have := (Ph0.out _ hm).lt; omega)
  replace kw0_0 := cell_next hb24 kw0_0
  replace kw0_1 := cell_next hb24 kw0_1
  replace kg0_0 := cell_next hb24 kg0_0
  replace kg0_1 := cell_next hb24 kg0_1
  replace Rw0 := Lib.hid (Rw0.out.below hb24)
  replace Pw0 := Lib.hid (plains_next Pw0.out hb24)
  replace Rg0 := Lib.hid (Rg0.out.below hb24)
  replace Pg0 := Lib.hid (plains_next Pg0.out hb24)
  replace Ry0_h := Lib.hid (Ry0_h.out.below hb24)
  replace Py0_h := Lib.hid (plains_next Py0_h.out hb24)
  replace Ry1_h := Lib.hid (Ry1_h.out.below hb24)
  replace Py1_h := Lib.hid (plains_next Py1_h.out hb24)
  replace Rh0 := Lib.hid (Rh0.out.below hb24)
  replace Ph0 := Lib.hid (plains_next Ph0.out hb24)
  replace B := bnext B hb24
  have HV24 := Lib.hid hv24
  clear hv24 hb24
  rw [← HV24.out]
  refine (eqDiff_same _ (diffViews x0 x1) _ _ _ _ Rh0.out Rw0.out).mono ?_
  rintro e w25 ⟨rfl, hb25⟩
  replace kw0_0 := cell_next hb25 kw0_0
  replace kw0_1 := cell_next hb25 kw0_1
  replace kg0_0 := cell_next hb25 kg0_0
  replace kg0_1 := cell_next hb25 kg0_1
  replace kh0_0 := cell_next hb25 kh0_0
  replace kh0_1 := cell_next hb25 kh0_1
  replace Rw0 := Lib.hid (Rw0.out.below hb25)
  replace Pw0 := Lib.hid (plains_next Pw0.out hb25)
  replace Rg0 := Lib.hid (Rg0.out.below hb25)
  replace Pg0 := Lib.hid (plains_next Pg0.out hb25)
  replace Ry0_h := Lib.hid (Ry0_h.out.below hb25)
  replace Py0_h := Lib.hid (plains_next Py0_h.out hb25)
  replace Ry1_h := Lib.hid (Ry1_h.out.below hb25)
  replace Py1_h := Lib.hid (plains_next Py1_h.out hb25)
  replace Rh0 := Lib.hid (Rh0.out.below hb25)
  replace Ph0 := Lib.hid (plains_next Ph0.out hb25)
  replace B := bnext B hb25
  clear hb25
  go_wp2_with fail
  refine (heldDiff_run _ (diffViews x0 x1) _ Gg0 1 Rg0.out (by omega) (by omega)).mono ?_
  rintro e w26 ⟨rfl, hb26⟩
  replace kw0_0 := cell_next hb26 kw0_0
  replace kw0_1 := cell_next hb26 kw0_1
  replace kg0_0 := cell_next hb26 kg0_0
  replace kg0_1 := cell_next hb26 kg0_1
  replace kh0_0 := cell_next hb26 kh0_0
  replace kh0_1 := cell_next hb26 kh0_1
  replace Rw0 := Lib.hid (Rw0.out.below hb26)
  replace Pw0 := Lib.hid (plains_next Pw0.out hb26)
  replace Rg0 := Lib.hid (Rg0.out.below hb26)
  replace Pg0 := Lib.hid (plains_next Pg0.out hb26)
  replace Ry0_h := Lib.hid (Ry0_h.out.below hb26)
  replace Py0_h := Lib.hid (plains_next Py0_h.out hb26)
  replace Ry1_h := Lib.hid (Ry1_h.out.below hb26)
  replace Py1_h := Lib.hid (plains_next Py1_h.out hb26)
  replace Rh0 := Lib.hid (Rh0.out.below hb26)
  replace Ph0 := Lib.hid (plains_next Ph0.out hb26)
  replace B := bnext B hb26
  clear hb26
  go_wp2_with fail
  go_ret
  exact ⟨rfl, B⟩
end Go.Proofs.Ytopjlbifglacpaa
