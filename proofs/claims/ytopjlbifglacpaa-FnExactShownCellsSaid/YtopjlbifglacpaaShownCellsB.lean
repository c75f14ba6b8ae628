/- The walk through the law FnExactShownCells. Conditions: none. Written by a program of mine. -/
import Derived.Test.YtopjlbifglacpaaShownCellsA
import Derived.Deep.RegionHeld3
namespace Go.Proofs.Ytopjlbifglacpaa
open Go.RowKit

set_option maxHeartbeats 4000000 in
set_option maxRecDepth 100000 in
theorem shownCells_walk (w : World) (v0 : Value) (x0 : List TLine) (F0 : List Nat) (h0 : SlAt w v0 (x0.map TLine.d) F0) :
    Calls Try.prog 6 #[v0] w fun e w' => e = .returned (.bool true) ∧ Below w.heap.size w w' := by
  have X0 := Lib.hid h0
  obtain ⟨A_0, c_0, rfl, _, _⟩ := h0.form
  rw [List.length_map] at X0
  clear h0
  have B := Below.refl w.heap.size w
  go_enter Try.func6, Try.ntmps6
  go_wp2_with fail
  refine (szLineS_any _ _ x0 F0 _ (X0.out.below B) (by omega) (by omega)).mono ?_
  rintro e w1 ⟨r_1, rfl, (⟨g1, rfl⟩ | ⟨g1, rfl⟩), hb1⟩
  case inr =>
    go_wp2_with fail
    go_ret
    exact ⟨rfl, bnext B hb1⟩
  replace B := bnext B hb1
  clear hb1
  go_wp2_with fail
  refine (toLineS_new _ _ x0 F0 (X0.out.below B) (by omega)).mono ?_
  rintro e w2 ⟨Ay0_s, cy0_s, Gy0_s, rfl, ry0_s, fy0_s, hb2⟩
  have loy0_s : Hid (∀ q ∈ Gy0_s, w.heap.size ≤ q) := Lib.hid (low_new fy0_s B.size)
  replace B := bnext B hb2
  have Ry0_s := Lib.hid ry0_s
  have Py0_s := Lib.hid (fun q hq => (fy0_s.2 q hq).2)
  have Dy0_s := Lib.hid fy0_s.1
  clear ry0_s fy0_s hb2
  go_wp2_with fail
  refine (specShownCells_any _ _ x0 Gy0_s Ry0_s.out (by omega)).mono ?_
  rintro e w3 ⟨Aw0, cw0, Gw0, rfl, rw0, fw0, hb3⟩
  have diy0_s_w0 : Hid (∀ q ∈ Gy0_s, q ∉ Gw0) := Lib.hid (apart_new Py0_s.out fw0)
  have low0 : Hid (∀ q ∈ Gw0, w.heap.size ≤ q) := Lib.hid (low_new fw0 B.size)
  replace Ry0_s := Lib.hid (Ry0_s.out.below hb3)
  replace Py0_s := Lib.hid (plains_next Py0_s.out hb3)
  replace B := bnext B hb3
  have Rw0 := Lib.hid rw0
  have Pw0 := Lib.hid (fun q hq => (fw0.2 q hq).2)
  have Dw0 := Lib.hid fw0.1
  clear rw0 fw0 hb3
  clear Ry0_s Py0_s Dy0_s loy0_s
  clear diy0_s_w0
  go_wp2_with fail
  refine (toLineS_new _ _ x0 F0 (X0.out.below B) (by omega)).mono ?_
  rintro e w4 ⟨Ax0, cx0, Gx0, rfl, rx0, fx0, hb4⟩
  have diw0_x0 : Hid (∀ q ∈ Gw0, q ∉ Gx0) := Lib.hid (apart_new Pw0.out fx0)
  have lox0 : Hid (∀ q ∈ Gx0, w.heap.size ≤ q) := Lib.hid (low_new fx0 B.size)
  replace Rw0 := Lib.hid (Rw0.out.below hb4)
  replace Pw0 := Lib.hid (plains_next Pw0.out hb4)
  replace B := bnext B hb4
  have Rx0 := Lib.hid rx0
  have Px0 := Lib.hid (fun q hq => (fx0.2 q hq).2)
  have Dx0 := Lib.hid fx0.1
  clear rx0 fx0 hb4
  go_wp2_with fail
  refine (implShownCells_any _ _ x0 Gx0 Rx0.out (by omega)).mono ?_
  rintro e w5 ⟨Ag0, cg0, Gg0, rfl, rg0, fg0, hb5⟩
  have diw0_g0 : Hid (∀ q ∈ Gw0, q ∉ Gg0) := Lib.hid (apart_new Pw0.out fg0)
  have dix0_g0 : Hid (∀ q ∈ Gx0, q ∉ Gg0) := Lib.hid (apart_new Px0.out fg0)
  have log0 : Hid (∀ q ∈ Gg0, w.heap.size ≤ q) := Lib.hid (low_new fg0 B.size)
  replace Rw0 := Lib.hid (Rw0.out.below hb5)
  replace Pw0 := Lib.hid (plains_next Pw0.out hb5)
  replace Rx0 := Lib.hid (Rx0.out.below hb5)
  replace Px0 := Lib.hid (plains_next Px0.out hb5)
  replace B := bnext B hb5
  have Rg0 := Lib.hid rg0
  have Pg0 := Lib.hid (fun q hq => (fg0.2 q hq).2)
  have Dg0 := Lib.hid fg0.1
  clear rg0 fg0 hb5
  go_wp2_with fail
  refine (eqIntS_same _ _ _ (shownCells x0) _ _ Rg0.out Rw0.out).mono ?_
  rintro e w6 ⟨rfl, hb6⟩
  replace Rw0 := Lib.hid (Rw0.out.below hb6)
  replace Pw0 := Lib.hid (plains_next Pw0.out hb6)
  replace Rx0 := Lib.hid (Rx0.out.below hb6)
  replace Px0 := Lib.hid (plains_next Px0.out hb6)
  replace Rg0 := Lib.hid (Rg0.out.below hb6)
  replace Pg0 := Lib.hid (plains_next Pg0.out hb6)
  replace B := bnext B hb6
  clear hb6
  go_wp2_with fail
  refine (toLineS_new _ _ x0 F0 (X0.out.below B) (by omega)).mono ?_
  rintro e w7 ⟨Ay0_c, cy0_c, Gy0_c, rfl, ry0_c, fy0_c, hb7⟩
  have diw0_y0_c : Hid (∀ q ∈ Gw0, q ∉ Gy0_c) := Lib.hid (apart_new Pw0.out fy0_c)
  have dix0_y0_c : Hid (∀ q ∈ Gx0, q ∉ Gy0_c) := Lib.hid (apart_new Px0.out fy0_c)
  have dig0_y0_c : Hid (∀ q ∈ Gg0, q ∉ Gy0_c) := Lib.hid (apart_new Pg0.out fy0_c)
  have loy0_c : Hid (∀ q ∈ Gy0_c, w.heap.size ≤ q) := Lib.hid (low_new fy0_c B.size)
  replace Rw0 := Lib.hid (Rw0.out.below hb7)
  replace Pw0 := Lib.hid (plains_next Pw0.out hb7)
  replace Rx0 := Lib.hid (Rx0.out.below hb7)
  replace Px0 := Lib.hid (plains_next Px0.out hb7)
  replace Rg0 := Lib.hid (Rg0.out.below hb7)
  replace Pg0 := Lib.hid (plains_next Pg0.out hb7)
  replace B := bnext B hb7
  have Ry0_c := Lib.hid ry0_c
  have Py0_c := Lib.hid (fun q hq => (fy0_c.2 q hq).2)
  have Dy0_c := Lib.hid fy0_c.1
  clear ry0_c fy0_c hb7
  go_wp2_with fail
  refine (eqLineS_same _ _ _ x0 _ _ Rx0.out Ry0_c.out).mono ?_
  rintro e w8 ⟨rfl, hb8⟩
  replace Rw0 := Lib.hid (Rw0.out.below hb8)
  replace Pw0 := Lib.hid (plains_next Pw0.out hb8)
  replace Rx0 := Lib.hid (Rx0.out.below hb8)
  replace Px0 := Lib.hid (plains_next Px0.out hb8)
  replace Rg0 := Lib.hid (Rg0.out.below hb8)
  replace Pg0 := Lib.hid (plains_next Pg0.out hb8)
  replace Ry0_c := Lib.hid (Ry0_c.out.below hb8)
  replace Py0_c := Lib.hid (plains_next Py0_c.out hb8)
  replace B := bnext B hb8
  clear hb8
  clear Ry0_c Py0_c Dy0_c loy0_c
  clear diw0_y0_c dix0_y0_c dig0_y0_c
  have ce0 := TLine.cnL_le x0
  go_wp2_with fail
  refine (markLineS_run _ _ x0 Gx0 (1) Rx0.out Dx0.out Px0.out (by omega) (by omega)).mono ?_
  rintro e w9 ⟨rfl, rx0, px0, of9⟩
  replace Rw0 := Lib.hid (of9.rep Rw0.out diw0_x0.out)
  replace Pw0 := Lib.hid (fun q hq => of9.plain (Pw0.out q hq) (diw0_x0.out q hq))
  replace Rx0 := Lib.hid rx0
  replace Px0 := Lib.hid px0
  replace Rg0 := Lib.hid (of9.rep Rg0.out (fun q h1 h2 => dix0_g0.out q h2 h1))
  replace Pg0 := Lib.hid (fun q hq => of9.plain (Pg0.out q hq) ((fun q h1 h2 => dix0_g0.out q h2 h1) q hq))
  replace B := B.trans (of9.below B.size lox0.out)
  clear rx0 px0 of9
  clear Rx0 Px0 Dx0 lox0
  clear dix0_g0 diw0_x0
  have hk : decide (1 + ((TLine.cnL x0 : Nat) : Int) < 0) = false := by simp; omega
  go_wp2_with fail
  refine (eqIntS_same _ _ _ (shownCells x0) _ _ Rg0.out Rw0.out).mono ?_
  rintro e w10 ⟨rfl, hb10⟩
  replace Rw0 := Lib.hid (Rw0.out.below hb10)
  replace Pw0 := Lib.hid (plains_next Pw0.out hb10)
  replace Rg0 := Lib.hid (Rg0.out.below hb10)
  replace Pg0 := Lib.hid (plains_next Pg0.out hb10)
  replace B := bnext B hb10
  clear hb10
  have hc := shownCells_cn x0 (by omega)
  go_wp2_with fail
  refine (markIntS_run _ _ (shownCells x0) Gg0 (1) Rg0.out Dg0.out Pg0.out (by omega) (by omega)).mono ?_
  rintro e w11 ⟨rfl, rg0, pg0, of11⟩
  replace Rw0 := Lib.hid (of11.rep Rw0.out diw0_g0.out)
  replace Pw0 := Lib.hid (fun q hq => of11.plain (Pw0.out q hq) (diw0_g0.out q hq))
  replace Rg0 := Lib.hid rg0
  replace Pg0 := Lib.hid pg0
  replace B := B.trans (of11.below B.size log0.out)
  clear rg0 pg0 of11
  go_wp2_with fail
  refine (heldIntS_run _ _ (shownCells x0) Gg0 1 Rg0.out (by omega) (by omega)).mono ?_
  rintro e w12 ⟨rfl, hb12⟩
  replace Rw0 := Lib.hid (Rw0.out.below hb12)
  replace Pw0 := Lib.hid (plains_next Pw0.out hb12)
  replace Rg0 := Lib.hid (Rg0.out.below hb12)
  replace Pg0 := Lib.hid (plains_next Pg0.out hb12)
  replace B := bnext B hb12
  clear hb12
  have hm : decide (1 + ((intCnL (shownCells x0) : Nat) : Int) < 0) = false := by simp; omega
  go_wp2_with fail
  refine (toLineS_new _ _ x0 F0 (X0.out.below B) (by omega)).mono ?_
  rintro e w13 ⟨Ay0_h, cy0_h, Gy0_h, rfl, ry0_h, fy0_h, hb13⟩
  have diw0_y0_h : Hid (∀ q ∈ Gw0, q ∉ Gy0_h) := Lib.hid (apart_new Pw0.out fy0_h)
  have dig0_y0_h : Hid (∀ q ∈ Gg0, q ∉ Gy0_h) := Lib.hid (apart_new Pg0.out fy0_h)
  have loy0_h : Hid (∀ q ∈ Gy0_h, w.heap.size ≤ q) := Lib.hid (low_new fy0_h B.size)
  replace Rw0 := Lib.hid (Rw0.out.below hb13)
  replace Pw0 := Lib.hid (plains_next Pw0.out hb13)
  replace Rg0 := Lib.hid (Rg0.out.below hb13)
  replace Pg0 := Lib.hid (plains_next Pg0.out hb13)
  replace B := bnext B hb13
  have Ry0_h := Lib.hid ry0_h
  have Py0_h := Lib.hid (fun q hq => (fy0_h.2 q hq).2)
  have Dy0_h := Lib.hid fy0_h.1
  clear ry0_h fy0_h hb13
  go_wp2_with fail
  refine (implShownCells_any _ _ x0 Gy0_h Ry0_h.out (by omega)).mono ?_
  rintro e w14 ⟨Ah0, ch0, Gh0, rfl, rh0, fh0, hb14⟩
  have diw0_h0 : Hid (∀ q ∈ Gw0, q ∉ Gh0) := Lib.hid (apart_new Pw0.out fh0)
  have dig0_h0 : Hid (∀ q ∈ Gg0, q ∉ Gh0) := Lib.hid (apart_new Pg0.out fh0)
  have diy0_h_h0 : Hid (∀ q ∈ Gy0_h, q ∉ Gh0) := Lib.hid (apart_new Py0_h.out fh0)
  have loh0 : Hid (∀ q ∈ Gh0, w.heap.size ≤ q) := Lib.hid (low_new fh0 B.size)
  replace Rw0 := Lib.hid (Rw0.out.below hb14)
  replace Pw0 := Lib.hid (plains_next Pw0.out hb14)
  replace Rg0 := Lib.hid (Rg0.out.below hb14)
  replace Pg0 := Lib.hid (plains_next Pg0.out hb14)
  replace Ry0_h := Lib.hid (Ry0_h.out.below hb14)
  replace Py0_h := Lib.hid (plains_next Py0_h.out hb14)
  replace B := bnext B hb14
  have Rh0 := Lib.hid rh0
  have Ph0 := Lib.hid (fun q hq => (fh0.2 q hq).2)
  have Dh0 := Lib.hid fh0.1
  clear rh0 fh0 hb14
  go_wp2_with fail
  refine (eqIntS_same _ _ _ (shownCells x0) _ _ Rh0.out Rw0.out).mono ?_
  rintro e w15 ⟨rfl, hb15⟩
  replace Rw0 := Lib.hid (Rw0.out.below hb15)
  replace Pw0 := Lib.hid (plains_next Pw0.out hb15)
  replace Rg0 := Lib.hid (Rg0.out.below hb15)
  replace Pg0 := Lib.hid (plains_next Pg0.out hb15)
  replace Ry0_h := Lib.hid (Ry0_h.out.below hb15)
  replace Py0_h := Lib.hid (plains_next Py0_h.out hb15)
  replace Rh0 := Lib.hid (Rh0.out.below hb15)
  replace Ph0 := Lib.hid (plains_next Ph0.out hb15)
  replace B := bnext B hb15
  clear hb15
  go_wp2_with fail
  refine (heldIntS_run _ _ (shownCells x0) Gg0 1 Rg0.out (by omega) (by omega)).mono ?_
  rintro e w16 ⟨rfl, hb16⟩
  replace Rw0 := Lib.hid (Rw0.out.below hb16)
  replace Pw0 := Lib.hid (plains_next Pw0.out hb16)
  replace Rg0 := Lib.hid (Rg0.out.below hb16)
  replace Pg0 := Lib.hid (plains_next Pg0.out hb16)
  replace Ry0_h := Lib.hid (Ry0_h.out.below hb16)
  replace Py0_h := Lib.hid (plains_next Py0_h.out hb16)
  replace Rh0 := Lib.hid (Rh0.out.below hb16)
  replace Ph0 := Lib.hid (plains_next Ph0.out hb16)
  replace B := bnext B hb16
  clear hb16
  go_wp2_with fail
  go_ret
  exact ⟨rfl, B⟩
end Go.Proofs.Ytopjlbifglacpaa
