/- The walk through the law of EqualView. -/
import Derived.Test.YtopjlbifglacpaaLineD
namespace Go.Proofs.Ytopjlbifglacpaa
open Go.RowKit

set_option maxHeartbeats 400000 in
theorem szLineS_no (w : World) (v : Value) (ls : List Line) (F : List Nat) (left : Int) (h : SlAt w v (ls.map Line.d) F) (h0 : left < (ls.length : Int) + bkL (ls.map Line.d)) (h1 : left ≤ 1048576) (h2 : 0 ≤ left) :
    Calls Try.prog 12 #[v, .int .i64 left] w fun e w' =>
      e = .returned (.int .i64 (-1)) ∧ Below w.heap.size w w' := by
  obtain ⟨A, c, rfl, hn, hc⟩ := h.form
  rw [List.length_map] at hn h ⊢
  by_cases hfirst : left < ls.length
  · have hd : decide (left - (ls.length : Int) < 0) = true := by simp; omega
    go_enter Try.func12, Try.ntmps12
    go_wp2_with fail
    go_ret
    exact ⟨rfl, Below.refl _ _⟩
  have hd : decide (left - (ls.length : Int) < 0) = false := by simp; omega
  go_enter Try.func12, Try.ntmps12
  go_wp2_with fail
  go_loopw [1, 5] (fun l i wr => ∃ k : Nat, k ≤ ls.length ∧ i = .int .i64 k ∧ l = .int .i64 (left - ls.length - bkL ((ls.map Line.d).take k)) ∧ (bkL ((ls.map Line.d).take k) : Int) ≤ left - ls.length ∧ Below w.heap.size w wr) (fun _ i _ => ls.length - (intOf i).toNat)
  case atStart => exact ⟨0, Nat.zero_le _, rfl, by simp [bkL], by simp [bkL]; omega, Below.refl _ _⟩
  case round =>
    obtain ⟨k, hk, rfl, rfl, hbk, hb⟩ := hrel
    by_cases hlt : k < ls.length
    · have e1 := bkL_take_succ (ls.map Line.d) k (by simpa using hlt)
      obtain ⟨b, off, ys, Fi, rfl, hbl, _, hr, hlen, _, hcell⟩ := (show SlAt wr _ _ _ from h.below hb).at_ (i := k) (lineWd ls) (by simpa using hlt)
      simp only [List.getElem_map] at hr e1
      obtain ⟨rfl, _, _, hS⟩ := Line.rep hr
      have c0 : wr.cell? ⟨b, off + k * 3, none⟩ = _ := hcell 0 _ rfl
      have c1 := hcell 1 _ rfl
      have c2 := hcell 2 _ rfl
      have ebk : bk (Line.d ls[k]) = ls[k].text.size := by simp [Line.d, bk, bkL]
      rw [ebk] at e1
      clear hcell ebk hr hlen
      by_cases g1 : (ls[k].text.size : Int) ≤ left - ls.length - bkL ((ls.map Line.d).take k)
      · have hbk' : (bkL ((ls.map Line.d).take (k + 1)) : Int) ≤ left - ls.length := by omega
        have E1 : Hid _ := Lib.hid e1
        clear e1
        go_wp2_with (go_at_call 59; refine (szLine_yes _ _ _ _ _ g1 (by omega)).mono ?_; rintro e w' ⟨rfl, hb'⟩)
        go_roundw
        case rel => exact ⟨k + 1, by omega, by go_num, by rw [E1.out]; go_num, hbk', hb.trans (hb'.mono hb.size)⟩
        case measure => simp [intOf]; omega
      · have E1 : Hid _ := Lib.hid e1
        clear e1
        go_wp2_with (go_at_call 59; refine (szLine_no _ _ _ _ _ (by omega) (by omega) hS).mono ?_; rintro e w' ⟨rfl, hb'⟩)
        go_ret
        exact ⟨rfl, hb.trans (hb'.mono hb.size)⟩
    · exfalso
      have ht : (ls.map Line.d).take k = ls.map Line.d := List.take_of_length_le (by simp; omega)
      rw [ht] at hbk
      omega

set_option maxHeartbeats 400000 in
theorem equalView_walk (w : World) (u v : Value) (ls ms : List Line) (F G : List Nat) (h : SlAt w u (ls.map Line.d) F) (k : SlAt w v (ms.map Line.d) G) :
    Calls Try.prog 3 #[u, v] w fun e w' => e = .returned (.bool true) ∧ Below w.heap.size w w' := by
  by_cases b1 : (ls.length : Int) + bkL (ls.map Line.d) ≤ 1048576
  · by_cases b2 : (ms.length : Int) + bkL (ms.map Line.d) ≤ 1048576 - ls.length - bkL (ls.map Line.d)
    · go_enter Try.func3, Try.ntmps3
      go_wp2_with fail
      refine (szLineS_yes w u ls F _ h b1 (by omega)).mono ?_
      rintro e w1 ⟨rfl, hb1⟩
      go_wp2_with fail
      have k1 : SlAt w1 v (ms.map Line.d) G := k.below hb1
      refine (szLineS_yes w1 v ms G _ k1 b2 (by omega)).mono ?_
      rintro e w2 ⟨rfl, hb2⟩
      go_wp2_with fail
      have B2 := hb1.trans (hb2.mono hb1.size)
      refine (toLineS_new w2 u ls F (h.below B2) (by omega)).mono ?_
      rintro e w3 ⟨A3, c3, F3, rfl, g3, f3, hb3⟩
      go_wp2_with fail
      have B3 := B2.trans (hb3.mono B2.size)
      refine (toLineS_new w3 v ms G (k.below B3) (by omega)).mono ?_
      rintro e w4 ⟨A4, c4, F4, rfl, g4, f4, hb4⟩
      go_wp2_with fail
      have B4 := B3.trans (hb4.mono B3.size)
      refine (specEqualView_any w4 _ _ ls ms F3 F4 (g3.below hb4) g4).mono ?_
      rintro e w5 ⟨r, rfl, hr, hb5⟩
      go_wp2_with fail
      have B5 := B4.trans (hb5.mono B4.size)
      refine (toLineS_new w5 u ls F (h.below B5) (by omega)).mono ?_
      rintro e w6 ⟨A6, c6, F6, rfl, g6, f6, hb6⟩
      go_wp2_with fail
      have B6 := B5.trans (hb6.mono B5.size)
      refine (toLineS_new w6 v ms G (k.below B6) (by omega)).mono ?_
      rintro e w7 ⟨A7, c7, F7, rfl, g7, f7, hb7⟩
      go_wp2_with fail
      have B7 := B6.trans (hb7.mono B6.size)
      refine (implEqualView_any w7 _ _ ls ms F6 F7 (g6.below hb7) g7).mono ?_
      rintro e w8 ⟨r', rfl, hr', hb8⟩
      obtain rfl : r' = r := by
        clear b1 b2
        cases r <;> cases r' <;> simp_all
      go_wp2_with fail
      have B8 := B7.trans (hb8.mono B7.size)
      refine (toLineS_new w8 u ls F (h.below B8) (by omega)).mono ?_
      rintro e w9 ⟨A9, c9, F9, rfl, g9, f9, hb9⟩
      go_wp2_with fail
      have B9 := B8.trans (hb9.mono B8.size)
      have m8 := hb7.trans (hb8.mono hb7.size)
      have m9 := m8.trans (hb9.mono m8.size)
      refine (eqLineS_same w9 _ _ ls F6 F9 (g6.below m9) g9).mono ?_
      rintro e w10 ⟨rfl, hb10⟩
      go_wp2_with fail
      have B10 := B9.trans (hb10.mono B9.size)
      refine (toLineS_new w10 v ms G (k.below B10) (by omega)).mono ?_
      rintro e w11 ⟨A11, c11, F11, rfl, g11, f11, hb11⟩
      go_wp2_with fail
      have B11 := B10.trans (hb11.mono B10.size)
      have n9 := hb8.trans (hb9.mono hb8.size)
      have n10 := n9.trans (hb10.mono n9.size)
      have n11 := n10.trans (hb11.mono n10.size)
      refine (eqLineS_same w11 _ _ ms F7 F11 (g7.below n11) g11).mono ?_
      rintro e w12 ⟨rfl, hb12⟩
      go_wp2_with fail
      go_ret
      exact ⟨rfl, B11.trans (hb12.mono B11.size)⟩
    · go_enter Try.func3, Try.ntmps3
      go_wp2_with fail
      refine (szLineS_yes w u ls F _ h b1 (by omega)).mono ?_
      rintro e w1 ⟨rfl, hb1⟩
      go_wp2_with fail
      have k1 : SlAt w1 v (ms.map Line.d) G := k.below hb1
      refine (szLineS_no w1 v ms G _ k1 (by omega) (by omega) (by omega)).mono ?_
      rintro e w2 ⟨rfl, hb2⟩
      go_wp2_with fail
      go_ret
      exact ⟨rfl, hb1.trans (hb2.mono hb1.size)⟩
  · go_enter Try.func3, Try.ntmps3
    go_wp2_with fail
    refine (szLineS_no w u ls F _ h (by omega) (by omega) (by omega)).mono ?_
    rintro e w1 ⟨rfl, hb1⟩
    go_wp2_with fail
    go_ret
    exact ⟨rfl, hb1⟩
end Go.Proofs.Ytopjlbifglacpaa
