/- The size counts of Line and of slices of them. Conditions: the count begins between 0 and 1048576. Written by a program of mine. -/
import Derived.Test.YtopjlbifglacpaaTyLine
namespace Go.Proofs.Ytopjlbifglacpaa
open Go.RowKit

set_option maxHeartbeats 1000000 in
theorem szLine_any (w : World) (x : TLine) (cs : List Value) (F : List Nat) (left : Int) (h : Rep w x.d cs F) (h0 : 0 ≤ left) (h1 : left ≤ 1048576) :
    Calls Try.prog 59 #[.agg cs.toArray, .int .i64 left] w fun e w' => ∃ r, e = .returned (.int .i64 r) ∧ SzR (bk x.d) left r ∧ Below w.heap.size w w' := by
  obtain ⟨rfl, _, i0, i2⟩ := TLine.open_ h
  have j2 : x.text.size ≤ 9223372036854775807 := i2
  have HB := Lib.hid x.bk_
  clear h i0 i2
  have B0 := Below.refl w.heap.size w
  go_enter Try.func59, Try.ntmps59
  go_wp2_with fail
  all_goals go_ret
  all_goals refine ⟨_, rfl, by rw [HB.out]; unfold SzR; omega, ?_⟩
  all_goals first | exact (bnew B0 _)

set_option maxHeartbeats 1000000 in
theorem szLineS_any (w : World) (v : Value) (xs : List TLine) (F : List Nat) (left : Int) (h : SlAt w v (xs.map TLine.d) F) (h0 : 0 ≤ left) (h1 : left ≤ 1048576) :
    Calls Try.prog 12 #[v, .int .i64 left] w fun e w' => ∃ r, e = .returned (.int .i64 r) ∧ SzR (xs.length + bkL (xs.map TLine.d)) left r ∧ Below w.heap.size w w' := by
  obtain ⟨A, c, rfl, hn, hc⟩ := h.form
  rw [List.length_map] at hn h ⊢
  by_cases hfirst : left < xs.length
  · have hd : decide (left - (xs.length : Int) < 0) = true := by simp; omega
    go_enter Try.func12, Try.ntmps12
    go_wp2_with fail
    go_ret
    exact ⟨_, rfl, by unfold SzR; omega, Below.refl _ _⟩
  have hd : decide (left - (xs.length : Int) < 0) = false := by simp; omega
  go_enter Try.func12, Try.ntmps12
  go_wp2_with fail
  go_loopw [1, 5] (fun l i wr => ∃ k : Nat, k ≤ xs.length ∧ i = .int .i64 k ∧ l = .int .i64 (left - xs.length - bkL ((xs.map TLine.d).take k)) ∧ (bkL ((xs.map TLine.d).take k) : Int) ≤ left - xs.length ∧ Below w.heap.size w wr) (fun _ i _ => xs.length - (intOf i).toNat)
  case atStart => exact ⟨0, Nat.zero_le _, rfl, by simp [bkL], by simp [bkL]; omega, Below.refl _ _⟩
  case round =>
    obtain ⟨k, hk, rfl, rfl, hbk, hb⟩ := hrel
    by_cases hlt : k < xs.length
    · have e1 := bkL_take_succ (xs.map TLine.d) k (by simpa using hlt)
      have e2 := bkL_take_le (xs.map TLine.d) (k + 1)
      obtain ⟨b, off, ys, Fi, rfl, hbl, _, hr, hlen, _, hcell⟩ := (h.below hb).at_ (i := k) (TLine.wds xs) (by simpa using hlt)
      simp only [List.getElem_map] at hr e1
      have E1 : Hid _ := Lib.hid e1
      have HL := Lib.hid hlen
      have HC := Lib.hid hcell
      clear e1 hlen hcell
      go_wp2_with (first | ((with_reducible show wpList _ _ _ (Oper.mk _ (Op.load 108 _) _ _ _ _ :: _) _ _); refine wpList_load_cells rfl _ _ rfl Try.underlying108 TLine.linfo rfl HL.out HC.out ?_) | (go_at_call 59; refine (szLine_any _ xs[k] ys Fi _ hr (by omega) (by omega)).mono ?_; rintro e w1 ⟨r1, rfl, (⟨g1, rfl⟩ | ⟨g1, rfl⟩), hb1⟩))
      · go_roundw
        case rel => exact ⟨k + 1, by omega, by go_num, by rw [E1.out]; go_num, by rw [E1.out]; omega, bnext hb hb1⟩
        case measure => simp [intOf]; omega
      · go_ret
        have := E1.out
        exact ⟨_, rfl, by unfold SzR; omega, bnext hb hb1⟩
    · have hk' : k = xs.length := by omega
      have ht : (xs.map TLine.d).take k = xs.map TLine.d := List.take_of_length_le (by simp; omega)
      rw [ht] at hbk ⊢
      clear ht
      go_wp2_with fail
      go_ret
      exact ⟨_, rfl, by unfold SzR; omega, hb⟩

end Go.Proofs.Ytopjlbifglacpaa
