/- The size count of a slice of lines. -/
import Derived.Test.YtopjlbifglacpaaLineA
namespace Go.Proofs.Ytopjlbifglacpaa
open Go.RowKit

mutual
/-- How many values and letters the slices and texts of a datum hold. -/
def bk : D → Nat
  | .int _ => 0
  | .byte _ => 0
  | .bool _ => 0
  | .str s => s.size
  | .agg fs => bkL fs
  | .sl es => es.length + bkL es
def bkL : List D → Nat
  | [] => 0
  | d :: ds => bk d + bkL ds
end

theorem bkL_append : ∀ (a b : List D), bkL (a ++ b) = bkL a + bkL b
  | [], b => by simp [bkL]
  | x :: a, b => by simp only [List.cons_append, bkL, bkL_append a b]; omega
theorem bkL_take_succ (es : List D) (i : Nat) (h : i < es.length) : bkL (es.take (i + 1)) = bkL (es.take i) + bk es[i] := by
  rw [List.take_succ_eq_append_getElem h, bkL_append]; simp [bkL]
theorem bkL_take_le (es : List D) (i : Nat) : bkL (es.take i) ≤ bkL es := by
  have h := bkL_append (es.take i) (es.drop i)
  rw [List.take_append_drop] at h; omega

set_option maxHeartbeats 400000 in
theorem szLineS_yes (w : World) (v : Value) (ls : List Line) (F : List Nat) (left : Int) (h : SlAt w v (ls.map Line.d) F) (h0 : (ls.length : Int) + bkL (ls.map Line.d) ≤ left) (h1 : left ≤ 1048576) :
    Calls Try.prog 12 #[v, .int .i64 left] w fun e w' =>
      e = .returned (.int .i64 (left - ls.length - bkL (ls.map Line.d))) ∧ Below w.heap.size w w' := by
  obtain ⟨A, c, rfl, hn, hc⟩ := h.form
  rw [List.length_map] at hn h ⊢
  have hd : decide (left - (ls.length : Int) < 0) = false := by simp; omega
  go_enter Try.func12, Try.ntmps12
  go_wp2_with fail
  go_loopw [1, 5] (fun l i wr => ∃ k : Nat, k ≤ ls.length ∧ i = .int .i64 k ∧ l = .int .i64 (left - ls.length - bkL ((ls.map Line.d).take k)) ∧ Below w.heap.size w wr) (fun _ i _ => ls.length - (intOf i).toNat)
  case atStart => exact ⟨0, Nat.zero_le _, rfl, by simp [bkL], Below.refl _ _⟩
  case round =>
    obtain ⟨k, hk, rfl, rfl, hb⟩ := hrel
    by_cases hlt : k < ls.length
    · have e1 := bkL_take_succ (ls.map Line.d) k (by simpa using hlt)
      have e2 := bkL_take_le (ls.map Line.d) (k + 1)
      obtain ⟨b, off, ys, Fi, rfl, hbl, _, hr, hlen, _, hcell⟩ := (show SlAt wr _ _ _ from h.below hb).at_ (i := k) (W := 3) (by intro d hd; obtain ⟨l, _, rfl⟩ := List.mem_map.1 hd; rfl) (by simpa using hlt)
      simp only [List.getElem_map] at hr e1
      obtain ⟨rfl, _, _, _⟩ := Line.rep hr
      have c0 : wr.cell? ⟨b, off + k * 3, none⟩ = _ := hcell 0 _ rfl
      have c1 := hcell 1 _ rfl
      have c2 := hcell 2 _ rfl
      have ebk : bk (Line.d ls[k]) = ls[k].text.size := by simp [Line.d, bk, bkL]
      rw [ebk] at e1
      have g1 : (ls[k].text.size : Int) ≤ left - ls.length - bkL ((ls.map Line.d).take k) := by omega
      have E1 : Hid _ := Lib.hid e1
      clear e1 hcell ebk hr
      go_wp2_with (go_at_call 59; refine (szLine_yes _ _ _ _ _ g1 (by omega)).mono ?_; rintro e w' ⟨rfl, hb'⟩)
      go_roundw
      case rel => exact ⟨k + 1, by omega, by go_num, by rw [E1.out]; go_num, hb.trans (hb'.mono hb.size)⟩
      case measure => simp [intOf]; omega
    · have hk' : k = ls.length := by omega
      have ht : (ls.map Line.d).take k = ls.map Line.d := List.take_of_length_le (by simp; omega)
      rw [ht]
      clear ht
      go_wp2_with fail
      go_ret
      exact ⟨rfl, hb⟩
end Go.Proofs.Ytopjlbifglacpaa
