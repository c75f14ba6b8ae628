/- Slices of numbers and of texts: their size counts. Conditions: the count begins between 0 and 1048576. -/
import Derived.Test.YtopjlbifglacpaaMild
namespace Go.Proofs.Ytopjlbifglacpaa
open Go.RowKit

theorem slAt_nil {w : World} : SlAt w (.slice none 0 0) [] [] := by
  unfold SlAt
  unfold Rep
  exact ⟨none, 0, rfl, Nat.le_refl _, by omega, .inl ⟨rfl, rfl⟩⟩
theorem intWds (xs : List Int) : ∀ d ∈ xs.map D.int, wd d = 1 := by intro d hd; obtain ⟨l, _, rfl⟩ := List.mem_map.1 hd; rfl
theorem strWds (xs : List ByteArray) : ∀ d ∈ xs.map D.str, wd d = 1 := by intro d hd; obtain ⟨l, _, rfl⟩ := List.mem_map.1 hd; rfl
theorem bkL_ints : ∀ (xs : List Int), bkL (xs.map D.int) = 0
  | [] => rfl
  | x :: xs => by simp only [List.map_cons, bkL, bk, bkL_ints xs]

theorem bnew {a w : World} (h : Below a.heap.size a w) (o : Obj) : Below a.heap.size a (w.alloc o) := h.alloc h.size o
theorem bnext {a w w1 : World} (h : Below a.heap.size a w) (k : Below w.heap.size w w1) : Below a.heap.size a w1 := h.trans (k.mono h.size)

/-- A size count: what is left, or -1. -/
def SzR (b : Nat) (left r : Int) : Prop := ((b : Int) ≤ left ∧ r = left - b) ∨ (left < b ∧ r = -1)

mutual
/-- How many nodes a datum has. -/
def nd : D → Nat
  | .int _ => 1
  | .byte _ => 1
  | .bool _ => 1
  | .str _ => 1
  | .agg fs => 1 + ndL fs
  | .sl es => 1 + ndL es
def ndL : List D → Nat
  | [] => 0
  | d :: ds => nd d + ndL ds
end
theorem ndL_get : ∀ (es : List D) (i : Nat) (h : i < es.length), nd es[i] ≤ ndL es
  | _ :: _, 0, _ => by simp only [List.getElem_cons_zero, ndL]; omega
  | _ :: es, i + 1, h => by
    have := ndL_get es i (by simpa using h)
    simp only [List.getElem_cons_succ, ndL]; omega

theorem szIntS_any (w : World) (v : Value) (xs : List Int) (F : List Nat) (left : Int) (h : SlAt w v (xs.map D.int) F) (h0 : 0 ≤ left) (h1 : left ≤ 1048576) :
    Calls Try.prog 83 #[v, .int .i64 left] w fun e w' => ∃ r, e = .returned (.int .i64 r) ∧ SzR (xs.length + bkL (xs.map D.int)) left r ∧ Below w.heap.size w w' := by
  obtain ⟨A, c, rfl, hn, hc⟩ := h.form
  rw [List.length_map] at hn ⊢
  go_enter Try.func83, Try.ntmps83
  go_wp2_with fail
  all_goals go_ret
  all_goals exact ⟨_, rfl, by unfold SzR; rw [bkL_ints]; omega, Below.refl _ _⟩

set_option maxHeartbeats 400000 in
theorem szStringS_any (w : World) (v : Value) (xs : List ByteArray) (F : List Nat) (left : Int) (h : SlAt w v (xs.map D.str) F) (h0 : 0 ≤ left) (h1 : left ≤ 1048576) :
    Calls Try.prog 81 #[v, .int .i64 left] w fun e w' => ∃ r, e = .returned (.int .i64 r) ∧ SzR (xs.length + bkL (xs.map D.str)) left r ∧ Below w.heap.size w w' := by
  obtain ⟨A, c, rfl, hn, hc⟩ := h.form
  rw [List.length_map] at hn h ⊢
  by_cases hfirst : left < xs.length
  · have hd : decide (left - (xs.length : Int) < 0) = true := by simp; omega
    go_enter Try.func81, Try.ntmps81
    go_wp2_with fail
    go_ret
    exact ⟨_, rfl, by unfold SzR; omega, Below.refl _ _⟩
  have hd : decide (left - (xs.length : Int) < 0) = false := by simp; omega
  go_enter Try.func81, Try.ntmps81
  go_wp2_with fail
  go_loopw [1, 5] (fun l i wr => ∃ k : Nat, k ≤ xs.length ∧ i = .int .i64 k ∧ l = .int .i64 (left - xs.length - bkL ((xs.map D.str).take k)) ∧ (bkL ((xs.map D.str).take k) : Int) ≤ left - xs.length ∧ Below w.heap.size w wr) (fun _ i _ => xs.length - (intOf i).toNat)
  case atStart => exact ⟨0, Nat.zero_le _, rfl, by simp [bkL], by simp [bkL]; omega, Below.refl _ _⟩
  case round =>
    obtain ⟨k, hk, rfl, rfl, hbk, hb⟩ := hrel
    by_cases hlt : k < xs.length
    · have e1 := bkL_take_succ (xs.map D.str) k (by simpa using hlt)
      have e2 := bkL_take_le (xs.map D.str) (k + 1)
      obtain ⟨b, off, ys, Fi, rfl, hbl, _, hr, hlen, _, hcell⟩ := (h.below hb).at_ (i := k) (strWds xs) (by simpa using hlt)
      simp only [List.getElem_map, rep_str] at hr
      obtain ⟨rfl, _, hS⟩ := hr
      have hS' : xs[k].size ≤ 9223372036854775807 := hS
      have c0 : wr.cell? ⟨b, off + k, none⟩ = some (.string xs[k]) := by simpa using hcell 0 (.string xs[k]) rfl
      simp only [List.getElem_map, bk] at e1
      have E1 : Hid _ := Lib.hid e1
      clear e1 hcell hlen
      by_cases g1 : (xs[k].size : Int) ≤ left - xs.length - bkL ((xs.map D.str).take k)
      · go_wp2_with fail
        go_roundw
        case rel => exact ⟨k + 1, by omega, by go_num, by rw [E1.out]; go_num, by rw [E1.out]; omega, hb⟩
        case measure => simp [intOf]; omega
      · go_wp2_with fail
        go_ret
        have := E1.out
        exact ⟨_, rfl, by unfold SzR; omega, hb⟩
    · have hk' : k = xs.length := by omega
      have ht : (xs.map D.str).take k = xs.map D.str := List.take_of_length_le (by simp; omega)
      rw [ht] at hbk ⊢
      clear ht
      go_wp2_with fail
      go_ret
      exact ⟨_, rfl, by unfold SzR; omega, hb⟩
end Go.Proofs.Ytopjlbifglacpaa
