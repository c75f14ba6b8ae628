/- The laws' marks written into slices of Diff, and their test. Conditions: the marks are numbers between 0 and 1099511627776. Written by a program of mine. -/
import Derived.Test.YtopjlbifglacpaaMarkBase
import Derived.Test.YtopjlbifglacpaaTyDiff
import Derived.Test.YtopjlbifglacpaaMkChange
namespace Go.Proofs.Ytopjlbifglacpaa
open Go.RowKit

def TDiff.mark (x : TDiff) (k : Int) : TDiff := ⟨k, TChange.markL x.changes (k + 1)⟩
def TDiff.cn (x : TDiff) : Nat := 1 + TChange.cnL x.changes
def TDiff.markL (xs : List TDiff) (k : Int) : List TDiff := mkL TDiff.mark TDiff.cn xs k
def TDiff.cnL (xs : List TDiff) : Nat := cnS TDiff.cn xs
theorem TDiff.markL_eq (xs : List TDiff) (k : Int) : TDiff.markL xs k = mkL TDiff.mark TDiff.cn xs k := rfl
theorem TDiff.cnL_eq (xs : List TDiff) : TDiff.cnL xs = cnS TDiff.cn xs := rfl
theorem TDiff.mark_eq (x : TDiff) (k : Int) : x.mark k = ⟨k, TChange.markL x.changes (k + 1)⟩ := rfl
theorem TDiff.cn_eq (x : TDiff) : x.cn = 1 + TChange.cnL x.changes := rfl
theorem TDiff.cn_le (x : TDiff) : x.cn ≤ 4 * (1 + bk x.d) := by
  rw [TDiff.cn_eq, TDiff.bk_]
  have h0 := TChange.cnL_le x.changes
  omega
theorem TDiff.cnL_le (xs : List TDiff) : TDiff.cnL xs ≤ 4 * (xs.length + bkL (xs.map TDiff.d)) := cnS_le TDiff.cn_le xs
def TDiff.markV (x : TDiff) (k : Int) : TDiff := ⟨x.length, TChange.markL x.changes (k)⟩
def TDiff.cnV (x : TDiff) : Nat := TChange.cnL x.changes
set_option maxHeartbeats 2000000 in
set_option maxRecDepth 100000 in
theorem markDiff_run (w : World) (x : TDiff) (cs : List Value) (F : List Nat) (k : Int) (h : Rep w x.d cs F) (hn : F.Nodup) (hp : ∀ q ∈ F, Plain w q) (h0 : 0 ≤ k) (h1 : k + ((x.cnV : Nat) : Int) ≤ 1099511627776) :
    Calls Try.prog 35 #[.agg cs.toArray, .int .i64 k] w fun e w' => e = .returned (.int .i64 (k + ((x.cnV : Nat) : Int))) ∧ Rep w' (x.markV k).d cs F ∧ (∀ q ∈ F, Plain w' q) ∧ Off F w w' := by
  have hF := h.lt
  obtain ⟨A1, c1, F1, rfl, hFe, i0, q1⟩ := TDiff.open_ h
  have hFe := hFe.symm
  subst hFe
  have h1' : k + ((TChange.cnL x.changes : Nat) : Int) ≤ 1099511627776 := h1
  have dn1 := hn
  obtain ⟨w0, hw0⟩ : ∃ w0, w0 = w.alloc (.cells #[.int .i64 x.length, .slice A1 x.changes.length c1] 46) := ⟨_, rfl⟩
  have B0 : Below w.heap.size w w0 := hw0 ▸ bnew (Below.refl _ _) _
  have kc0 : w0.cell? ⟨w.heap.size, 0, none⟩ = some (.int .i64 x.length) := hw0 ▸ cell_new w _ _ 0 _ rfl
  have kc1 : w0.cell? ⟨w.heap.size, 1, none⟩ = some (.slice A1 x.changes.length c1) := hw0 ▸ cell_new w _ _ 1 _ rfl
  have HW := Lib.hid hw0
  clear hw0
  have ns1 : w.heap.size ∉ F1 := fun hm => by have := hF _ (show w.heap.size ∈ _ by simp [hm]); omega
  have Q1 := Lib.hid (q1.below B0)
  have P1 : Hid (∀ q ∈ F1, Plain w0 q) := Lib.hid (fun q hq => (hp q (by simp [hq])).next B0)
  clear q1
  have HOLD := Lib.hid (And.intro hp (And.intro hF h))
  clear hp hF h
  have O0 : Off (F1) w w0 := Off.of_below B0
  go_enter Try.func35, Try.ntmps35
  go_wp2_with fail
  rw [← HW.out]
  refine (markChangeS_run _ _ x.changes F1 _ Q1.out dn1 P1.out (by omega) (by omega)).mono ?_
  rintro e w1 ⟨rfl, q1, p1, hb1⟩
  have O1 : Off (F1) w w1 := O0.trans (hb1.sub (fun q hq => by simp [hq]))
  replace kc0 := hb1.cell ns1 kc0
  replace kc1 := hb1.cell ns1 kc1
  replace Q1 := Lib.hid q1
  replace P1 := Lib.hid p1
  clear q1 p1
  go_wp2_with fail
  go_ret
  have e1 : ((x.cnV : Nat) : Int) = ((TChange.cnL x.changes : Nat) : Int) := by unfold TDiff.cnV; omega
  refine ⟨ret_int (by omega), ?_, ?_, O1⟩
  · exact rep_cs (TDiff.mk_ (x := x.markV k) i0 (slAt_n Q1.out (by simp only [TDiff.markV, TChange.markL_eq, mkL_length]))) (by simp only [TDiff.markV, TChange.markL_eq, mkL_length])
  · intro q hq
    first
    | exact P1.out q hq
    | (simp only [List.mem_append] at hq; rcases hq with hq <;> first | exact P1.out q hq)
set_option maxHeartbeats 2000000 in
set_option maxRecDepth 100000 in
theorem heldDiff_run (w : World) (x : TDiff) (cs : List Value) (F : List Nat) (k : Int) (h : Rep w (x.markV k).d cs F) (h0 : 0 ≤ k) (h1 : k + ((x.cnV : Nat) : Int) ≤ 1099511627776) :
    Calls Try.prog 36 #[.agg cs.toArray, .int .i64 k] w fun e w' => e = .returned (.int .i64 (k + ((x.cnV : Nat) : Int))) ∧ Below w.heap.size w w' := by
  obtain ⟨A1, c1, F1, rfl, _, i0, q1⟩ := TDiff.open_ h
  clear h
  have h1' : k + ((TChange.cnL x.changes : Nat) : Int) ≤ 1099511627776 := h1
  obtain ⟨w0, hw0⟩ : ∃ w0, w0 = w.alloc (.cells #[.int .i64 (x.markV k).length, .slice A1 (x.markV k).changes.length c1] 46) := ⟨_, rfl⟩
  have B0 : Below w.heap.size w w0 := hw0 ▸ bnew (Below.refl _ _) _
  have kc0 : w0.cell? ⟨w.heap.size, 0, none⟩ = some (.int .i64 (x.markV k).length) := hw0 ▸ cell_new w _ _ 0 _ rfl
  have kc1 : w0.cell? ⟨w.heap.size, 1, none⟩ = some (.slice A1 (x.markV k).changes.length c1) := hw0 ▸ cell_new w _ _ 1 _ rfl
  have HW := Lib.hid hw0
  clear hw0
  have Q1 : Hid (SlAt w0 _ ((TChange.markL x.changes (k)).map TChange.d) F1) := Lib.hid (q1.below B0)
  clear q1
  have D0 := Below.refl w0.heap.size w0
  go_enter Try.func36, Try.ntmps36
  go_wp2_with fail
  rw [← HW.out]
  refine (heldChangeS_run _ _ x.changes F1 _ (Q1.out.below D0) (by omega) (by omega)).mono ?_
  rintro e w1 ⟨rfl, hw1⟩
  have D1 := bnext D0 hw1
  have hd1 : decide (k + ((TChange.cnL x.changes : Nat) : Int) < 0) = false := by simp; omega
  replace kc0 := cell_next hw1 kc0
  replace kc1 := cell_next hw1 kc1
  go_wp2_with fail
  go_ret
  have e1 : ((x.cnV : Nat) : Int) = ((TChange.cnL x.changes : Nat) : Int) := by unfold TDiff.cnV; omega
  exact ⟨ret_int (by omega), bnext B0 D1⟩
theorem TDiff.cnV_le (x : TDiff) : x.cnV ≤ 4 * bk x.d := by
  unfold TDiff.cnV
  rw [TDiff.bk_]
  have h0 := TChange.cnL_le x.changes
  omega
end Go.Proofs.Ytopjlbifglacpaa
