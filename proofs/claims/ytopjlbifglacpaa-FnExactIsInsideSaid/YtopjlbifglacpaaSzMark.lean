/- The size counts of Mark and of slices of them. Conditions: the count begins between 0 and 1048576. Written by a program of mine. -/
import Derived.Test.YtopjlbifglacpaaTyMark
namespace Go.Proofs.Ytopjlbifglacpaa
open Go.RowKit


set_option maxHeartbeats 1000000 in
theorem szMarkS_any (w : World) (v : Value) (xs : List TMark) (F : List Nat) (left : Int) (h : SlAt w v (xs.map TMark.d) F) (h0 : 0 ≤ left) (h1 : left ≤ 1048576) :
    Calls Try.prog 63 #[v, .int .i64 left] w fun e w' => ∃ r, e = .returned (.int .i64 r) ∧ SzR (xs.length + bkL (xs.map TMark.d)) left r ∧ Below w.heap.size w w' := by
  obtain ⟨A, c, rfl, hn, hc⟩ := h.form
  rw [List.length_map] at hn h ⊢
  have hz : bkL (xs.map TMark.d) = 0 := by
    clear h hn
    induction xs with
    | nil => rfl
    | cons x xs ih => simp only [List.map_cons, bkL, TMark.bk_, ih]
  rw [hz]
  clear hz
  go_enter Try.func63, Try.ntmps63
  go_wp2_with fail
  all_goals go_ret
  all_goals exact ⟨_, rfl, by unfold SzR; omega, Below.refl _ _⟩

end Go.Proofs.Ytopjlbifglacpaa
