/- The laws' comparison of Int: of two that read as the same datum it says true. Conditions: none. Written by a program of mine. -/
import Derived.Test.YtopjlbifglacpaaNew
namespace Go.Proofs.Ytopjlbifglacpaa
open Go.RowKit

set_option maxHeartbeats 2000000 in
set_option maxRecDepth 100000 in
theorem eqIntS_same (w : World) (u v : Value) (xs : List Int) (F F' : List Nat) (h : SlAt w u (xs.map D.int) F) (k : SlAt w v (xs.map D.int) F') :
    Calls Try.prog 29 #[u, v] w fun e w' => e = .returned (.bool true) ∧ Below w.heap.size w w' := by
  obtain ⟨A, c, rfl, hc, hcm⟩ := h.form
  obtain ⟨A', c', rfl, hc', _⟩ := k.form
  simp only [List.length_map] at h k hc hc' ⊢
  have hne : ((xs.length : Int) != xs.length) = false := by simp
  go_enter Try.func29, Try.ntmps29
  go_wp2_with fail
  go_loopw [5] (fun i wr => ∃ k : Nat, k ≤ xs.length ∧ i = .int .i64 k ∧ Below w.heap.size w wr) (fun i _ => xs.length - (intOf i).toNat)
  case atStart => exact ⟨0, Nat.zero_le _, rfl, Below.refl _ _⟩
  case round =>
    obtain ⟨i, hi, rfl, hb⟩ := hrel
    by_cases hlt : i < xs.length
    · obtain ⟨b, off, ys, Fi, rfl, hbl, _, hr, hlen, _, hcell⟩ := (h.below hb).at_ (i := i) (intWds xs) (by simpa using hlt)
      obtain ⟨b', off', ys', Fi', rfl, hbl', _, hr', hlen', _, hcell'⟩ := (k.below hb).at_ (i := i) (intWds xs) (by simpa using hlt)
      simp only [List.getElem_map] at hr hr'
      have hi' : (i : Int) < (xs.length : Int) := by omega
      obtain ⟨rfl, _, _⟩ := rep_int.1 hr
      obtain ⟨rfl, _, _⟩ := rep_int.1 hr'
      have c0 : wr.cell? ⟨b, off + i, none⟩ = some (.int .i64 xs[i]) := by simpa using hcell 0 (.int .i64 xs[i]) rfl
      have d0 : wr.cell? ⟨b', off' + i, none⟩ = some (.int .i64 xs[i]) := by simpa using hcell' 0 (.int .i64 xs[i]) rfl
      clear hcell hcell' hlen hlen' hr hr'
      go_wp2_with fail
      go_quiet (fail)
      go_wp2_with fail
      go_roundw
      case rel => exact ⟨i + 1, by omega, by go_num, below_drewN hb _⟩
      case measure => simp [intOf]; omega
    · have hk' : i = xs.length := by omega
      subst hk'
      go_wp2_with fail
      go_ret
      exact ⟨rfl, hb⟩

end Go.Proofs.Ytopjlbifglacpaa
