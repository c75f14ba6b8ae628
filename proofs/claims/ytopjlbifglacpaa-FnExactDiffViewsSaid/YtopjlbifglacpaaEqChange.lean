/- The laws' comparison of Change: of two that read as the same datum it says true. Conditions: none. Written by a program of mine. -/
import Derived.Test.YtopjlbifglacpaaNew
import Derived.Test.YtopjlbifglacpaaTyChange
import Derived.Test.YtopjlbifglacpaaEqLine
namespace Go.Proofs.Ytopjlbifglacpaa
open Go.RowKit

set_option maxHeartbeats 2000000 in
set_option maxRecDepth 100000 in
theorem eqChange_same (w : World) (x : TChange) (cs cs' : List Value) (F F' : List Nat) (h : Rep w x.d cs F) (k : Rep w x.d cs' F') :
    Calls Try.prog 109 #[.agg cs.toArray, .agg cs'.toArray] w fun e w' => e = .returned (.bool true) ∧ Below w.heap.size w w' := by
  obtain ⟨rfl, _, i0, i1, i3⟩ := TChange.open_ h
  obtain ⟨rfl, _, i0', i1', i3'⟩ := TChange.open_ k
  clear h k
  go_enter Try.func109, Try.ntmps109
  go_wp2_with (first | (go_at_call 62; go_must (refine (eqLine_same _ x.line _ _ _ _ (TLine.mk_ i1 i3) (TLine.mk_ i1' i3')).mono ?_; rintro e w1 ⟨rfl, hb1⟩; have B1 := bnext (show Below w.heap.size w _ from (bnew (bnew (Below.refl _ _) _) _)) hb1; have hc1_ := (bcell hb1).1; have z1_0 : w.heap.size < w1.heap.size := Nat.lt_of_lt_of_le (by first | (simp; done) | assumption | (simp; omega)) hb1.size; have z1_1 : w.heap.size + 1 < w1.heap.size := Nat.lt_of_lt_of_le (by first | (simp; done) | assumption | (simp; omega)) hb1.size)))
  go_ret
  exact ⟨rfl, B1⟩

set_option maxHeartbeats 2000000 in
set_option maxRecDepth 100000 in
theorem eqChangeS_same (w : World) (u v : Value) (xs : List TChange) (F F' : List Nat) (h : SlAt w u (xs.map TChange.d) F) (k : SlAt w v (xs.map TChange.d) F') :
    Calls Try.prog 68 #[u, v] w fun e w' => e = .returned (.bool true) ∧ Below w.heap.size w w' := by
  obtain ⟨A, c, rfl, hc, hcm⟩ := h.form
  obtain ⟨A', c', rfl, hc', _⟩ := k.form
  simp only [List.length_map] at h k hc hc' ⊢
  have hne : ((xs.length : Int) != xs.length) = false := by simp
  go_enter Try.func68, Try.ntmps68
  go_wp2_with fail
  go_loopw [5] (fun i wr => ∃ k : Nat, k ≤ xs.length ∧ i = .int .i64 k ∧ Below w.heap.size w wr) (fun i _ => xs.length - (intOf i).toNat)
  case atStart => exact ⟨0, Nat.zero_le _, rfl, Below.refl _ _⟩
  case round =>
    obtain ⟨i, hi, rfl, hb⟩ := hrel
    by_cases hlt : i < xs.length
    · obtain ⟨b, off, ys, Fi, rfl, hbl, _, hr, hlen, _, hcell⟩ := (h.below hb).at_ (i := i) (TChange.wds xs) (by simpa using hlt)
      obtain ⟨b', off', ys', Fi', rfl, hbl', _, hr', hlen', _, hcell'⟩ := (k.below hb).at_ (i := i) (TChange.wds xs) (by simpa using hlt)
      simp only [List.getElem_map] at hr hr'
      have hi' : (i : Int) < (xs.length : Int) := by omega
      have hr0 := hr
      have hr0' := hr'
      obtain ⟨rfl, _, _, _, _⟩ := TChange.open_ hr0
      obtain ⟨rfl, _, _, _, _⟩ := TChange.open_ hr0'
      have c0 : wr.cell? ⟨b, off + i * 4, none⟩ = _ := hcell 0 _ rfl
      have c1 := hcell 1 _ rfl
      have c2 := hcell 2 _ rfl
      have c3 := hcell 3 _ rfl
      have d0 : wr.cell? ⟨b', off' + i * 4, none⟩ = _ := hcell' 0 _ rfl
      have d1 := hcell' 1 _ rfl
      have d2 := hcell' 2 _ rfl
      have d3 := hcell' 3 _ rfl
      have hx_ := @ext_cell wr
      have HR := Lib.hid hr
      have HR' := Lib.hid hr'
      clear hcell hcell' hlen hlen' hr hr'
      go_wp2_with fail
      refine wp_region_mild (by kernel_rfl) (by kernel_rfl) ?_
      repeat (go_big_quiet_step ((go_at_call 109; exact mild_of (eqChange_same _ _ _ _ _ _ (HR.out.below (Subtype.property _)) (HR'.out.below (Subtype.property _))))))
      refine wpQuiet_nil ?_
      rintro w' ⟨x_, rfl⟩
      obtain ⟨w2, hw2⟩ := x_
      clear hx_
      go_wp2_with fail
      go_roundw
      case rel => exact ⟨i + 1, by omega, by go_num, bnext hb hw2⟩
      case measure => simp [intOf]; omega
    · have hk' : i = xs.length := by omega
      subst hk'
      go_wp2_with fail
      go_ret
      exact ⟨rfl, hb⟩

end Go.Proofs.Ytopjlbifglacpaa
