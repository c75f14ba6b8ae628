/- Several texts in one: MkScene. -/
import Derived.Test.YtmiboaogfjgkjaaMkD
import Derived.Test.YtmiboaogfjgkjaaPkT0
/- The laws' marks written into slices of Scene, and their test. Conditions: the marks are numbers between 0 and 1099511627776. Written by a program of mine. -/
set_option linter.unusedSimpArgs false
set_option linter.unusedVariables false
namespace Go.Proofs.Ytmiboaogfjgkjaa
open Go.RowKit
theorem TScene.open_ {w : World} {x : TScene} {cs : List Value} {F : List Nat} (h : Rep w x.d cs F) :
    ∃ (A2 : Option Addr) (c2 : Nat) (F2 : List Nat), cs = [.int .i64 x.w, .int .i64 x.h, .slice A2 x.marks.length c2] ∧ F = F2 ∧ I64 x.w ∧ I64 x.h ∧ SlAt w (.slice A2 x.marks.length c2) (x.marks.map TMark.d) F2 := by
  simp only [TScene.d, rep_agg, repL_cons, repL_nil, rep_int, rep_bool, rep_str, rep_sl, List.length_map] at h
  obtain ⟨_, _, _, _, rfl, rfl, ⟨rfl, rfl, i0⟩, ⟨_, _, _, _, rfl, rfl, ⟨rfl, rfl, i1⟩, ⟨_, _, F2, _, rfl, rfl, ⟨A2, c2, rfl, q2⟩, ⟨rfl, rfl⟩⟩⟩⟩ := h
  exact ⟨A2, c2, F2, rfl, by simp, i0, i1, q2⟩
set_option maxHeartbeats 4000000 in
set_option maxRecDepth 100000 in
theorem markScene_run (w : World) (x : TScene) (cs : List Value) (F : List Nat) (k : Int) (h : Rep w x.d cs F) (hn : F.Nodup) (hp : ∀ q ∈ F, Plain w q) (h0 : 0 ≤ k) (h1 : k + ((x.cnV : Nat) : Int) ≤ 1099511627776) :
    Calls Try.prog 62 #[.agg cs.toArray, .int .i64 k] w fun e w' => e = .returned (.int .i64 (k + ((x.cnV : Nat) : Int))) ∧ Rep w' (x.markV k).d cs F ∧ (∀ q ∈ F, Plain w' q) ∧ Off F w w' := by
  have hF := h.lt
  obtain ⟨A2, c2, F2, rfl, hFe, i0, i1, q2⟩ := TScene.open_ h
  have hFe := hFe.symm
  subst hFe
  have h1' : k + ((TMark.cnL x.marks : Nat) : Int) ≤ 1099511627776 := h1
  have hn' : (F2).Nodup := by simpa only [List.append_assoc, List.append_nil] using hn
  have dn2 := hn'
  obtain ⟨w0, hw0⟩ : ∃ w0, w0 = w.alloc (.cells #[.int .i64 x.w, .int .i64 x.h, .slice A2 x.marks.length c2] 105) := ⟨_, rfl⟩
  have B0 : Below w.heap.size w w0 := hw0 ▸ bnew (Below.refl _ _) _
  have kc0 : w0.cell? ⟨w.heap.size, 0, none⟩ = some (.int .i64 x.w) := hw0 ▸ cell_new w _ _ 0 _ rfl
  have kc1 : w0.cell? ⟨w.heap.size, 1, none⟩ = some (.int .i64 x.h) := hw0 ▸ cell_new w _ _ 1 _ rfl
  have kc2 : w0.cell? ⟨w.heap.size, 2, none⟩ = some (.slice A2 x.marks.length c2) := hw0 ▸ cell_new w _ _ 2 _ rfl
  have HW := Lib.hid hw0
  clear hw0
  have ns2 : w.heap.size ∉ F2 := fun hm => by have := hF _ (show w.heap.size ∈ _ by (try simp only [List.mem_append] at hm ⊢); first | (simp [hm]; done) | (rcases hm with h' | h' <;> simp [h']; done) | (rcases hm with h' | h' | h' <;> simp [h']; done)); omega
  have Q2 := Lib.hid (q2.below B0)
  have P2 : Hid (∀ q ∈ F2, Plain w0 q) := Lib.hid (fun q hq => (hp q (by (try simp only [List.mem_append] at hq ⊢); first | (simp [hq]; done) | (rcases hq with h' | h' <;> simp [h']; done) | (rcases hq with h' | h' | h' <;> simp [h']; done))).next B0)
  clear q2
  have HOLD := Lib.hid (And.intro hp (And.intro hF h))
  clear hp hF h
  have O0 : Off (F2) w w0 := Off.of_below B0
  go_enter Try.func62, Try.ntmps62
  go_wp2_with fail
  rw [← HW.out]
  refine (markMarkS_run _ _ x.marks F2 _ Q2.out dn2 P2.out (by omega) (by omega)).mono ?_
  rintro e w1 ⟨rfl, q2, p2, hb1⟩
  have O1 : Off (F2) w w1 := O0.trans (hb1.sub (fun q hq => by (try simp only [List.mem_append] at hq ⊢); first | (simp [hq]; done) | (rcases hq with h' | h' <;> simp [h']; done) | (rcases hq with h' | h' | h' <;> simp [h']; done)))
  replace kc0 := hb1.cell ns2 kc0
  replace kc1 := hb1.cell ns2 kc1
  replace kc2 := hb1.cell ns2 kc2
  replace Q2 := Lib.hid q2
  replace P2 := Lib.hid p2
  clear q2 p2
  go_wp2_with fail
  go_ret
  have e1 : ((x.cnV : Nat) : Int) = ((TMark.cnL x.marks : Nat) : Int) := by unfold TScene.cnV; omega
  refine ⟨ret_int (by omega), ?_, ?_, O1⟩
  · refine rep_agg.2 (repL_of (mk_cons (mk_int i0) (mk_cons (mk_int i1) (mk_cons (mk_sl Q2.out) (mk_nil (w := _))))) ?_ ?_)
    · first | rfl | simp only [List.cons_append, List.nil_append, List.append_nil]
    · first | rfl | simp only [List.nil_append, List.append_nil, List.append_assoc]
  · intro q hq
    first
    | exact P2.out q hq
    | (simp only [List.mem_append] at hq; revert hq; simp only [or_imp]; simp only [or_imp, and_imp]; first | exact fun h => P2.out q h | skip)
set_option maxHeartbeats 4000000 in
set_option maxRecDepth 100000 in
theorem heldScene_run (w : World) (x : TScene) (cs : List Value) (F : List Nat) (k : Int) (h : Rep w (x.markV k).d cs F) (h0 : 0 ≤ k) (h1 : k + ((x.cnV : Nat) : Int) ≤ 1099511627776) :
    Calls Try.prog 63 #[.agg cs.toArray, .int .i64 k] w fun e w' => e = .returned (.int .i64 (k + ((x.cnV : Nat) : Int))) ∧ Below w.heap.size w w' := by
  obtain ⟨A2, c2, F2, rfl, _, i0, i1, q2⟩ := TScene.open_ h
  clear h
  have h1' : k + ((TMark.cnL x.marks : Nat) : Int) ≤ 1099511627776 := h1
  obtain ⟨w0, hw0⟩ : ∃ w0, w0 = w.alloc (.cells #[.int .i64 (x.markV k).w, .int .i64 (x.markV k).h, .slice A2 (x.markV k).marks.length c2] 105) := ⟨_, rfl⟩
  have B0 : Below w.heap.size w w0 := hw0 ▸ bnew (Below.refl _ _) _
  have kc0 : w0.cell? ⟨w.heap.size, 0, none⟩ = some (.int .i64 (x.markV k).w) := hw0 ▸ cell_new w _ _ 0 _ rfl
  have kc1 : w0.cell? ⟨w.heap.size, 1, none⟩ = some (.int .i64 (x.markV k).h) := hw0 ▸ cell_new w _ _ 1 _ rfl
  have kc2 : w0.cell? ⟨w.heap.size, 2, none⟩ = some (.slice A2 (x.markV k).marks.length c2) := hw0 ▸ cell_new w _ _ 2 _ rfl
  have HW := Lib.hid hw0
  clear hw0
  have Q2 : Hid (SlAt w0 _ ((TMark.markL x.marks (k)).map TMark.d) F2) := Lib.hid (q2.below B0)
  clear q2
  have D0 := Below.refl w0.heap.size w0
  go_enter Try.func63, Try.ntmps63
  go_wp2_with fail
  rw [← HW.out]
  refine (heldMarkS_run _ _ x.marks F2 _ (Q2.out.below D0) (by omega) (by omega)).mono ?_
  rintro e w1 ⟨rfl, hw1⟩
  have D1 := bnext D0 hw1
  have hd1 : decide (k + ((TMark.cnL x.marks : Nat) : Int) < 0) = false := by simp; omega
  replace kc0 := cell_next hw1 kc0
  replace kc1 := cell_next hw1 kc1
  replace kc2 := cell_next hw1 kc2
  go_wp2_with fail
  go_ret
  have e1 : ((x.cnV : Nat) : Int) = ((TMark.cnL x.marks : Nat) : Int) := by unfold TScene.cnV; omega
  exact ⟨ret_int (by omega), bnext B0 D1⟩
end Go.Proofs.Ytmiboaogfjgkjaa
