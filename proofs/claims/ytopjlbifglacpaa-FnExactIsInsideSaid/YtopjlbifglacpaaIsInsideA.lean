/- IsInside: the reference and the program ask the same of every mark and of the scene. -/
import Derived.Test.YtopjlbifglacpaaSzScene
import Derived.Test.YtopjlbifglacpaaToScene
import Derived.Test.YtopjlbifglacpaaEqScene
import Derived.Deep.RegionHeld3
namespace Go.Proofs.Ytopjlbifglacpaa
open Go.RowKit

def markOk (s : TScene) (m : TMark) : Bool := decide (0 ≤ m.x) && decide (0 ≤ m.y) && decide (0 ≤ m.w) && decide (0 ≤ m.h) && decide (wrap64 (m.x + m.w) ≤ s.w) && decide (wrap64 (m.y + m.h) ≤ s.h)
def inside (s : TScene) : Bool := s.marks.all (markOk s) && (decide (0 ≤ s.w) && decide (0 ≤ s.h))

set_option maxHeartbeats 2000000 in
set_option maxRecDepth 100000 in
theorem specIsInside_any (w : World) (x : TScene) (cs : List Value) (F : List Nat) (h : Rep w x.d cs F) :
    Calls Try.prog 18 #[.agg cs.toArray] w fun e w' => e = .returned (.bool (inside x)) ∧ Below w.heap.size w w' := by
  obtain ⟨A2, c2, F2, rfl, _, i0, i1, q2⟩ := TScene.open_ h
  clear h
  obtain ⟨w0, hw0⟩ : ∃ w0, w0 = w.alloc (.cells #[.int .i64 x.w, .int .i64 x.h, .slice A2 x.marks.length c2] 35) := ⟨_, rfl⟩
  have B0 : Below w.heap.size w w0 := hw0 ▸ bnew (Below.refl _ _) _
  have k0 : w0.cell? ⟨w.heap.size, 0, none⟩ = some (.int .i64 x.w) := hw0 ▸ cell_new w _ _ 0 _ rfl
  have k1 : w0.cell? ⟨w.heap.size, 1, none⟩ = some (.int .i64 x.h) := hw0 ▸ cell_new w _ _ 1 _ rfl
  have k2 : w0.cell? ⟨w.heap.size, 2, none⟩ = some (.slice A2 x.marks.length c2) := hw0 ▸ cell_new w _ _ 2 _ rfl
  have HW := Lib.hid hw0
  clear hw0
  have hlen : x.marks.length ≤ 9223372036854775807 := by have := q2.len; simp only [List.length_map] at this; omega
  go_enter Try.func18, Try.ntmps18
  go_wp2_with fail
  rw [← HW.out]
  go_loopw [3] (fun i wr => ∃ k : Nat, k ≤ x.marks.length ∧ i = .int .i64 k ∧ (x.marks.take k).all (markOk x) = true ∧ Below w0.heap.size w0 wr) (fun i _ => x.marks.length - (intOf i).toNat)
  case atStart => exact ⟨0, Nat.zero_le _, rfl, rfl, Below.refl _ _⟩
  case round =>
    obtain ⟨k, hk, rfl, hall, hb⟩ := hrel
    have HA := Lib.hid hall
    clear hall
    have K0 := cell_next hb k0
    have K1 := cell_next hb k1
    have K2 := cell_next hb k2
    have zw : w.heap.size < wr.heap.size := World.block_lt_of_cell? wr _ K0
    clear k0 k1 k2
    by_cases hlt : k < x.marks.length
    · obtain ⟨b, off, ys, Fi, rfl, hbl, _, hr, hlen', _, hcell⟩ := (q2.below (bnext B0 hb)).at_ (i := k) (TMark.wds x.marks) (by simpa using hlt)
      simp only [List.getElem_map] at hr
      obtain ⟨rfl, _, j0, j1, j2, j3⟩ := TMark.open_ hr
      have c0 : wr.cell? ⟨b, off + k * 4, none⟩ = _ := hcell 0 _ rfl
      have c1 := hcell 1 _ rfl
      have c2' := hcell 2 _ rfl
      have c3 := hcell 3 _ rfl
      clear hcell hr hlen' j0 j1 j2 j3
      have hmem : x.marks[k] ∈ x.marks := List.getElem_mem hlt
      have hno : markOk x x.marks[k] = false → inside x = false := fun hm => by
        unfold inside
        rw [Bool.and_eq_false_iff]; left
        rw [List.all_eq_false]
        exact ⟨_, hmem, by rw [hm]; simp⟩
      have HN := Lib.hid hno
      clear hno hmem
      by_cases a1 : x.marks[k].x < 0
      · go_wp2_with fail
        go_ret
        exact ⟨ret_bool (HN.out (by unfold markOk; simp; omega)).symm, bnext B0 (bnew hb _)⟩
      by_cases a2 : x.marks[k].y < 0
      · go_wp2_with fail
        go_ret
        exact ⟨ret_bool (HN.out (by unfold markOk; simp; omega)).symm, bnext B0 (bnew hb _)⟩
      by_cases a3 : x.marks[k].w < 0
      · go_wp2_with fail
        go_ret
        exact ⟨ret_bool (HN.out (by unfold markOk; simp; omega)).symm, bnext B0 (bnew hb _)⟩
      by_cases a4 : x.marks[k].h < 0
      · go_wp2_with fail
        go_ret
        exact ⟨ret_bool (HN.out (by unfold markOk; simp; omega)).symm, bnext B0 (bnew hb _)⟩
      by_cases a5 : x.w < wrap64 (x.marks[k].x + x.marks[k].w)
      · go_wp2_with fail
        go_ret
        exact ⟨ret_bool (HN.out (by unfold markOk; simp; omega)).symm, bnext B0 (bnew hb _)⟩
      by_cases a6 : x.h < wrap64 (x.marks[k].y + x.marks[k].h)
      · go_wp2_with fail
        go_ret
        exact ⟨ret_bool (HN.out (by unfold markOk; simp; omega)).symm, bnext B0 (bnew hb _)⟩
      go_wp2_with fail
      go_roundw
      case rel =>
        refine ⟨k + 1, by omega, by go_num, ?_, bnew hb _⟩
        rw [List.take_succ_eq_append_getElem hlt, List.all_append, HA.out]
        simp only [List.all_cons, List.all_nil, Bool.and_true, Bool.true_and]
        unfold markOk
        simp
        omega
      case measure => simp [intOf]; omega
    · have hk' : k = x.marks.length := by omega
      subst hk'
      have hall' : x.marks.all (markOk x) = true := by have := HA.out; rwa [List.take_of_length_le (Nat.le_refl _)] at this
      have hin : inside x = (decide (0 ≤ x.w) && decide (0 ≤ x.h)) := by unfold inside; rw [hall']; rfl
      have HI := Lib.hid hin
      clear hall' hin
      by_cases b1 : 0 ≤ x.w
      · by_cases b2 : 0 ≤ x.h
        · go_wp2_with fail
          go_ret
          exact ⟨ret_bool (by rw [HI.out]; simp [b1, b2]), bnext B0 hb⟩
        · go_wp2_with fail
          go_ret
          exact ⟨ret_bool (by rw [HI.out, decide_eq_false (show ¬ 0 ≤ x.h by omega), Bool.and_false]), bnext B0 hb⟩
      · go_wp2_with fail
        go_ret
        exact ⟨ret_bool (by rw [HI.out, decide_eq_false (show ¬ 0 ≤ x.w by omega), Bool.false_and]), bnext B0 hb⟩
set_option maxHeartbeats 2000000 in
set_option maxRecDepth 100000 in
theorem implIsInside_any (w : World) (x : TScene) (cs : List Value) (F : List Nat) (h : Rep w x.d cs F) :
    Calls Try.prog 20 #[.agg cs.toArray] w fun e w' => e = .returned (.bool (inside x)) ∧ Below w.heap.size w w' := by
  obtain ⟨A2, c2, F2, rfl, _, i0, i1, q2⟩ := TScene.open_ h
  clear h
  obtain ⟨w0, hw0⟩ : ∃ w0, w0 = w.alloc (.cells #[.int .i64 x.w, .int .i64 x.h, .slice A2 x.marks.length c2] 35) := ⟨_, rfl⟩
  have B0 : Below w.heap.size w w0 := hw0 ▸ bnew (Below.refl _ _) _
  have k0 : w0.cell? ⟨w.heap.size, 0, none⟩ = some (.int .i64 x.w) := hw0 ▸ cell_new w _ _ 0 _ rfl
  have k1 : w0.cell? ⟨w.heap.size, 1, none⟩ = some (.int .i64 x.h) := hw0 ▸ cell_new w _ _ 1 _ rfl
  have k2 : w0.cell? ⟨w.heap.size, 2, none⟩ = some (.slice A2 x.marks.length c2) := hw0 ▸ cell_new w _ _ 2 _ rfl
  have HW := Lib.hid hw0
  clear hw0
  have hlen : x.marks.length ≤ 9223372036854775807 := by have := q2.len; simp only [List.length_map] at this; omega
  go_enter Try.func20, Try.ntmps20
  go_wp2_with fail
  rw [← HW.out]
  go_loopw [8] (fun i wr => ∃ k : Nat, k ≤ x.marks.length ∧ i = .int .i64 k ∧ (x.marks.take k).all (markOk x) = true ∧ Below w0.heap.size w0 wr) (fun i _ => x.marks.length - (intOf i).toNat)
  case atStart => exact ⟨0, Nat.zero_le _, rfl, rfl, Below.refl _ _⟩
  case round =>
    obtain ⟨k, hk, rfl, hall, hb⟩ := hrel
    have HA := Lib.hid hall
    clear hall
    have K0 := cell_next hb k0
    have K1 := cell_next hb k1
    have K2 := cell_next hb k2
    have zw : w.heap.size < wr.heap.size := World.block_lt_of_cell? wr _ K0
    clear k0 k1 k2
    by_cases hlt : k < x.marks.length
    · obtain ⟨b, off, ys, Fi, rfl, hbl, _, hr, hlen', _, hcell⟩ := (q2.below (bnext B0 hb)).at_ (i := k) (TMark.wds x.marks) (by simpa using hlt)
      simp only [List.getElem_map] at hr
      obtain ⟨rfl, _, j0, j1, j2, j3⟩ := TMark.open_ hr
      have c0 : wr.cell? ⟨b, off + k * 4, none⟩ = _ := hcell 0 _ rfl
      have c1 := hcell 1 _ rfl
      have c2' := hcell 2 _ rfl
      have c3 := hcell 3 _ rfl
      clear hcell hr hlen' j0 j1 j2 j3
      have hmem : x.marks[k] ∈ x.marks := List.getElem_mem hlt
      have hno : markOk x x.marks[k] = false → inside x = false := fun hm => by
        unfold inside
        rw [Bool.and_eq_false_iff]; left
        rw [List.all_eq_false]
        exact ⟨_, hmem, by rw [hm]; simp⟩
      have HN := Lib.hid hno
      clear hno hmem
      by_cases a1 : x.marks[k].x < 0
      · go_wp2_with fail
        go_ret
        exact ⟨ret_bool (HN.out (by unfold markOk; simp; omega)).symm, bnext B0 (bnew hb _)⟩
      by_cases a2 : x.marks[k].y < 0
      · go_wp2_with fail
        go_ret
        exact ⟨ret_bool (HN.out (by unfold markOk; simp; omega)).symm, bnext B0 (bnew hb _)⟩
      by_cases a3 : x.marks[k].w < 0
      · go_wp2_with fail
        go_ret
        exact ⟨ret_bool (HN.out (by unfold markOk; simp; omega)).symm, bnext B0 (bnew hb _)⟩
      by_cases a4 : x.marks[k].h < 0
      · go_wp2_with fail
        go_ret
        exact ⟨ret_bool (HN.out (by unfold markOk; simp; omega)).symm, bnext B0 (bnew hb _)⟩
      by_cases a5 : x.w < wrap64 (x.marks[k].x + x.marks[k].w)
      · go_wp2_with fail
        go_ret
        exact ⟨ret_bool (HN.out (by unfold markOk; simp; omega)).symm, bnext B0 (bnew hb _)⟩
      by_cases a6 : x.h < wrap64 (x.marks[k].y + x.marks[k].h)
      · go_wp2_with fail
        go_ret
        exact ⟨ret_bool (HN.out (by unfold markOk; simp; omega)).symm, bnext B0 (bnew hb _)⟩
      go_wp2_with fail
      go_roundw
      case rel =>
        refine ⟨k + 1, by omega, by go_num, ?_, bnew hb _⟩
        rw [List.take_succ_eq_append_getElem hlt, List.all_append, HA.out]
        simp only [List.all_cons, List.all_nil, Bool.and_true, Bool.true_and]
        unfold markOk
        simp
        omega
      case measure => simp [intOf]; omega
    · have hk' : k = x.marks.length := by omega
      subst hk'
      have hall' : x.marks.all (markOk x) = true := by have := HA.out; rwa [List.take_of_length_le (Nat.le_refl _)] at this
      have hin : inside x = (decide (0 ≤ x.w) && decide (0 ≤ x.h)) := by unfold inside; rw [hall']; rfl
      have HI := Lib.hid hin
      clear hall' hin
      by_cases b1 : 0 ≤ x.w
      · by_cases b2 : 0 ≤ x.h
        · go_wp2_with fail
          go_ret
          exact ⟨ret_bool (by rw [HI.out]; simp [b1, b2]), bnext B0 hb⟩
        · go_wp2_with fail
          go_ret
          exact ⟨ret_bool (by rw [HI.out, decide_eq_false (show ¬ 0 ≤ x.h by omega), Bool.and_false]), bnext B0 hb⟩
      · go_wp2_with fail
        go_ret
        exact ⟨ret_bool (by rw [HI.out, decide_eq_false (show ¬ 0 ≤ x.w by omega), Bool.false_and]), bnext B0 hb⟩
end Go.Proofs.Ytopjlbifglacpaa
