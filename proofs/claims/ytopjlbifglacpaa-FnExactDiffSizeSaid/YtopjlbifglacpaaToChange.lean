/- The laws' copies of Change: a copy reads as what was copied, and all its blocks are new. Conditions: at most 1048576 values and letters. Written by a program of mine. -/
import Derived.Test.YtopjlbifglacpaaNew
import Derived.Test.YtopjlbifglacpaaTyChange
import Derived.Test.YtopjlbifglacpaaToLine
namespace Go.Proofs.Ytopjlbifglacpaa
open Go.RowKit

set_option maxHeartbeats 4000000 in
set_option maxRecDepth 100000 in
theorem toChange_new (w : World) (x : TChange) (cs : List Value) (F : List Nat) (h : Rep w x.d cs F) (hb : bk x.d ≤ 1048576) :
    Calls Try.prog 108 #[.agg cs.toArray] w fun e w' => ∃ (cs' : List Value) (F' : List Nat), e = .returned (.agg cs'.toArray) ∧ Rep w' x.d cs' F' ∧ Fr w.heap.size w' F' ∧ Below w.heap.size w w' := by
  obtain ⟨rfl, _, i0, i1, i3⟩ := TChange.open_ h
  rw [TChange.bk_] at hb
  have HB := Lib.hid hb
  clear h hb
  go_enter Try.func108, Try.ntmps108
  go_wp2_with (first | (go_at_call 60; go_must (refine (toLine_new _ x.line _ _ (TLine.mk_ i1 i3) (by have := HB.out; omega)).mono ?_; rintro e w1 ⟨cs1, G1, rfl, n1, f1, hb1⟩; have B1 := bnext (show Below w.heap.size w _ from (bnew (bnew (bnew (Below.refl _ _) _) _) _)) hb1; have z1 : w.heap.size + 3 ≤ w1.heap.size := Nat.le_trans (by simp only [size_set, World.size_alloc]; try omega) hb1.size; have z1_0 : w.heap.size < w1.heap.size := (by omega); have z1_1 : w.heap.size + 1 < w1.heap.size := (by omega); have z1_2 : w.heap.size + 2 < w1.heap.size := (by omega); have N1_1 : NewD (w.heap.size + 3) w1 _ _ G1 := (show NewD (w.heap.size + 3) w1 _ _ G1 from ⟨n1, f1.mono (by simp only [size_set, World.size_alloc]; try omega)⟩); have u1 := f1.lt; have n1_ := n1; obtain ⟨rfl, _, _, _⟩ := TLine.open_ n1_; clear n1_; have hc1_ := (bcell hb1).1; have hf1_ := (bcell hb1).2)))
  refine bodyPost_ret (v := .agg #[.int .i64 x.at_, .int .i64 x.line.cell, .bool x.line.fresh, .string x.line.text]) (by simp [results, Try.results108, go_sem, hc1_, z1_0, z1_1, z1_2]) rfl ⟨[.int .i64 x.at_, .int .i64 x.line.cell, .bool x.line.fresh, .string x.line.text], G1, rfl, ?_, ?_, ?_⟩
  · rw [TChange.d, rep_agg]
    exact repL_of (mk_cons (mk_int i0) (mk_cons (NewD.rep (NewD.set (NewD.set (NewD.set (NewD.set (NewD.set (NewD.set (NewD.set N1_1 (by simp; try omega) _) (by simp; try omega) _) (by simp; try omega) _) (by simp; try omega) _) (by simp; try omega) _) (by simp; try omega) _) (by simp; try omega) _)) mk_nil)) rfl (by simp only [List.nil_append, List.append_nil])
  · exact (NewD.low (NewD.set (NewD.set (NewD.set (NewD.set (NewD.set (NewD.set (NewD.set N1_1 (by simp; try omega) _) (by simp; try omega) _) (by simp; try omega) _) (by simp; try omega) _) (by simp; try omega) _) (by simp; try omega) _) (by simp; try omega) _) (by omega))
  · exact (bset (bset (bset (bset (bset (bset (bset B1 (by simp; try omega) _) (by simp; try omega) _) (by simp; try omega) _) (by simp; try omega) _) (by simp; try omega) _) (by simp; try omega) _) (by simp; try omega) _)

set_option maxHeartbeats 1000000 in
theorem toChangeS_new (w : World) (v : Value) (xs : List TChange) (F : List Nat) (h : SlAt w v (xs.map TChange.d) F) (hb : xs.length + bkL (xs.map TChange.d) ≤ 1048576) :
    Calls Try.prog 67 #[v] w fun e w' => ∃ (A' : Option Addr) (c' : Nat) (F' : List Nat), e = .returned (.slice A' xs.length c') ∧ SlAt w' (.slice A' xs.length c') (xs.map TChange.d) F' ∧ Fr w.heap.size w' F' ∧ Below w.heap.size w w' := by
  obtain ⟨A, c, rfl, hc, _⟩ := h.form
  rw [List.length_map] at h hc ⊢
  have hn : xs.length ≤ 1048576 := by omega
  have HB := Lib.hid hb
  clear hb
  go_enter Try.func67, Try.ntmps67
  go_wp2_with (at_make; refine wpList_make_bld _ rfl _ _ _ rfl 122 4 40 _ Try.underlying44 TChange.info rfl (by omega) _ _ _ _ xs.length rfl rfl rfl rfl (by omega) (by omega) TChange.zero.d TChange.zeroRep ?_)
  intro w1 hb1 hw1
  go_wp2_with fail
  go_loopw [4] (fun i wr => ∃ (k : Nat) (Fs : List Nat), k ≤ xs.length ∧ i = .int .i64 k ∧ Bld w.heap.size 122 4 wr (.slice (some ⟨w.heap.size, 0, none⟩) xs.length xs.length) ((xs.map TChange.d).take k ++ List.replicate (xs.length - k) TChange.zero.d) Fs ∧ Below w.heap.size w wr) (fun i _ => xs.length - (intOf i).toNat)
  case atStart => exact ⟨0, [], Nat.zero_le _, rfl, by simpa using hb1, hw1⟩
  case round =>
    obtain ⟨k, Fs, hk, rfl, hbl, hb⟩ := hrel
    by_cases hlt : k < xs.length
    · obtain ⟨b, off, ys, Fi, rfl, hbl0, _, hr, hlen, _, hcell⟩ := (h.below hb).at_ (i := k) (TChange.wds xs) (by simpa using hlt)
      simp only [List.getElem_map] at hr
      rw [toRep hlt] at hbl
      have hbk : bk (TChange.d xs[k]) ≤ 1048576 := by
        have h1 := HB.out
        have h2 := bkL_get_le (xs.map TChange.d) k (by simpa using hlt)
        simp only [List.getElem_map] at h2
        omega
      have HL := Lib.hid hlen
      have HC := Lib.hid hcell
      clear hlen hcell
      go_wp2_with (first | ((with_reducible show wpList _ _ _ (Oper.mk _ (Op.load 154 _) _ _ _ _ :: _) _ _); refine wpList_load_cells rfl _ _ rfl Try.underlying154 TChange.linfo rfl HL.out HC.out ?_) | (go_at_call 108; refine (toChange_new _ xs[k] ys Fi hr hbk).mono ?_; rintro e w2 ⟨cs', F', rfl, hr2, hf2, hb2⟩) | ((with_reducible show wpList _ _ _ (Oper.mk none (Op.store _ _ _) _ _ _ _ :: _) _ _); refine wpList_store_bld _ rfl _ _ _ rfl (x := TChange.d xs[k]) _ rfl rfl rfl TChange.info (hbl.below hb2) (toWds xs (TChange.wds xs) k _ _ _ (TChange.wd_ _) (TChange.wd_ _)) (TChange.wd_ _) hr2 (hf2.mono hb.size) (hbl.far hf2) (by simp; omega) ?_))
      intro w3 Fs3 hbl3 hg3 _
      go_wp2_with fail
      go_roundw
      case rel => exact ⟨k + 1, Fs3, by omega, by go_num, by rw [← toTake hlt]; exact hbl3, (bnext hb hb2).grown hg3 (bnext hb hb2).size (by simp)⟩
      case measure => simp [intOf]; omega
    · have hk' : k = xs.length := by omega
      subst hk'
      go_wp2_with fail
      go_ret
      have hbl' : Bld w.heap.size 122 4 wr (.slice (some ⟨w.heap.size, 0, none⟩) xs.length xs.length) (xs.map TChange.d) Fs := by simpa [List.take_of_length_le] using hbl
      obtain ⟨F', g1, g2, _⟩ := hbl'.done
      exact ⟨_, _, F', rfl, g1, g2, hb⟩

end Go.Proofs.Ytopjlbifglacpaa
