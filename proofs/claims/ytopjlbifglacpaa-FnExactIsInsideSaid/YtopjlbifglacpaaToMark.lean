/- The laws' copies of Mark: a copy reads as what was copied, and all its blocks are new. Conditions: at most 1048576 values and letters. Written by a program of mine. -/
import Derived.Test.YtopjlbifglacpaaNew
import Derived.Test.YtopjlbifglacpaaTyMark
namespace Go.Proofs.Ytopjlbifglacpaa
open Go.RowKit

set_option maxHeartbeats 4000000 in
set_option maxRecDepth 100000 in
theorem toMark_new (w : World) (x : TMark) (cs : List Value) (F : List Nat) (h : Rep w x.d cs F) (hb : bk x.d ≤ 1048576) :
    Calls Try.prog 105 #[.agg cs.toArray] w fun e w' => ∃ (cs' : List Value) (F' : List Nat), e = .returned (.agg cs'.toArray) ∧ Rep w' x.d cs' F' ∧ Fr w.heap.size w' F' ∧ Below w.heap.size w w' := by
  obtain ⟨rfl, _, i0, i1, i2, i3⟩ := TMark.open_ h
  rw [TMark.bk_] at hb
  have HB := Lib.hid hb
  clear h hb
  go_enter Try.func105, Try.ntmps105
  go_wp2_with fail
  refine bodyPost_ret (v := .agg #[.int .i64 x.x, .int .i64 x.y, .int .i64 x.w, .int .i64 x.h]) (by simp [results, Try.results105, go_sem]) rfl ⟨[.int .i64 x.x, .int .i64 x.y, .int .i64 x.w, .int .i64 x.h], [], rfl, ?_, ?_, ?_⟩
  · rw [TMark.d, rep_agg]
    exact repL_of (mk_cons (mk_int i0) (mk_cons (mk_int i1) (mk_cons (mk_int i2) (mk_cons (mk_int i3) mk_nil)))) rfl (by simp only [List.nil_append, List.append_nil])
  · exact Fr.nil _ _
  · exact (bnew (bnew (bnew (Below.refl _ _) _) _) _)

set_option maxHeartbeats 1000000 in
theorem toMarkS_new (w : World) (v : Value) (xs : List TMark) (F : List Nat) (h : SlAt w v (xs.map TMark.d) F) (hb : xs.length + bkL (xs.map TMark.d) ≤ 1048576) :
    Calls Try.prog 64 #[v] w fun e w' => ∃ (A' : Option Addr) (c' : Nat) (F' : List Nat), e = .returned (.slice A' xs.length c') ∧ SlAt w' (.slice A' xs.length c') (xs.map TMark.d) F' ∧ Fr w.heap.size w' F' ∧ Below w.heap.size w w' := by
  obtain ⟨A, c, rfl, hc, _⟩ := h.form
  rw [List.length_map] at h hc ⊢
  have hn : xs.length ≤ 1048576 := by omega
  have HB := Lib.hid hb
  clear hb
  go_enter Try.func64, Try.ntmps64
  go_wp2_with (at_make; refine wpList_make_bld _ rfl _ _ _ rfl 114 4 32 _ Try.underlying33 TMark.info rfl (by omega) _ _ _ _ xs.length rfl rfl rfl rfl (by omega) (by omega) TMark.zero.d TMark.zeroRep ?_)
  intro w1 hb1 hw1
  go_wp2_with fail
  go_loopw [4] (fun i wr => ∃ (k : Nat) (Fs : List Nat), k ≤ xs.length ∧ i = .int .i64 k ∧ Bld w.heap.size 114 4 wr (.slice (some ⟨w.heap.size, 0, none⟩) xs.length xs.length) ((xs.map TMark.d).take k ++ List.replicate (xs.length - k) TMark.zero.d) Fs ∧ Below w.heap.size w wr) (fun i _ => xs.length - (intOf i).toNat)
  case atStart => exact ⟨0, [], Nat.zero_le _, rfl, by simpa using hb1, hw1⟩
  case round =>
    obtain ⟨k, Fs, hk, rfl, hbl, hb⟩ := hrel
    by_cases hlt : k < xs.length
    · obtain ⟨b, off, ys, Fi, rfl, hbl0, _, hr, hlen, _, hcell⟩ := (h.below hb).at_ (i := k) (TMark.wds xs) (by simpa using hlt)
      simp only [List.getElem_map] at hr
      rw [toRep hlt] at hbl
      have hbk : bk (TMark.d xs[k]) ≤ 1048576 := by
        have h1 := HB.out
        have h2 := bkL_get_le (xs.map TMark.d) k (by simpa using hlt)
        simp only [List.getElem_map] at h2
        omega
      have HL := Lib.hid hlen
      have HC := Lib.hid hcell
      clear hlen hcell
      go_wp2_with (first | ((with_reducible show wpList _ _ _ (Oper.mk _ (Op.load 150 _) _ _ _ _ :: _) _ _); refine wpList_load_cells rfl _ _ rfl Try.underlying150 TMark.linfo rfl HL.out HC.out ?_) | (go_at_call 105; refine (toMark_new _ xs[k] ys Fi hr hbk).mono ?_; rintro e w2 ⟨cs', F', rfl, hr2, hf2, hb2⟩) | ((with_reducible show wpList _ _ _ (Oper.mk none (Op.store _ _ _) _ _ _ _ :: _) _ _); refine wpList_store_bld _ rfl _ _ _ rfl (x := TMark.d xs[k]) _ rfl rfl rfl TMark.info (hbl.below hb2) (toWds xs (TMark.wds xs) k _ _ _ (TMark.wd_ _) (TMark.wd_ _)) (TMark.wd_ _) hr2 (hf2.mono hb.size) (hbl.far hf2) (by simp; omega) ?_))
      intro w3 Fs3 hbl3 hg3 _
      go_wp2_with fail
      go_roundw
      case rel => exact ⟨k + 1, Fs3, by omega, by go_num, by rw [← toTake hlt]; exact hbl3, (bnext hb hb2).grown hg3 (bnext hb hb2).size (by simp)⟩
      case measure => simp [intOf]; omega
    · have hk' : k = xs.length := by omega
      subst hk'
      go_wp2_with fail
      go_ret
      have hbl' : Bld w.heap.size 114 4 wr (.slice (some ⟨w.heap.size, 0, none⟩) xs.length xs.length) (xs.map TMark.d) Fs := by simpa [List.take_of_length_le] using hbl
      obtain ⟨F', g1, g2, _⟩ := hbl'.done
      exact ⟨_, _, F', rfl, g1, g2, hb⟩

end Go.Proofs.Ytopjlbifglacpaa
