/- The laws' copies of Line: a copy reads as what was copied, and all its blocks are new. Conditions: at most 1048576 values and letters. Written by a program of mine. -/
import Derived.Test.YtopjlbifglacpaaNew
import Derived.Test.YtopjlbifglacpaaTyLine
namespace Go.Proofs.Ytopjlbifglacpaa
open Go.RowKit

set_option maxHeartbeats 4000000 in
set_option maxRecDepth 100000 in
theorem toLine_new (w : World) (x : TLine) (cs : List Value) (F : List Nat) (h : Rep w x.d cs F) (hb : bk x.d ≤ 1048576) :
    Calls Try.prog 60 #[.agg cs.toArray] w fun e w' => ∃ (cs' : List Value) (F' : List Nat), e = .returned (.agg cs'.toArray) ∧ Rep w' x.d cs' F' ∧ Fr w.heap.size w' F' ∧ Below w.heap.size w w' := by
  obtain ⟨rfl, _, i0, i2⟩ := TLine.open_ h
  rw [TLine.bk_] at hb
  have HB := Lib.hid hb
  clear h hb
  go_enter Try.func60, Try.ntmps60
  go_wp2_with fail
  refine bodyPost_ret (v := .agg #[.int .i64 x.cell, .bool x.fresh, .string x.text]) (by simp [results, Try.results60, go_sem]) rfl ⟨[.int .i64 x.cell, .bool x.fresh, .string x.text], [], rfl, ?_, ?_, ?_⟩
  · rw [TLine.d, rep_agg]
    exact repL_of (mk_cons (mk_int i0) (mk_cons (mk_bool (b := x.fresh)) (mk_cons (mk_str i2) mk_nil))) rfl (by simp only [List.nil_append, List.append_nil])
  · exact Fr.nil _ _
  · exact (bnew (bnew (bnew (Below.refl _ _) _) _) _)

set_option maxHeartbeats 1000000 in
theorem toLineS_new (w : World) (v : Value) (xs : List TLine) (F : List Nat) (h : SlAt w v (xs.map TLine.d) F) (hb : xs.length + bkL (xs.map TLine.d) ≤ 1048576) :
    Calls Try.prog 14 #[v] w fun e w' => ∃ (A' : Option Addr) (c' : Nat) (F' : List Nat), e = .returned (.slice A' xs.length c') ∧ SlAt w' (.slice A' xs.length c') (xs.map TLine.d) F' ∧ Fr w.heap.size w' F' ∧ Below w.heap.size w w' := by
  obtain ⟨A, c, rfl, hc, _⟩ := h.form
  rw [List.length_map] at h hc ⊢
  have hn : xs.length ≤ 1048576 := by omega
  have HB := Lib.hid hb
  clear hb
  go_enter Try.func14, Try.ntmps14
  go_wp2_with (at_make; refine wpList_make_bld _ rfl _ _ _ rfl 109 3 32 _ Try.underlying25 TLine.info rfl (by omega) _ _ _ _ xs.length rfl rfl rfl rfl (by omega) (by omega) TLine.zero.d TLine.zeroRep ?_)
  intro w1 hb1 hw1
  go_wp2_with fail
  go_loopw [4] (fun i wr => ∃ (k : Nat) (Fs : List Nat), k ≤ xs.length ∧ i = .int .i64 k ∧ Bld w.heap.size 109 3 wr (.slice (some ⟨w.heap.size, 0, none⟩) xs.length xs.length) ((xs.map TLine.d).take k ++ List.replicate (xs.length - k) TLine.zero.d) Fs ∧ Below w.heap.size w wr) (fun i _ => xs.length - (intOf i).toNat)
  case atStart => exact ⟨0, [], Nat.zero_le _, rfl, by simpa using hb1, hw1⟩
  case round =>
    obtain ⟨k, Fs, hk, rfl, hbl, hb⟩ := hrel
    by_cases hlt : k < xs.length
    · obtain ⟨b, off, ys, Fi, rfl, hbl0, _, hr, hlen, _, hcell⟩ := (h.below hb).at_ (i := k) (TLine.wds xs) (by simpa using hlt)
      simp only [List.getElem_map] at hr
      rw [toRep hlt] at hbl
      have hbk : bk (TLine.d xs[k]) ≤ 1048576 := by
        have h1 := HB.out
        have h2 := bkL_get_le (xs.map TLine.d) k (by simpa using hlt)
        simp only [List.getElem_map] at h2
        omega
      have HL := Lib.hid hlen
      have HC := Lib.hid hcell
      clear hlen hcell
      go_wp2_with (first | ((with_reducible show wpList _ _ _ (Oper.mk _ (Op.load 108 _) _ _ _ _ :: _) _ _); refine wpList_load_cells rfl _ _ rfl Try.underlying108 TLine.linfo rfl HL.out HC.out ?_) | (go_at_call 60; refine (toLine_new _ xs[k] ys Fi hr hbk).mono ?_; rintro e w2 ⟨cs', F', rfl, hr2, hf2, hb2⟩) | ((with_reducible show wpList _ _ _ (Oper.mk none (Op.store _ _ _) _ _ _ _ :: _) _ _); refine wpList_store_bld _ rfl _ _ _ rfl (x := TLine.d xs[k]) _ rfl rfl rfl TLine.info (hbl.below hb2) (toWds xs (TLine.wds xs) k _ _ _ (TLine.wd_ _) (TLine.wd_ _)) (TLine.wd_ _) hr2 (hf2.mono hb.size) (hbl.far hf2) (by simp; omega) ?_))
      intro w3 Fs3 hbl3 hg3 _
      go_wp2_with fail
      go_roundw
      case rel => exact ⟨k + 1, Fs3, by omega, by go_num, by rw [← toTake hlt]; exact hbl3, (bnext hb hb2).grown hg3 (bnext hb hb2).size (by simp)⟩
      case measure => simp [intOf]; omega
    · have hk' : k = xs.length := by omega
      subst hk'
      go_wp2_with fail
      go_ret
      have hbl' : Bld w.heap.size 109 3 wr (.slice (some ⟨w.heap.size, 0, none⟩) xs.length xs.length) (xs.map TLine.d) Fs := by simpa [List.take_of_length_le] using hbl
      obtain ⟨F', g1, g2, _⟩ := hbl'.done
      exact ⟨_, _, F', rfl, g1, g2, hb⟩

end Go.Proofs.Ytopjlbifglacpaa
