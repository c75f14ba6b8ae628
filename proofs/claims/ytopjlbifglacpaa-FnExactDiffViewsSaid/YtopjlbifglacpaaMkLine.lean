/- The laws' marks written into slices of Line, and their test. Conditions: the marks are numbers between 0 and 1099511627776. Written by a program of mine. -/
import Derived.Test.YtopjlbifglacpaaMarkBase
import Derived.Test.YtopjlbifglacpaaTyLine
namespace Go.Proofs.Ytopjlbifglacpaa
open Go.RowKit

def TLine.mark (x : TLine) (k : Int) : TLine := ⟨k, ((k + 1) % 3 == 0), mText (k + 1 + 1)⟩
def TLine.cn (x : TLine) : Nat := 3
def TLine.markL (xs : List TLine) (k : Int) : List TLine := mkL TLine.mark TLine.cn xs k
def TLine.cnL (xs : List TLine) : Nat := cnS TLine.cn xs
theorem TLine.markL_eq (xs : List TLine) (k : Int) : TLine.markL xs k = mkL TLine.mark TLine.cn xs k := rfl
theorem TLine.cnL_eq (xs : List TLine) : TLine.cnL xs = cnS TLine.cn xs := rfl
theorem TLine.mark_eq (x : TLine) (k : Int) : x.mark k = ⟨k, ((k + 1) % 3 == 0), mText (k + 1 + 1)⟩ := rfl
theorem TLine.cn_eq (x : TLine) : x.cn = 3 := rfl
theorem TLine.cn_le (x : TLine) : x.cn ≤ 3 * (1 + bk x.d) := by
  rw [TLine.cn_eq, TLine.bk_]
  omega
theorem TLine.cnL_le (xs : List TLine) : TLine.cnL xs ≤ 3 * (xs.length + bkL (xs.map TLine.d)) := cnS_le TLine.cn_le xs
set_option maxHeartbeats 4000000 in
set_option maxRecDepth 100000 in
theorem markLineS_run (w : World) (v : Value) (xs : List TLine) (F : List Nat) (k : Int) (h : SlAt w v (xs.map TLine.d) F) (hn : F.Nodup) (hp : ∀ q ∈ F, Plain w q) (h0 : 0 ≤ k) (h1 : k + ((TLine.cnL xs : Nat) : Int) ≤ 1099511627776) :
    Calls Try.prog 30 #[v, .int .i64 k] w fun e w' => e = .returned (.int .i64 (k + ((TLine.cnL xs : Nat) : Int))) ∧ SlAt w' v ((TLine.markL xs k).map TLine.d) F ∧ (∀ q ∈ F, Plain w' q) ∧ Off F w w' := by
  obtain ⟨A, c, rfl, hc, hcm⟩ := h.form
  rw [List.length_map] at h hc ⊢
  have hP := Lib.hid hp
  have H1 := Lib.hid h1
  clear hp h1
  go_enter Try.func30, Try.ntmps30
  go_wp2_with fail
  go_loopw [1, 5] (fun kk i wr => ∃ j : Nat, j ≤ xs.length ∧ i = .int .i64 j ∧ kk = .int .i64 (k + ((TLine.cnL (xs.take j) : Nat) : Int)) ∧ SlAt wr (.slice A xs.length c) ((TLine.markL (xs.take j) k).map TLine.d ++ (xs.drop j).map TLine.d) F ∧ (∀ q ∈ F, Plain wr q) ∧ Off F w wr) (fun _ i _ => xs.length - (intOf i).toNat)
  case atStart => exact ⟨0, Nat.zero_le _, rfl, int_eq (by rw [List.take_zero, TLine.cnL_eq]; simp [cnS]), by rw [List.take_zero, List.drop_zero, TLine.markL_eq]; exact h, hP.out, Off.refl _ _⟩
  case round =>
    obtain ⟨j, hj, rfl, rfl, hs, hpr, hoff⟩ := hrel
    by_cases hlt : j < xs.length
    · have ed : xs.drop j = xs[j] :: xs.drop (j + 1) := List.drop_eq_getElem_cons hlt
      rw [ed, List.map_cons] at hs
      obtain ⟨b, off, ys, Fi, rfl, hbF, hbFi, hni, hsub, hr, hlen, hcell, hback⟩ := hs.take_out (W := 3) (by
        intro y hy
        rcases List.mem_append.1 hy with hy | hy
        · exact TLine.wds _ y hy
        · rw [← List.map_cons] at hy; exact TLine.wds _ y hy) (by omega) hn
      have el : ((TLine.markL (xs.take j) k).map TLine.d).length = j := by rw [List.length_map, TLine.markL_eq, mkL_length, List.length_take]; omega
      rw [el] at hcell hback
      have e1 : TLine.cnL (xs.take (j + 1)) = TLine.cnL (xs.take j) + TLine.cn xs[j] := by rw [TLine.cnL_eq, TLine.cnL_eq]; exact cnS_take_succ xs j hlt
      have e2 : TLine.cnL (xs.take (j + 1)) ≤ TLine.cnL xs := by rw [TLine.cnL_eq, TLine.cnL_eq]; exact cnS_take_le xs (j + 1)
      have e3 : TLine.cn xs[j] = 3 := TLine.cn_eq _
      obtain ⟨kk, hkk⟩ : ∃ kk : Int, kk = k + ((TLine.cnL (xs.take j) : Nat) : Int) := ⟨_, rfl⟩
      rw [← hkk]
      have k0 : 0 ≤ kk := by omega
      have k1 : kk + 3 ≤ 1099511627776 := by have := H1.out; rw [e3] at e1; omega
      have HE1 := Lib.hid e1
      have HE3 := Lib.hid e3
      have HK := Lib.hid hkk
      have HB := Lib.hid hback
      have HS := Lib.hid hsub
      clear e1 e2 e3 hkk hback hsub ed el hs h hlen
      obtain ⟨rfl, hF, _, _⟩ := TLine.open_ hr
      clear hr
      subst hF
      have T0 : Trk wr wr b (off + j * 3) (off + j * 3 + 3) _ := Trk.start (hpr b hbF) (fun q hq => hpr q (HS.out q hq))
      have C0 := Lib.hid hcell
      clear hcell hni
      have c0_0 : wr.cell? ⟨b, off + j * 3, none⟩ = _ := C0.out 0 _ rfl
      have c0_1 := C0.out 1 _ rfl
      have c0_2 := C0.out 2 _ rfl
      have z0 := T0.here.free
      go_wp2_with fail
      refine (markText_any _ _ (by omega)).mono ?_
      rintro e w1 ⟨rfl, hb1⟩
      have T1 := Trk.next (Trk.set (Trk.set T0 0 (by omega) _) 1 (by omega) _) hb1
      have C1 := Lib.hid (CellsAt.next (CellsAt.setAt (CellsAt.setAt C0.out 0 (by simp) _) 1 (by simp) _) hb1)
      clear hb1 c0_0 c0_1 c0_2 z0
      have c1_0 : w1.cell? ⟨b, off + j * 3, none⟩ = _ := C1.out 0 _ rfl
      have c1_1 := C1.out 1 _ rfl
      have c1_2 := C1.out 2 _ rfl
      have z1 := T1.here.free
      go_wp2_with fail
      go_roundw
      case rel =>
        refine ⟨j + 1, by omega, by go_num, int_eq (by have h1 := HE1.out; have h2 := HE3.out; have h3 := HK.out; rw [h2] at h1; omega), ?_, Trk.plains (Trk.set T1 2 (by omega) _) hpr, hoff.trans (Off.sub (Trk.off (Trk.set T1 2 (by omega) _)) (fun q hq => by rcases List.mem_cons.1 hq with rfl | hq; exact hbF; exact HS.out q hq))⟩
        have hm : TLine.markL (xs.take (j + 1)) k = TLine.markL (xs.take j) k ++ [TLine.mark xs[j] kk] := by
          rw [TLine.markL_eq, TLine.markL_eq, mkL_take_succ xs j k hlt, HK.out, TLine.cnL_eq]
        rw [hm, List.map_append, List.append_assoc]
        refine HB.out _ (TLine.d (TLine.mark xs[j] kk)) _ (by simp) ?_ (CellsAt.setAt C1.out 2 (by simp) _) (Trk.set T1 2 (by omega) _)
        simp only [TLine.mark_eq, TLine.d]
        rw [rep_agg]
        exact repL_of (mk_cons (mk_intE (i64_mid (by omega) (by omega)) (by first | rfl | omega)) (mk_cons (mk_boolE (by first | rfl | (exact decide_eq_decide.2 (by omega)) | simp)) (mk_cons (mk_strE (by omega) (by first | rfl | omega)) mk_nil))) rfl (by first | rfl | simp only [List.nil_append, List.append_nil, List.append_assoc])
      case measure => simp [intOf]; omega
    · have hj' : j = xs.length := by omega
      subst hj'
      rw [List.take_of_length_le (Nat.le_refl _), List.drop_of_length_le (Nat.le_refl _)] at hs
      rw [List.take_of_length_le (Nat.le_refl _)]
      have HQ := Lib.hid hs
      clear hs
      go_wp2_with fail
      go_ret
      exact ⟨rfl, by have := HQ.out; simpa using this, hpr, hoff⟩

set_option maxHeartbeats 4000000 in
set_option maxRecDepth 100000 in
theorem heldLineS_run (w : World) (v : Value) (xs : List TLine) (F : List Nat) (k : Int) (h : SlAt w v ((TLine.markL xs k).map TLine.d) F) (h0 : 0 ≤ k) (h1 : k + ((TLine.cnL xs : Nat) : Int) ≤ 1099511627776) :
    Calls Try.prog 45 #[v, .int .i64 k] w fun e w' => e = .returned (.int .i64 (k + ((TLine.cnL xs : Nat) : Int))) ∧ Below w.heap.size w w' := by
  obtain ⟨A, c, rfl, hc, hcm⟩ := h.form
  have hl : ((TLine.markL xs k).map TLine.d).length = xs.length := by rw [List.length_map, TLine.markL_eq, mkL_length]
  rw [hl] at h hc ⊢
  have H1 := Lib.hid h1
  have HS := Lib.hid h
  clear h1 hl h
  go_enter Try.func45, Try.ntmps45
  go_wp2_with fail
  go_loopw [1, 5] (fun kk i wr => ∃ j : Nat, j ≤ xs.length ∧ i = .int .i64 j ∧ kk = .int .i64 (k + ((TLine.cnL (xs.take j) : Nat) : Int)) ∧ Below w.heap.size w wr) (fun _ i _ => xs.length - (intOf i).toNat)
  case atStart => exact ⟨0, Nat.zero_le _, rfl, int_eq (by rw [List.take_zero, TLine.cnL_eq]; simp [cnS]), Below.refl _ _⟩
  case round =>
    obtain ⟨j, hj, rfl, rfl, hb⟩ := hrel
    by_cases hlt : j < xs.length
    · have hs := HS.out.below hb
      obtain ⟨b, off, ys, Fi, rfl, hbl, _, hr, hlen, _, hcell⟩ := hs.at_ (W := 3) (i := j) (by
        rw [TLine.markL_eq]; exact TLine.wds _) (by rw [List.length_map, TLine.markL_eq, mkL_length]; exact hlt)
      have e0 : ((TLine.markL xs k).map TLine.d)[j]'(by rw [List.length_map, TLine.markL_eq, mkL_length]; exact hlt) = TLine.d (TLine.mark xs[j] (k + ((TLine.cnL (xs.take j) : Nat) : Int))) := by
        rw [List.getElem_map]
        congr 1
        exact (List.getElem_of_eq (TLine.markL_eq xs k) _).trans ((mkL_get xs j k hlt).trans (by rw [TLine.cnL_eq]))
      rw [e0] at hr
      have e1 : TLine.cnL (xs.take (j + 1)) = TLine.cnL (xs.take j) + TLine.cn xs[j] := by rw [TLine.cnL_eq, TLine.cnL_eq]; exact cnS_take_succ xs j hlt
      have e2 : TLine.cnL (xs.take (j + 1)) ≤ TLine.cnL xs := by rw [TLine.cnL_eq, TLine.cnL_eq]; exact cnS_take_le xs (j + 1)
      have e3 : TLine.cn xs[j] = 3 := TLine.cn_eq _
      obtain ⟨kk, hkk⟩ : ∃ kk : Int, kk = k + ((TLine.cnL (xs.take j) : Nat) : Int) := ⟨_, rfl⟩
      rw [← hkk] at hr ⊢
      have k0 : 0 ≤ kk := by omega
      have k1 : kk + 3 ≤ 1099511627776 := by have := H1.out; rw [e3] at e1; omega
      have HE1 := Lib.hid e1
      have HE3 := Lib.hid e3
      have HK := Lib.hid hkk
      clear e0 e1 e2 e3 hkk hs hlen
      rw [TLine.mark_eq] at hr
      obtain ⟨rfl, _, _, _⟩ := TLine.open_ hr
      clear hr
      have c0 : wr.cell? ⟨b, off + j * 3, none⟩ = some (.int .i64 (kk)) := hcell 0 _ rfl
      have c1 : wr.cell? ⟨b, off + j * 3 + 1, none⟩ = some (.bool ((kk + 1) % 3 == 0)) := hcell 1 _ rfl
      have c2 : wr.cell? ⟨b, off + j * 3 + 2, none⟩ = some (.string (mText (kk + 1 + 1))) := hcell 2 _ rfl
      clear hcell
      have D0 := Below.refl wr.heap.size wr
      go_wp2_with fail
      have hx_ := @ext_cell wr
      refine wp_region_mild (by kernel_rfl) (by kernel_rfl) ?_
      repeat (go_big_quiet_step ((go_at_call 69; exact mild_of (markText_any _ _ (by omega)))))
      refine wpQuiet_nil ?_
      rintro w' ⟨x_, rfl⟩
      obtain ⟨w1, hw1⟩ := x_
      clear hx_
      dsimp only
      have D1 := bnext D0 hw1
      go_wp2_with fail
      go_roundw
      case rel => exact ⟨j + 1, by omega, by go_num, int_eq (by have h1 := HE1.out; have h2 := HE3.out; have h3 := HK.out; rw [h2] at h1; omega), bnext hb D1⟩
      case measure => simp [intOf]; omega
    · have hj' : j = xs.length := by omega
      subst hj'
      rw [List.take_of_length_le (Nat.le_refl _)]
      go_wp2_with fail
      go_ret
      exact ⟨rfl, hb⟩

end Go.Proofs.Ytopjlbifglacpaa
