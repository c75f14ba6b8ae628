/- Several texts in one: MkCell, MkNotebook, MkFile, MkWorld, MkString, MkInt, MkOrigin, MkRow, MkValue. -/
import Derived.Test.YtbknilpmpjjfpaaGreatMkD
/- The laws' marks written into slices of Cell, and their test. Conditions: the marks are numbers between 0 and 1099511627776. Written by a program of mine. -/
set_option linter.unusedSimpArgs false
set_option linter.unusedVariables false
namespace Go.Proofs.YtbknilpmpjjfpaaGreat
open Go.RowKit
theorem TCell.wd_ (x : TCell) : wd x.d = 6 := by simp [TCell.d, wd, wdL]
theorem TCell.wds (xs : List TCell) : ∀ d ∈ xs.map TCell.d, wd d = 6 := by
  intro d hd
  obtain ⟨x, _, rfl⟩ := List.mem_map.1 hd
  exact x.wd_
theorem TCell.open_ {w : World} {x : TCell} {cs : List Value} {F : List Nat} (h : Rep w x.d cs F) :
    cs = [.int .i64 x.id, .int .i64 x.version, .int .i64 x.kind, .string x.name, .string x.code, .int .i64 x.n] ∧ F = [] ∧ I64 x.id ∧ I64 x.version ∧ I64 x.kind ∧ Fits x.name ∧ Fits x.code ∧ I64 x.n := by
  simp only [TCell.d, rep_agg, repL_cons, repL_nil, rep_int, rep_bool, rep_str, rep_sl, List.length_map] at h
  obtain ⟨_, _, _, _, rfl, rfl, ⟨rfl, rfl, i0⟩, ⟨_, _, _, _, rfl, rfl, ⟨rfl, rfl, i1⟩, ⟨_, _, _, _, rfl, rfl, ⟨rfl, rfl, i2⟩, ⟨_, _, _, _, rfl, rfl, ⟨rfl, rfl, i3⟩, ⟨_, _, _, _, rfl, rfl, ⟨rfl, rfl, i4⟩, ⟨_, _, _, _, rfl, rfl, ⟨rfl, rfl, i5⟩, ⟨rfl, rfl⟩⟩⟩⟩⟩⟩⟩ := h
  exact ⟨rfl, by simp, i0, i1, i2, i3, i4, i5⟩
set_option maxHeartbeats 4000000 in
set_option maxRecDepth 100000 in
theorem markCellS_run (w : World) (v : Value) (xs : List TCell) (F : List Nat) (k : Int) (h : SlAt w v (xs.map TCell.d) F) (hn : F.Nodup) (hp : ∀ q ∈ F, Plain w q) (h0 : 0 ≤ k) (h1 : k + ((TCell.cnL xs : Nat) : Int) ≤ 1099511627776) :
    Calls Tryz.prog 83 #[v, .int .i64 k] w fun e w' => e = .returned (.int .i64 (k + ((TCell.cnL xs : Nat) : Int))) ∧ SlAt w' v ((TCell.markL xs k).map TCell.d) F ∧ (∀ q ∈ F, Plain w' q) ∧ Off F w w' := by
  obtain ⟨A, c, rfl, hc, hcm⟩ := h.form
  rw [List.length_map] at h hc ⊢
  have hP := Lib.hid hp
  have H1 := Lib.hid h1
  clear hp h1
  go_enter Tryz.func83, Tryz.ntmps83
  go_wp2_with fail
  go_loopw [1, 5] (fun kk i wr => ∃ j : Nat, j ≤ xs.length ∧ i = .int .i64 j ∧ kk = .int .i64 (k + ((TCell.cnL (xs.take j) : Nat) : Int)) ∧ SlAt wr (.slice A xs.length c) ((TCell.markL (xs.take j) k).map TCell.d ++ (xs.drop j).map TCell.d) F ∧ (∀ q ∈ F, Plain wr q) ∧ Off F w wr) (fun _ i _ => xs.length - (intOf i).toNat)
  case atStart => exact ⟨0, Nat.zero_le _, rfl, int_eq (by rw [List.take_zero, TCell.cnL_eq]; simp [cnS]), by rw [List.take_zero, List.drop_zero, TCell.markL_eq]; exact h, hP.out, Off.refl _ _⟩
  case round =>
    obtain ⟨j, hj, rfl, rfl, hs, hpr, hoff⟩ := hrel
    by_cases hlt : j < xs.length
    · have ed : xs.drop j = xs[j] :: xs.drop (j + 1) := List.drop_eq_getElem_cons hlt
      rw [ed, List.map_cons] at hs
      obtain ⟨b, off, ys, Fi, rfl, hbF, hbFi, hni, hsub, hr, hlen, hcell, hback⟩ := hs.take_out (W := 6) (by
        intro y hy
        rcases List.mem_append.1 hy with hy | hy
        · exact TCell.wds _ y hy
        · rw [← List.map_cons] at hy; exact TCell.wds _ y hy) (by omega) hn
      have el : ((TCell.markL (xs.take j) k).map TCell.d).length = j := by rw [List.length_map, TCell.markL_eq, mkL_length, List.length_take]; omega
      rw [el] at hcell hback
      have e1 : TCell.cnL (xs.take (j + 1)) = TCell.cnL (xs.take j) + TCell.cn xs[j] := by rw [TCell.cnL_eq, TCell.cnL_eq]; exact cnS_take_succ xs j hlt
      have e2 : TCell.cnL (xs.take (j + 1)) ≤ TCell.cnL xs := by rw [TCell.cnL_eq, TCell.cnL_eq]; exact cnS_take_le xs (j + 1)
      have e3 : TCell.cn xs[j] = 6 := TCell.cn_eq _
      obtain ⟨kk, hkk⟩ : ∃ kk : Int, kk = k + ((TCell.cnL (xs.take j) : Nat) : Int) := ⟨_, rfl⟩
      rw [← hkk]
      have k0 : 0 ≤ kk := by omega
      have k1 : kk + 6 ≤ 1099511627776 := by have := H1.out; rw [e3] at e1; omega
      have HE1 := Lib.hid e1
      have HE3 := Lib.hid e3
      have HK := Lib.hid hkk
      have HB := Lib.hid hback
      have HS := Lib.hid hsub
      clear e1 e2 e3 hkk hback hsub ed el hs h hlen
      obtain ⟨rfl, hF, _, _, _, _, _, _⟩ := TCell.open_ hr
      clear hr
      subst hF
      have T0 : Trk wr wr b (off + j * 6) (off + j * 6 + 6) _ := Trk.start (hpr b hbF) (fun q hq => hpr q (HS.out q hq))
      have C0 := Lib.hid hcell
      clear hcell hni
      have c0_0 : wr.cell? ⟨b, off + j * 6, none⟩ = _ := C0.out 0 _ rfl
      have c0_1 := C0.out 1 _ rfl
      have c0_2 := C0.out 2 _ rfl
      have c0_3 := C0.out 3 _ rfl
      have c0_4 := C0.out 4 _ rfl
      have c0_5 := C0.out 5 _ rfl
      have z0 := T0.here.free
      go_wp2_with fail
      refine (markText_any _ _ (by omega)).mono ?_
      rintro e w1 ⟨rfl, hb1⟩
      have T1 := Trk.next (Trk.set (Trk.set (Trk.set T0 0 (by omega) _) 1 (by omega) _) 2 (by omega) _) hb1
      have C1 := Lib.hid (CellsAt.next (CellsAt.setAt (CellsAt.setAt (CellsAt.setAt C0.out 0 (by simp) _) 1 (by simp) _) 2 (by simp) _) hb1)
      clear hb1 c0_0 c0_1 c0_2 c0_3 c0_4 c0_5 z0
      have c1_0 : w1.cell? ⟨b, off + j * 6, none⟩ = _ := C1.out 0 _ rfl
      have c1_1 := C1.out 1 _ rfl
      have c1_2 := C1.out 2 _ rfl
      have c1_3 := C1.out 3 _ rfl
      have c1_4 := C1.out 4 _ rfl
      have c1_5 := C1.out 5 _ rfl
      have z1 := T1.here.free
      go_wp2_with fail
      refine (markText_any _ _ (by omega)).mono ?_
      rintro e w2 ⟨rfl, hb2⟩
      have T2 := Trk.next (Trk.set T1 3 (by omega) _) hb2
      have C2 := Lib.hid (CellsAt.next (CellsAt.setAt C1.out 3 (by simp) _) hb2)
      clear hb2 c1_0 c1_1 c1_2 c1_3 c1_4 c1_5 z1
      have c2_0 : w2.cell? ⟨b, off + j * 6, none⟩ = _ := C2.out 0 _ rfl
      have c2_1 := C2.out 1 _ rfl
      have c2_2 := C2.out 2 _ rfl
      have c2_3 := C2.out 3 _ rfl
      have c2_4 := C2.out 4 _ rfl
      have c2_5 := C2.out 5 _ rfl
      have z2 := T2.here.free
      go_wp2_with fail
      go_roundw
      case rel =>
        refine ⟨j + 1, by omega, by go_num, int_eq (by have h1 := HE1.out; have h2 := HE3.out; have h3 := HK.out; rw [h2] at h1; omega), ?_, Trk.plains (Trk.set (Trk.set T2 4 (by omega) _) 5 (by omega) _) hpr, hoff.trans (Off.sub (Trk.off (Trk.set (Trk.set T2 4 (by omega) _) 5 (by omega) _)) (fun q hq => by rcases List.mem_cons.1 hq with rfl | hq; exact hbF; exact HS.out q hq))⟩
        have hm : TCell.markL (xs.take (j + 1)) k = TCell.markL (xs.take j) k ++ [TCell.mark xs[j] kk] := by
          rw [TCell.markL_eq, TCell.markL_eq, mkL_take_succ xs j k hlt, HK.out, TCell.cnL_eq]
        rw [hm, List.map_append, List.append_assoc]
        refine HB.out _ (TCell.d (TCell.mark xs[j] kk)) _ (by simp) ?_ (CellsAt.setAt (CellsAt.setAt C2.out 4 (by simp) _) 5 (by simp) _) (Trk.set (Trk.set T2 4 (by omega) _) 5 (by omega) _)
        simp only [TCell.mark_eq, TCell.d]
        rw [rep_agg]
        exact repL_of (mk_cons (mk_intE (i64_mid (by omega) (by omega)) (by first | rfl | omega)) (mk_cons (mk_intE (i64_mid (by omega) (by omega)) (by first | rfl | omega)) (mk_cons (mk_intE (i64_mid (by omega) (by omega)) (by first | rfl | omega)) (mk_cons (mk_strE (by omega) (by first | rfl | omega)) (mk_cons (mk_strE (by omega) (by first | rfl | omega)) (mk_cons (mk_intE (i64_mid (by omega) (by omega)) (by first | rfl | omega)) mk_nil)))))) rfl (by first | rfl | simp only [List.nil_append, List.append_nil, List.append_assoc])
      case measure => simp [intOf]; omega
    · have hj' : j = xs.length := by omega
      subst hj'
      rw [List.take_of_length_le (Nat.le_refl _), List.drop_of_length_le (Nat.le_refl _)] at hs
      rw [List.take_of_length_le (Nat.le_refl _)]
      have HQ := Lib.hid hs
      clear hs
      go_wp2_with fail
      go_ret
      exact ⟨rfl, by have := HQ.out; simpa using this, hpr, hoff⟩
set_option maxHeartbeats 4000000 in
set_option maxRecDepth 100000 in
theorem heldCellS_run (w : World) (v : Value) (xs : List TCell) (F : List Nat) (k : Int) (h : SlAt w v ((TCell.markL xs k).map TCell.d) F) (h0 : 0 ≤ k) (h1 : k + ((TCell.cnL xs : Nat) : Int) ≤ 1099511627776) :
    Calls Tryz.prog 89 #[v, .int .i64 k] w fun e w' => e = .returned (.int .i64 (k + ((TCell.cnL xs : Nat) : Int))) ∧ Below w.heap.size w w' := by
  obtain ⟨A, c, rfl, hc, hcm⟩ := h.form
  have hl : ((TCell.markL xs k).map TCell.d).length = xs.length := by rw [List.length_map, TCell.markL_eq, mkL_length]
  rw [hl] at h hc ⊢
  have H1 := Lib.hid h1
  have HS := Lib.hid h
  clear h1 hl h
  go_enter Tryz.func89, Tryz.ntmps89
  go_wp2_with fail
  go_loopw [1, 5] (fun kk i wr => ∃ j : Nat, j ≤ xs.length ∧ i = .int .i64 j ∧ kk = .int .i64 (k + ((TCell.cnL (xs.take j) : Nat) : Int)) ∧ Below w.heap.size w wr) (fun _ i _ => xs.length - (intOf i).toNat)
  case atStart => exact ⟨0, Nat.zero_le _, rfl, int_eq (by rw [List.take_zero, TCell.cnL_eq]; simp [cnS]), Below.refl _ _⟩
  case round =>
    obtain ⟨j, hj, rfl, rfl, hb⟩ := hrel
    by_cases hlt : j < xs.length
    · have hs := HS.out.below hb
      obtain ⟨b, off, ys, Fi, rfl, hbl, _, hr, hlen, _, hcell⟩ := hs.at_ (W := 6) (i := j) (by
        rw [TCell.markL_eq]; exact TCell.wds _) (by rw [List.length_map, TCell.markL_eq, mkL_length]; exact hlt)
      have e0 : ((TCell.markL xs k).map TCell.d)[j]'(by rw [List.length_map, TCell.markL_eq, mkL_length]; exact hlt) = TCell.d (TCell.mark xs[j] (k + ((TCell.cnL (xs.take j) : Nat) : Int))) := by
        rw [List.getElem_map]
        congr 1
        exact (List.getElem_of_eq (TCell.markL_eq xs k) _).trans ((mkL_get xs j k hlt).trans (by rw [TCell.cnL_eq]))
      rw [e0] at hr
      have e1 : TCell.cnL (xs.take (j + 1)) = TCell.cnL (xs.take j) + TCell.cn xs[j] := by rw [TCell.cnL_eq, TCell.cnL_eq]; exact cnS_take_succ xs j hlt
      have e2 : TCell.cnL (xs.take (j + 1)) ≤ TCell.cnL xs := by rw [TCell.cnL_eq, TCell.cnL_eq]; exact cnS_take_le xs (j + 1)
      have e3 : TCell.cn xs[j] = 6 := TCell.cn_eq _
      obtain ⟨kk, hkk⟩ : ∃ kk : Int, kk = k + ((TCell.cnL (xs.take j) : Nat) : Int) := ⟨_, rfl⟩
      rw [← hkk] at hr ⊢
      have k0 : 0 ≤ kk := by omega
      have k1 : kk + 6 ≤ 1099511627776 := by have := H1.out; rw [e3] at e1; omega
      have HE1 := Lib.hid e1
      have HE3 := Lib.hid e3
      have HK := Lib.hid hkk
      clear e0 e1 e2 e3 hkk hs hlen
      rw [TCell.mark_eq] at hr
      obtain ⟨rfl, _, _, _, _, _, _, _⟩ := TCell.open_ hr
      clear hr
      have c0 : wr.cell? ⟨b, off + j * 6, none⟩ = some (.int .i64 (kk)) := hcell 0 _ rfl
      have c1 : wr.cell? ⟨b, off + j * 6 + 1, none⟩ = some (.int .i64 (kk + 1)) := hcell 1 _ rfl
      have c2 : wr.cell? ⟨b, off + j * 6 + 2, none⟩ = some (.int .i64 (kk + 1 + 1)) := hcell 2 _ rfl
      have c3 : wr.cell? ⟨b, off + j * 6 + 3, none⟩ = some (.string (mText (kk + 1 + 1 + 1))) := hcell 3 _ rfl
      have c4 : wr.cell? ⟨b, off + j * 6 + 4, none⟩ = some (.string (mText (kk + 1 + 1 + 1 + 1))) := hcell 4 _ rfl
      have c5 : wr.cell? ⟨b, off + j * 6 + 5, none⟩ = some (.int .i64 (kk + 1 + 1 + 1 + 1 + 1)) := hcell 5 _ rfl
      clear hcell
      have D0 := Below.refl wr.heap.size wr
      go_wp2_with fail
      have hx_ := @ext_cell wr
      refine wp_region_mild (by kernel_rfl) (by kernel_rfl) ?_
      repeat (go_big_quiet_step ((go_at_call 53; exact mild_of (markText_any _ _ (by omega)))))
      refine wpQuiet_nil ?_
      rintro w' ⟨x_, rfl⟩
      obtain ⟨w1, hw1⟩ := x_
      clear hx_
      dsimp only
      have D1 := bnext D0 hw1
      replace hbl : b < w1.heap.size := Nat.lt_of_lt_of_le hbl hw1.size
      replace c4 := cell_next hw1 c4
      replace c5 := cell_next hw1 c5
      skip
      go_wp2_with fail
      have hx_ := @ext_cell w1
      refine wp_region_mild (by kernel_rfl) (by kernel_rfl) ?_
      repeat (go_big_quiet_step ((go_at_call 53; exact mild_of (markText_any _ _ (by omega)))))
      refine wpQuiet_nil ?_
      rintro w' ⟨x_, rfl⟩
      obtain ⟨w2, hw2⟩ := x_
      clear hx_
      dsimp only
      have D2 := bnext D1 hw2
      replace hbl : b < w2.heap.size := Nat.lt_of_lt_of_le hbl hw2.size
      replace c5 := cell_next hw2 c5
      skip
      go_wp2_with fail
      go_roundw
      case rel => exact ⟨j + 1, by omega, by go_num, int_eq (by have h1 := HE1.out; have h2 := HE3.out; have h3 := HK.out; rw [h2] at h1; omega), bnext hb D2⟩
      case measure => simp [intOf]; omega
    · have hj' : j = xs.length := by omega
      subst hj'
      rw [List.take_of_length_le (Nat.le_refl _)]
      go_wp2_with fail
      go_ret
      exact ⟨rfl, hb⟩
end Go.Proofs.YtbknilpmpjjfpaaGreat
/- The laws' marks written into slices of Notebook, and their test. Conditions: the marks are numbers between 0 and 1099511627776. Written by a program of mine. -/
set_option linter.unusedSimpArgs false
set_option linter.unusedVariables false
namespace Go.Proofs.YtbknilpmpjjfpaaGreat
open Go.RowKit
theorem TNotebook.open_ {w : World} {x : TNotebook} {cs : List Value} {F : List Nat} (h : Rep w x.d cs F) :
    ∃ (A0 : Option Addr) (c0 : Nat) (F0 : List Nat), cs = [.slice A0 x.cells.length c0] ∧ F = F0 ∧ SlAt w (.slice A0 x.cells.length c0) (x.cells.map TCell.d) F0 := by
  simp only [TNotebook.d, rep_agg, repL_cons, repL_nil, rep_int, rep_bool, rep_str, rep_sl, List.length_map] at h
  obtain ⟨_, _, F0, _, rfl, rfl, ⟨A0, c0, rfl, q0⟩, ⟨rfl, rfl⟩⟩ := h
  exact ⟨A0, c0, F0, rfl, by simp, q0⟩
theorem TNotebook.mk_ {w : World} {x : TNotebook} {A0 : Option Addr} {c0 : Nat} {F0 : List Nat} (q0 : SlAt w (.slice A0 x.cells.length c0) (x.cells.map TCell.d) F0) : Rep w x.d [.slice A0 x.cells.length c0] (F0) := by
  simp only [TNotebook.d, rep_agg]
  have h := (mk_cons (mk_sl q0) (mk_nil (w := w)))
  simpa only [List.nil_append, List.append_nil, List.cons_append, List.append_assoc] using h
set_option maxHeartbeats 4000000 in
set_option maxRecDepth 100000 in
theorem markNotebook_run (w : World) (x : TNotebook) (cs : List Value) (F : List Nat) (k : Int) (h : Rep w x.d cs F) (hn : F.Nodup) (hp : ∀ q ∈ F, Plain w q) (h0 : 0 ≤ k) (h1 : k + ((x.cnV : Nat) : Int) ≤ 1099511627776) :
    Calls Tryz.prog 44 #[.agg cs.toArray, .int .i64 k] w fun e w' => e = .returned (.int .i64 (k + ((x.cnV : Nat) : Int))) ∧ Rep w' (x.markV k).d cs F ∧ (∀ q ∈ F, Plain w' q) ∧ Off F w w' := by
  have hF := h.lt
  obtain ⟨A0, c0, F0, rfl, hFe, q0⟩ := TNotebook.open_ h
  have hFe := hFe.symm
  subst hFe
  have h1' : k + ((TCell.cnL x.cells : Nat) : Int) ≤ 1099511627776 := h1
  have hn' : (F0).Nodup := by simpa only [List.append_assoc, List.append_nil] using hn
  have dn0 := hn'
  obtain ⟨w0, hw0⟩ : ∃ w0, w0 = w.alloc (.cells #[.slice A0 x.cells.length c0] 40) := ⟨_, rfl⟩
  have B0 : Below w.heap.size w w0 := hw0 ▸ bnew (Below.refl _ _) _
  have kc0 : w0.cell? ⟨w.heap.size, 0, none⟩ = some (.slice A0 x.cells.length c0) := hw0 ▸ cell_new w _ _ 0 _ rfl
  have HW := Lib.hid hw0
  clear hw0
  have ns0 : w.heap.size ∉ F0 := fun hm => by have := hF _ (show w.heap.size ∈ _ by (try simp only [List.mem_append] at hm ⊢); first | (simp [hm]; done) | (rcases hm with h' | h' <;> simp [h']; done) | (rcases hm with h' | h' | h' <;> simp [h']; done)); omega
  have Q0 := Lib.hid (q0.below B0)
  have P0 : Hid (∀ q ∈ F0, Plain w0 q) := Lib.hid (fun q hq => (hp q (by (try simp only [List.mem_append] at hq ⊢); first | (simp [hq]; done) | (rcases hq with h' | h' <;> simp [h']; done) | (rcases hq with h' | h' | h' <;> simp [h']; done))).next B0)
  clear q0
  have HOLD := Lib.hid (And.intro hp (And.intro hF h))
  clear hp hF h
  have O0 : Off (F0) w w0 := Off.of_below B0
  go_enter Tryz.func44, Tryz.ntmps44
  go_wp2_with fail
  rw [← HW.out]
  refine (markCellS_run _ _ x.cells F0 _ Q0.out dn0 P0.out (by omega) (by omega)).mono ?_
  rintro e w1 ⟨rfl, q0, p0, hb1⟩
  have O1 : Off (F0) w w1 := O0.trans (hb1.sub (fun q hq => by (try simp only [List.mem_append] at hq ⊢); first | (simp [hq]; done) | (rcases hq with h' | h' <;> simp [h']; done) | (rcases hq with h' | h' | h' <;> simp [h']; done)))
  replace kc0 := hb1.cell ns0 kc0
  replace Q0 := Lib.hid q0
  replace P0 := Lib.hid p0
  clear q0 p0
  go_wp2_with fail
  go_ret
  have e1 : ((x.cnV : Nat) : Int) = ((TCell.cnL x.cells : Nat) : Int) := by unfold TNotebook.cnV; omega
  refine ⟨ret_int (by omega), ?_, ?_, O1⟩
  · refine rep_agg.2 (repL_of (mk_cons (mk_sl Q0.out) (mk_nil (w := _))) ?_ ?_)
    · first | rfl | simp only [List.cons_append, List.nil_append, List.append_nil]
    · first | rfl | simp only [List.nil_append, List.append_nil, List.append_assoc]
  · intro q hq
    first
    | exact P0.out q hq
    | (simp only [List.mem_append] at hq; revert hq; simp only [or_imp]; simp only [or_imp, and_imp]; first | exact fun h => P0.out q h | skip)
set_option maxHeartbeats 4000000 in
set_option maxRecDepth 100000 in
theorem heldNotebook_run (w : World) (x : TNotebook) (cs : List Value) (F : List Nat) (k : Int) (h : Rep w (x.markV k).d cs F) (h0 : 0 ≤ k) (h1 : k + ((x.cnV : Nat) : Int) ≤ 1099511627776) :
    Calls Tryz.prog 48 #[.agg cs.toArray, .int .i64 k] w fun e w' => e = .returned (.int .i64 (k + ((x.cnV : Nat) : Int))) ∧ Below w.heap.size w w' := by
  obtain ⟨A0, c0, F0, rfl, _, q0⟩ := TNotebook.open_ h
  clear h
  have h1' : k + ((TCell.cnL x.cells : Nat) : Int) ≤ 1099511627776 := h1
  obtain ⟨w0, hw0⟩ : ∃ w0, w0 = w.alloc (.cells #[.slice A0 (x.markV k).cells.length c0] 40) := ⟨_, rfl⟩
  have B0 : Below w.heap.size w w0 := hw0 ▸ bnew (Below.refl _ _) _
  have kc0 : w0.cell? ⟨w.heap.size, 0, none⟩ = some (.slice A0 (x.markV k).cells.length c0) := hw0 ▸ cell_new w _ _ 0 _ rfl
  have HW := Lib.hid hw0
  clear hw0
  have Q0 : Hid (SlAt w0 _ ((TCell.markL x.cells (k)).map TCell.d) F0) := Lib.hid (q0.below B0)
  clear q0
  have D0 := Below.refl w0.heap.size w0
  go_enter Tryz.func48, Tryz.ntmps48
  go_wp2_with fail
  rw [← HW.out]
  refine (heldCellS_run _ _ x.cells F0 _ (Q0.out.below D0) (by omega) (by omega)).mono ?_
  rintro e w1 ⟨rfl, hw1⟩
  have D1 := bnext D0 hw1
  have hd1 : decide (k + ((TCell.cnL x.cells : Nat) : Int) < 0) = false := by simp; omega
  replace kc0 := cell_next hw1 kc0
  go_wp2_with fail
  go_ret
  have e1 : ((x.cnV : Nat) : Int) = ((TCell.cnL x.cells : Nat) : Int) := by unfold TNotebook.cnV; omega
  exact ⟨ret_int (by omega), bnext B0 D1⟩
end Go.Proofs.YtbknilpmpjjfpaaGreat
/- The laws' marks written into slices of File, and their test. Conditions: the marks are numbers between 0 and 1099511627776. Written by a program of mine. -/
set_option linter.unusedSimpArgs false
set_option linter.unusedVariables false
namespace Go.Proofs.YtbknilpmpjjfpaaGreat
open Go.RowKit
theorem TFile.wd_ (x : TFile) : wd x.d = 2 := by simp [TFile.d, wd, wdL]
theorem TFile.wds (xs : List TFile) : ∀ d ∈ xs.map TFile.d, wd d = 2 := by
  intro d hd
  obtain ⟨x, _, rfl⟩ := List.mem_map.1 hd
  exact x.wd_
theorem TFile.open_ {w : World} {x : TFile} {cs : List Value} {F : List Nat} (h : Rep w x.d cs F) :
    cs = [.string x.name, .int .i64 x.n] ∧ F = [] ∧ Fits x.name ∧ I64 x.n := by
  simp only [TFile.d, rep_agg, repL_cons, repL_nil, rep_int, rep_bool, rep_str, rep_sl, List.length_map] at h
  obtain ⟨_, _, _, _, rfl, rfl, ⟨rfl, rfl, i0⟩, ⟨_, _, _, _, rfl, rfl, ⟨rfl, rfl, i1⟩, ⟨rfl, rfl⟩⟩⟩ := h
  exact ⟨rfl, by simp, i0, i1⟩
set_option maxHeartbeats 4000000 in
set_option maxRecDepth 100000 in
theorem markFileS_run (w : World) (v : Value) (xs : List TFile) (F : List Nat) (k : Int) (h : SlAt w v (xs.map TFile.d) F) (hn : F.Nodup) (hp : ∀ q ∈ F, Plain w q) (h0 : 0 ≤ k) (h1 : k + ((TFile.cnL xs : Nat) : Int) ≤ 1099511627776) :
    Calls Tryz.prog 84 #[v, .int .i64 k] w fun e w' => e = .returned (.int .i64 (k + ((TFile.cnL xs : Nat) : Int))) ∧ SlAt w' v ((TFile.markL xs k).map TFile.d) F ∧ (∀ q ∈ F, Plain w' q) ∧ Off F w w' := by
  obtain ⟨A, c, rfl, hc, hcm⟩ := h.form
  rw [List.length_map] at h hc ⊢
  have hP := Lib.hid hp
  have H1 := Lib.hid h1
  clear hp h1
  go_enter Tryz.func84, Tryz.ntmps84
  go_wp2_with fail
  go_loopw [1, 5] (fun kk i wr => ∃ j : Nat, j ≤ xs.length ∧ i = .int .i64 j ∧ kk = .int .i64 (k + ((TFile.cnL (xs.take j) : Nat) : Int)) ∧ SlAt wr (.slice A xs.length c) ((TFile.markL (xs.take j) k).map TFile.d ++ (xs.drop j).map TFile.d) F ∧ (∀ q ∈ F, Plain wr q) ∧ Off F w wr) (fun _ i _ => xs.length - (intOf i).toNat)
  case atStart => exact ⟨0, Nat.zero_le _, rfl, int_eq (by rw [List.take_zero, TFile.cnL_eq]; simp [cnS]), by rw [List.take_zero, List.drop_zero, TFile.markL_eq]; exact h, hP.out, Off.refl _ _⟩
  case round =>
    obtain ⟨j, hj, rfl, rfl, hs, hpr, hoff⟩ := hrel
    by_cases hlt : j < xs.length
    · have ed : xs.drop j = xs[j] :: xs.drop (j + 1) := List.drop_eq_getElem_cons hlt
      rw [ed, List.map_cons] at hs
      obtain ⟨b, off, ys, Fi, rfl, hbF, hbFi, hni, hsub, hr, hlen, hcell, hback⟩ := hs.take_out (W := 2) (by
        intro y hy
        rcases List.mem_append.1 hy with hy | hy
        · exact TFile.wds _ y hy
        · rw [← List.map_cons] at hy; exact TFile.wds _ y hy) (by omega) hn
      have el : ((TFile.markL (xs.take j) k).map TFile.d).length = j := by rw [List.length_map, TFile.markL_eq, mkL_length, List.length_take]; omega
      rw [el] at hcell hback
      have e1 : TFile.cnL (xs.take (j + 1)) = TFile.cnL (xs.take j) + TFile.cn xs[j] := by rw [TFile.cnL_eq, TFile.cnL_eq]; exact cnS_take_succ xs j hlt
      have e2 : TFile.cnL (xs.take (j + 1)) ≤ TFile.cnL xs := by rw [TFile.cnL_eq, TFile.cnL_eq]; exact cnS_take_le xs (j + 1)
      have e3 : TFile.cn xs[j] = 2 := TFile.cn_eq _
      obtain ⟨kk, hkk⟩ : ∃ kk : Int, kk = k + ((TFile.cnL (xs.take j) : Nat) : Int) := ⟨_, rfl⟩
      rw [← hkk]
      have k0 : 0 ≤ kk := by omega
      have k1 : kk + 2 ≤ 1099511627776 := by have := H1.out; rw [e3] at e1; omega
      have HE1 := Lib.hid e1
      have HE3 := Lib.hid e3
      have HK := Lib.hid hkk
      have HB := Lib.hid hback
      have HS := Lib.hid hsub
      clear e1 e2 e3 hkk hback hsub ed el hs h hlen
      obtain ⟨rfl, hF, _, _⟩ := TFile.open_ hr
      clear hr
      subst hF
      have T0 : Trk wr wr b (off + j * 2) (off + j * 2 + 2) _ := Trk.start (hpr b hbF) (fun q hq => hpr q (HS.out q hq))
      have C0 := Lib.hid hcell
      clear hcell hni
      have c0_0 : wr.cell? ⟨b, off + j * 2, none⟩ = _ := C0.out 0 _ rfl
      have c0_1 := C0.out 1 _ rfl
      have z0 := T0.here.free
      go_wp2_with fail
      refine (markText_any _ _ (by omega)).mono ?_
      rintro e w1 ⟨rfl, hb1⟩
      have T1 := Trk.next T0 hb1
      have C1 := Lib.hid (CellsAt.next C0.out hb1)
      clear hb1 c0_0 c0_1 z0
      have c1_0 : w1.cell? ⟨b, off + j * 2, none⟩ = _ := C1.out 0 _ rfl
      have c1_1 := C1.out 1 _ rfl
      have z1 := T1.here.free
      go_wp2_with fail
      go_roundw
      case rel =>
        refine ⟨j + 1, by omega, by go_num, int_eq (by have h1 := HE1.out; have h2 := HE3.out; have h3 := HK.out; rw [h2] at h1; omega), ?_, Trk.plains (Trk.set (Trk.set T1 0 (by omega) _) 1 (by omega) _) hpr, hoff.trans (Off.sub (Trk.off (Trk.set (Trk.set T1 0 (by omega) _) 1 (by omega) _)) (fun q hq => by rcases List.mem_cons.1 hq with rfl | hq; exact hbF; exact HS.out q hq))⟩
        have hm : TFile.markL (xs.take (j + 1)) k = TFile.markL (xs.take j) k ++ [TFile.mark xs[j] kk] := by
          rw [TFile.markL_eq, TFile.markL_eq, mkL_take_succ xs j k hlt, HK.out, TFile.cnL_eq]
        rw [hm, List.map_append, List.append_assoc]
        refine HB.out _ (TFile.d (TFile.mark xs[j] kk)) _ (by simp) ?_ (CellsAt.setAt (CellsAt.setAt C1.out 0 (by simp) _) 1 (by simp) _) (Trk.set (Trk.set T1 0 (by omega) _) 1 (by omega) _)
        simp only [TFile.mark_eq, TFile.d]
        rw [rep_agg]
        exact repL_of (mk_cons (mk_strE (by omega) (by first | rfl | omega)) (mk_cons (mk_intE (i64_mid (by omega) (by omega)) (by first | rfl | omega)) mk_nil)) rfl (by first | rfl | simp only [List.nil_append, List.append_nil, List.append_assoc])
      case measure => simp [intOf]; omega
    · have hj' : j = xs.length := by omega
      subst hj'
      rw [List.take_of_length_le (Nat.le_refl _), List.drop_of_length_le (Nat.le_refl _)] at hs
      rw [List.take_of_length_le (Nat.le_refl _)]
      have HQ := Lib.hid hs
      clear hs
      go_wp2_with fail
      go_ret
      exact ⟨rfl, by have := HQ.out; simpa using this, hpr, hoff⟩
set_option maxHeartbeats 4000000 in
set_option maxRecDepth 100000 in
theorem heldFileS_run (w : World) (v : Value) (xs : List TFile) (F : List Nat) (k : Int) (h : SlAt w v ((TFile.markL xs k).map TFile.d) F) (h0 : 0 ≤ k) (h1 : k + ((TFile.cnL xs : Nat) : Int) ≤ 1099511627776) :
    Calls Tryz.prog 90 #[v, .int .i64 k] w fun e w' => e = .returned (.int .i64 (k + ((TFile.cnL xs : Nat) : Int))) ∧ Below w.heap.size w w' := by
  obtain ⟨A, c, rfl, hc, hcm⟩ := h.form
  have hl : ((TFile.markL xs k).map TFile.d).length = xs.length := by rw [List.length_map, TFile.markL_eq, mkL_length]
  rw [hl] at h hc ⊢
  have H1 := Lib.hid h1
  have HS := Lib.hid h
  clear h1 hl h
  go_enter Tryz.func90, Tryz.ntmps90
  go_wp2_with fail
  go_loopw [1, 5] (fun kk i wr => ∃ j : Nat, j ≤ xs.length ∧ i = .int .i64 j ∧ kk = .int .i64 (k + ((TFile.cnL (xs.take j) : Nat) : Int)) ∧ Below w.heap.size w wr) (fun _ i _ => xs.length - (intOf i).toNat)
  case atStart => exact ⟨0, Nat.zero_le _, rfl, int_eq (by rw [List.take_zero, TFile.cnL_eq]; simp [cnS]), Below.refl _ _⟩
  case round =>
    obtain ⟨j, hj, rfl, rfl, hb⟩ := hrel
    by_cases hlt : j < xs.length
    · have hs := HS.out.below hb
      obtain ⟨b, off, ys, Fi, rfl, hbl, _, hr, hlen, _, hcell⟩ := hs.at_ (W := 2) (i := j) (by
        rw [TFile.markL_eq]; exact TFile.wds _) (by rw [List.length_map, TFile.markL_eq, mkL_length]; exact hlt)
      have e0 : ((TFile.markL xs k).map TFile.d)[j]'(by rw [List.length_map, TFile.markL_eq, mkL_length]; exact hlt) = TFile.d (TFile.mark xs[j] (k + ((TFile.cnL (xs.take j) : Nat) : Int))) := by
        rw [List.getElem_map]
        congr 1
        exact (List.getElem_of_eq (TFile.markL_eq xs k) _).trans ((mkL_get xs j k hlt).trans (by rw [TFile.cnL_eq]))
      rw [e0] at hr
      have e1 : TFile.cnL (xs.take (j + 1)) = TFile.cnL (xs.take j) + TFile.cn xs[j] := by rw [TFile.cnL_eq, TFile.cnL_eq]; exact cnS_take_succ xs j hlt
      have e2 : TFile.cnL (xs.take (j + 1)) ≤ TFile.cnL xs := by rw [TFile.cnL_eq, TFile.cnL_eq]; exact cnS_take_le xs (j + 1)
      have e3 : TFile.cn xs[j] = 2 := TFile.cn_eq _
      obtain ⟨kk, hkk⟩ : ∃ kk : Int, kk = k + ((TFile.cnL (xs.take j) : Nat) : Int) := ⟨_, rfl⟩
      rw [← hkk] at hr ⊢
      have k0 : 0 ≤ kk := by omega
      have k1 : kk + 2 ≤ 1099511627776 := by have := H1.out; rw [e3] at e1; omega
      have HE1 := Lib.hid e1
      have HE3 := Lib.hid e3
      have HK := Lib.hid hkk
      clear e0 e1 e2 e3 hkk hs hlen
      rw [TFile.mark_eq] at hr
      obtain ⟨rfl, _, _, _⟩ := TFile.open_ hr
      clear hr
      have c0 : wr.cell? ⟨b, off + j * 2, none⟩ = some (.string (mText (kk))) := hcell 0 _ rfl
      have c1 : wr.cell? ⟨b, off + j * 2 + 1, none⟩ = some (.int .i64 (kk + 1)) := hcell 1 _ rfl
      clear hcell
      have D0 := Below.refl wr.heap.size wr
      go_wp2_with fail
      have hx_ := @ext_cell wr
      refine wp_region_mild (by kernel_rfl) (by kernel_rfl) ?_
      repeat (go_big_quiet_step ((go_at_call 53; exact mild_of (markText_any _ _ (by omega)))))
      refine wpQuiet_nil ?_
      rintro w' ⟨x_, rfl⟩
      obtain ⟨w1, hw1⟩ := x_
      clear hx_
      dsimp only
      have D1 := bnext D0 hw1
      replace hbl : b < w1.heap.size := Nat.lt_of_lt_of_le hbl hw1.size
      replace c1 := cell_next hw1 c1
      skip
      go_wp2_with fail
      go_roundw
      case rel => exact ⟨j + 1, by omega, by go_num, int_eq (by have h1 := HE1.out; have h2 := HE3.out; have h3 := HK.out; rw [h2] at h1; omega), bnext hb D1⟩
      case measure => simp [intOf]; omega
    · have hj' : j = xs.length := by omega
      subst hj'
      rw [List.take_of_length_le (Nat.le_refl _)]
      go_wp2_with fail
      go_ret
      exact ⟨rfl, hb⟩
end Go.Proofs.YtbknilpmpjjfpaaGreat
/- The laws' marks written into slices of World, and their test. Conditions: the marks are numbers between 0 and 1099511627776. Written by a program of mine. -/
set_option linter.unusedSimpArgs false
set_option linter.unusedVariables false
namespace Go.Proofs.YtbknilpmpjjfpaaGreat
open Go.RowKit
theorem TWorld.open_ {w : World} {x : TWorld} {cs : List Value} {F : List Nat} (h : Rep w x.d cs F) :
    ∃ (A2 : Option Addr) (c2 : Nat) (F2 : List Nat), cs = [.int .i64 x.clock, .int .i64 x.seed, .slice A2 x.files.length c2] ∧ F = F2 ∧ I64 x.clock ∧ I64 x.seed ∧ SlAt w (.slice A2 x.files.length c2) (x.files.map TFile.d) F2 := by
  simp only [TWorld.d, rep_agg, repL_cons, repL_nil, rep_int, rep_bool, rep_str, rep_sl, List.length_map] at h
  obtain ⟨_, _, _, _, rfl, rfl, ⟨rfl, rfl, i0⟩, ⟨_, _, _, _, rfl, rfl, ⟨rfl, rfl, i1⟩, ⟨_, _, F2, _, rfl, rfl, ⟨A2, c2, rfl, q2⟩, ⟨rfl, rfl⟩⟩⟩⟩ := h
  exact ⟨A2, c2, F2, rfl, by simp, i0, i1, q2⟩
theorem TWorld.mk_ {w : World} {x : TWorld} {A2 : Option Addr} {c2 : Nat} {F2 : List Nat} (i0 : I64 x.clock) (i1 : I64 x.seed) (q2 : SlAt w (.slice A2 x.files.length c2) (x.files.map TFile.d) F2) : Rep w x.d [.int .i64 x.clock, .int .i64 x.seed, .slice A2 x.files.length c2] (F2) := by
  simp only [TWorld.d, rep_agg]
  have h := (mk_cons (mk_int i0) (mk_cons (mk_int i1) (mk_cons (mk_sl q2) (mk_nil (w := w)))))
  simpa only [List.nil_append, List.append_nil, List.cons_append, List.append_assoc] using h
set_option maxHeartbeats 4000000 in
set_option maxRecDepth 100000 in
theorem markWorld_run (w : World) (x : TWorld) (cs : List Value) (F : List Nat) (k : Int) (h : Rep w x.d cs F) (hn : F.Nodup) (hp : ∀ q ∈ F, Plain w q) (h0 : 0 ≤ k) (h1 : k + ((x.cnV : Nat) : Int) ≤ 1099511627776) :
    Calls Tryz.prog 45 #[.agg cs.toArray, .int .i64 k] w fun e w' => e = .returned (.int .i64 (k + ((x.cnV : Nat) : Int))) ∧ Rep w' (x.markV k).d cs F ∧ (∀ q ∈ F, Plain w' q) ∧ Off F w w' := by
  have hF := h.lt
  obtain ⟨A2, c2, F2, rfl, hFe, i0, i1, q2⟩ := TWorld.open_ h
  have hFe := hFe.symm
  subst hFe
  have h1' : k + ((TFile.cnL x.files : Nat) : Int) ≤ 1099511627776 := h1
  have hn' : (F2).Nodup := by simpa only [List.append_assoc, List.append_nil] using hn
  have dn2 := hn'
  obtain ⟨w0, hw0⟩ : ∃ w0, w0 = w.alloc (.cells #[.int .i64 x.clock, .int .i64 x.seed, .slice A2 x.files.length c2] 43) := ⟨_, rfl⟩
  have B0 : Below w.heap.size w w0 := hw0 ▸ bnew (Below.refl _ _) _
  have kc0 : w0.cell? ⟨w.heap.size, 0, none⟩ = some (.int .i64 x.clock) := hw0 ▸ cell_new w _ _ 0 _ rfl
  have kc1 : w0.cell? ⟨w.heap.size, 1, none⟩ = some (.int .i64 x.seed) := hw0 ▸ cell_new w _ _ 1 _ rfl
  have kc2 : w0.cell? ⟨w.heap.size, 2, none⟩ = some (.slice A2 x.files.length c2) := hw0 ▸ cell_new w _ _ 2 _ rfl
  have HW := Lib.hid hw0
  clear hw0
  have ns2 : w.heap.size ∉ F2 := fun hm => by have := hF _ (show w.heap.size ∈ _ by (try simp only [List.mem_append] at hm ⊢); first | (simp [hm]; done) | (rcases hm with h' | h' <;> simp [h']; done) | (rcases hm with h' | h' | h' <;> simp [h']; done)); omega
  have Q2 := Lib.hid (q2.below B0)
  have P2 : Hid (∀ q ∈ F2, Plain w0 q) := Lib.hid (fun q hq => (hp q (by (try simp only [List.mem_append] at hq ⊢); first | (simp [hq]; done) | (rcases hq with h' | h' <;> simp [h']; done) | (rcases hq with h' | h' | h' <;> simp [h']; done))).next B0)
  clear q2
  have HOLD := Lib.hid (And.intro hp (And.intro hF h))
  clear hp hF h
  have O0 : Off (F2) w w0 := Off.of_below B0
  go_enter Tryz.func45, Tryz.ntmps45
  go_wp2_with fail
  rw [← HW.out]
  refine (markFileS_run _ _ x.files F2 _ Q2.out dn2 P2.out (by omega) (by omega)).mono ?_
  rintro e w1 ⟨rfl, q2, p2, hb1⟩
  have O1 : Off (F2) w w1 := O0.trans (hb1.sub (fun q hq => by (try simp only [List.mem_append] at hq ⊢); first | (simp [hq]; done) | (rcases hq with h' | h' <;> simp [h']; done) | (rcases hq with h' | h' | h' <;> simp [h']; done)))
  replace kc0 := hb1.cell ns2 kc0
  replace kc1 := hb1.cell ns2 kc1
  replace kc2 := hb1.cell ns2 kc2
  replace Q2 := Lib.hid q2
  replace P2 := Lib.hid p2
  clear q2 p2
  go_wp2_with fail
  go_ret
  have e1 : ((x.cnV : Nat) : Int) = ((TFile.cnL x.files : Nat) : Int) := by unfold TWorld.cnV; omega
  refine ⟨ret_int (by omega), ?_, ?_, O1⟩
  · refine rep_agg.2 (repL_of (mk_cons (mk_int i0) (mk_cons (mk_int i1) (mk_cons (mk_sl Q2.out) (mk_nil (w := _))))) ?_ ?_)
    · first | rfl | simp only [List.cons_append, List.nil_append, List.append_nil]
    · first | rfl | simp only [List.nil_append, List.append_nil, List.append_assoc]
  · intro q hq
    first
    | exact P2.out q hq
    | (simp only [List.mem_append] at hq; revert hq; simp only [or_imp]; simp only [or_imp, and_imp]; first | exact fun h => P2.out q h | skip)
set_option maxHeartbeats 4000000 in
set_option maxRecDepth 100000 in
theorem heldWorld_run (w : World) (x : TWorld) (cs : List Value) (F : List Nat) (k : Int) (h : Rep w (x.markV k).d cs F) (h0 : 0 ≤ k) (h1 : k + ((x.cnV : Nat) : Int) ≤ 1099511627776) :
    Calls Tryz.prog 49 #[.agg cs.toArray, .int .i64 k] w fun e w' => e = .returned (.int .i64 (k + ((x.cnV : Nat) : Int))) ∧ Below w.heap.size w w' := by
  obtain ⟨A2, c2, F2, rfl, _, i0, i1, q2⟩ := TWorld.open_ h
  clear h
  have h1' : k + ((TFile.cnL x.files : Nat) : Int) ≤ 1099511627776 := h1
  obtain ⟨w0, hw0⟩ : ∃ w0, w0 = w.alloc (.cells #[.int .i64 (x.markV k).clock, .int .i64 (x.markV k).seed, .slice A2 (x.markV k).files.length c2] 43) := ⟨_, rfl⟩
  have B0 : Below w.heap.size w w0 := hw0 ▸ bnew (Below.refl _ _) _
  have kc0 : w0.cell? ⟨w.heap.size, 0, none⟩ = some (.int .i64 (x.markV k).clock) := hw0 ▸ cell_new w _ _ 0 _ rfl
  have kc1 : w0.cell? ⟨w.heap.size, 1, none⟩ = some (.int .i64 (x.markV k).seed) := hw0 ▸ cell_new w _ _ 1 _ rfl
  have kc2 : w0.cell? ⟨w.heap.size, 2, none⟩ = some (.slice A2 (x.markV k).files.length c2) := hw0 ▸ cell_new w _ _ 2 _ rfl
  have HW := Lib.hid hw0
  clear hw0
  have Q2 : Hid (SlAt w0 _ ((TFile.markL x.files (k)).map TFile.d) F2) := Lib.hid (q2.below B0)
  clear q2
  have D0 := Below.refl w0.heap.size w0
  go_enter Tryz.func49, Tryz.ntmps49
  go_wp2_with fail
  rw [← HW.out]
  refine (heldFileS_run _ _ x.files F2 _ (Q2.out.below D0) (by omega) (by omega)).mono ?_
  rintro e w1 ⟨rfl, hw1⟩
  have D1 := bnext D0 hw1
  have hd1 : decide (k + ((TFile.cnL x.files : Nat) : Int) < 0) = false := by simp; omega
  replace kc0 := cell_next hw1 kc0
  replace kc1 := cell_next hw1 kc1
  replace kc2 := cell_next hw1 kc2
  go_wp2_with fail
  go_ret
  have e1 : ((x.cnV : Nat) : Int) = ((TFile.cnL x.files : Nat) : Int) := by unfold TWorld.cnV; omega
  exact ⟨ret_int (by omega), bnext B0 D1⟩
end Go.Proofs.YtbknilpmpjjfpaaGreat
/- The laws' marks written into slices of String, and their test. Conditions: the marks are numbers between 0 and 1099511627776. Written by a program of mine. -/
set_option linter.unusedSimpArgs false
set_option linter.unusedVariables false
namespace Go.Proofs.YtbknilpmpjjfpaaGreat
open Go.RowKit
set_option maxHeartbeats 4000000 in
set_option maxRecDepth 100000 in
theorem markStringS_run (w : World) (v : Value) (xs : List ByteArray) (F : List Nat) (k : Int) (h : SlAt w v (xs.map D.str) F) (hn : F.Nodup) (hp : ∀ q ∈ F, Plain w q) (h0 : 0 ≤ k) (h1 : k + ((strCnL xs : Nat) : Int) ≤ 1099511627776) :
    Calls Tryz.prog 87 #[v, .int .i64 k] w fun e w' => e = .returned (.int .i64 (k + ((strCnL xs : Nat) : Int))) ∧ SlAt w' v ((strMarkL xs k).map D.str) F ∧ (∀ q ∈ F, Plain w' q) ∧ Off F w w' := by
  obtain ⟨A, c, rfl, hc, hcm⟩ := h.form
  rw [List.length_map] at h hc ⊢
  have hP := Lib.hid hp
  have H1 := Lib.hid h1
  clear hp h1
  go_enter Tryz.func87, Tryz.ntmps87
  go_wp2_with fail
  go_loopw [1, 5] (fun kk i wr => ∃ j : Nat, j ≤ xs.length ∧ i = .int .i64 j ∧ kk = .int .i64 (k + ((strCnL (xs.take j) : Nat) : Int)) ∧ SlAt wr (.slice A xs.length c) ((strMarkL (xs.take j) k).map D.str ++ (xs.drop j).map D.str) F ∧ (∀ q ∈ F, Plain wr q) ∧ Off F w wr) (fun _ i _ => xs.length - (intOf i).toNat)
  case atStart => exact ⟨0, Nat.zero_le _, rfl, int_eq (by rw [List.take_zero, strCnL_eq]; simp [cnS]), by rw [List.take_zero, List.drop_zero, strMarkL_eq]; exact h, hP.out, Off.refl _ _⟩
  case round =>
    obtain ⟨j, hj, rfl, rfl, hs, hpr, hoff⟩ := hrel
    by_cases hlt : j < xs.length
    · have ed : xs.drop j = xs[j] :: xs.drop (j + 1) := List.drop_eq_getElem_cons hlt
      rw [ed, List.map_cons] at hs
      obtain ⟨b, off, ys, Fi, rfl, hbF, hbFi, hni, hsub, hr, hlen, hcell, hback⟩ := hs.take_out (W := 1) (by
        intro y hy
        rcases List.mem_append.1 hy with hy | hy
        · exact strWds _ y hy
        · rw [← List.map_cons] at hy; exact strWds _ y hy) (by omega) hn
      have el : ((strMarkL (xs.take j) k).map D.str).length = j := by rw [List.length_map, strMarkL_eq, mkL_length, List.length_take]; omega
      rw [el, Nat.mul_one] at hcell hback
      have e1 : strCnL (xs.take (j + 1)) = strCnL (xs.take j) + strCn xs[j] := by rw [strCnL_eq, strCnL_eq]; exact cnS_take_succ xs j hlt
      have e2 : strCnL (xs.take (j + 1)) ≤ strCnL xs := by rw [strCnL_eq, strCnL_eq]; exact cnS_take_le xs (j + 1)
      have e3 : strCn xs[j] = 1 := rfl
      obtain ⟨kk, hkk⟩ : ∃ kk : Int, kk = k + ((strCnL (xs.take j) : Nat) : Int) := ⟨_, rfl⟩
      rw [← hkk]
      have k0 : 0 ≤ kk := by omega
      have k1 : kk + 1 ≤ 1099511627776 := by have := H1.out; rw [e3] at e1; omega
      have HE1 := Lib.hid e1
      have HE3 := Lib.hid e3
      have HK := Lib.hid hkk
      have HB := Lib.hid hback
      have HS := Lib.hid hsub
      clear e1 e2 e3 hkk hback hsub ed el hs h hlen
      obtain ⟨rfl, hF, _⟩ := rep_str.1 hr
      clear hr
      subst hF
      have T0 : Trk wr wr b (off + j) (off + j + 1) _ := Trk.start (hpr b hbF) (fun q hq => hpr q (HS.out q hq))
      have C0 := Lib.hid hcell
      clear hcell hni
      have c0_0 : wr.cell? ⟨b, off + j, none⟩ = _ := C0.out 0 _ rfl
      have z0 := T0.here.free
      go_wp2_with fail
      refine (markText_any _ _ (by omega)).mono ?_
      rintro e w1 ⟨rfl, hb1⟩
      have T1 := Trk.next T0 hb1
      have C1 := Lib.hid (CellsAt.next C0.out hb1)
      clear hb1 c0_0 z0
      have c1_0 : w1.cell? ⟨b, off + j, none⟩ = _ := C1.out 0 _ rfl
      have z1 := T1.here.free
      go_wp2_with fail
      go_roundw
      case rel =>
        refine ⟨j + 1, by omega, by go_num, int_eq (by have h1 := HE1.out; have h2 := HE3.out; have h3 := HK.out; rw [h2] at h1; omega), ?_, Trk.plains (Trk.set T1 0 (by omega) _) hpr, hoff.trans (Off.sub (Trk.off (Trk.set T1 0 (by omega) _)) (fun q hq => by rcases List.mem_cons.1 hq with rfl | hq; exact hbF; exact HS.out q hq))⟩
        have hm : strMarkL (xs.take (j + 1)) k = strMarkL (xs.take j) k ++ [strMark xs[j] kk] := by
          rw [strMarkL_eq, strMarkL_eq, mkL_take_succ xs j k hlt, HK.out, strCnL_eq]
        rw [hm, List.map_append, List.append_assoc]
        exact HB.out _ (D.str (strMark xs[j] kk)) _ (by simp) (mk_strE (by omega) (by first | rfl | omega)) (CellsAt.setAt C1.out 0 (by simp) _) (Trk.set T1 0 (by omega) _)
      case measure => simp [intOf]; omega
    · have hj' : j = xs.length := by omega
      subst hj'
      rw [List.take_of_length_le (Nat.le_refl _), List.drop_of_length_le (Nat.le_refl _)] at hs
      rw [List.take_of_length_le (Nat.le_refl _)]
      have HQ := Lib.hid hs
      clear hs
      go_wp2_with fail
      go_ret
      exact ⟨rfl, by have := HQ.out; simpa using this, hpr, hoff⟩
set_option maxHeartbeats 4000000 in
set_option maxRecDepth 100000 in
theorem heldStringS_run (w : World) (v : Value) (xs : List ByteArray) (F : List Nat) (k : Int) (h : SlAt w v ((strMarkL xs k).map D.str) F) (h0 : 0 ≤ k) (h1 : k + ((strCnL xs : Nat) : Int) ≤ 1099511627776) :
    Calls Tryz.prog 93 #[v, .int .i64 k] w fun e w' => e = .returned (.int .i64 (k + ((strCnL xs : Nat) : Int))) ∧ Below w.heap.size w w' := by
  obtain ⟨A, c, rfl, hc, hcm⟩ := h.form
  have hl : ((strMarkL xs k).map D.str).length = xs.length := by rw [List.length_map, strMarkL_eq, mkL_length]
  rw [hl] at h hc ⊢
  have H1 := Lib.hid h1
  have HS := Lib.hid h
  clear h1 hl h
  go_enter Tryz.func93, Tryz.ntmps93
  go_wp2_with fail
  go_loopw [1, 5] (fun kk i wr => ∃ j : Nat, j ≤ xs.length ∧ i = .int .i64 j ∧ kk = .int .i64 (k + ((strCnL (xs.take j) : Nat) : Int)) ∧ Below w.heap.size w wr) (fun _ i _ => xs.length - (intOf i).toNat)
  case atStart => exact ⟨0, Nat.zero_le _, rfl, int_eq (by rw [List.take_zero, strCnL_eq]; simp [cnS]), Below.refl _ _⟩
  case round =>
    obtain ⟨j, hj, rfl, rfl, hb⟩ := hrel
    by_cases hlt : j < xs.length
    · have hs := HS.out.below hb
      obtain ⟨b, off, ys, Fi, rfl, hbl, _, hr, hlen, _, hcell⟩ := hs.at_ (W := 1) (i := j) (by
        rw [strMarkL_eq]; exact strWds _) (by rw [List.length_map, strMarkL_eq, mkL_length]; exact hlt)
      have e0 : ((strMarkL xs k).map D.str)[j]'(by rw [List.length_map, strMarkL_eq, mkL_length]; exact hlt) = D.str (strMark xs[j] (k + ((strCnL (xs.take j) : Nat) : Int))) := by
        rw [List.getElem_map]
        congr 1
        exact (List.getElem_of_eq (strMarkL_eq xs k) _).trans ((mkL_get xs j k hlt).trans (by rw [strCnL_eq]))
      rw [e0] at hr
      have e1 : strCnL (xs.take (j + 1)) = strCnL (xs.take j) + strCn xs[j] := by rw [strCnL_eq, strCnL_eq]; exact cnS_take_succ xs j hlt
      have e2 : strCnL (xs.take (j + 1)) ≤ strCnL xs := by rw [strCnL_eq, strCnL_eq]; exact cnS_take_le xs (j + 1)
      have e3 : strCn xs[j] = 1 := rfl
      obtain ⟨kk, hkk⟩ : ∃ kk : Int, kk = k + ((strCnL (xs.take j) : Nat) : Int) := ⟨_, rfl⟩
      rw [← hkk] at hr ⊢
      have k0 : 0 ≤ kk := by omega
      have k1 : kk + 1 ≤ 1099511627776 := by have := H1.out; rw [e3] at e1; omega
      have HE1 := Lib.hid e1
      have HE3 := Lib.hid e3
      have HK := Lib.hid hkk
      clear e0 e1 e2 e3 hkk hs hlen
      obtain ⟨rfl, _, _⟩ := rep_str.1 hr
      clear hr
      have c0 : wr.cell? ⟨b, off + j, none⟩ = some (.string (mText (kk))) := (by have h0 := hcell 0 (.string (mText (kk))) rfl; rwa [Nat.mul_one] at h0)
      clear hcell
      have D0 := Below.refl wr.heap.size wr
      go_wp2_with fail
      have hx_ := @ext_cell wr
      refine wp_region_mild (by kernel_rfl) (by kernel_rfl) ?_
      repeat (go_big_quiet_step ((go_at_call 53; exact mild_of (markText_any _ _ (by omega)))))
      refine wpQuiet_nil ?_
      rintro w' ⟨x_, rfl⟩
      obtain ⟨w1, hw1⟩ := x_
      clear hx_
      dsimp only
      have D1 := bnext D0 hw1
      replace hbl : b < w1.heap.size := Nat.lt_of_lt_of_le hbl hw1.size
      go_wp2_with fail
      go_roundw
      case rel => exact ⟨j + 1, by omega, by go_num, int_eq (by have h1 := HE1.out; have h2 := HE3.out; have h3 := HK.out; rw [h2] at h1; omega), bnext hb D1⟩
      case measure => simp [intOf]; omega
    · have hj' : j = xs.length := by omega
      subst hj'
      rw [List.take_of_length_le (Nat.le_refl _)]
      go_wp2_with fail
      go_ret
      exact ⟨rfl, hb⟩
end Go.Proofs.YtbknilpmpjjfpaaGreat
/- The laws' marks written into slices of Int, and their test. Conditions: the marks are numbers between 0 and 1099511627776. Written by a program of mine. -/
set_option linter.unusedSimpArgs false
set_option linter.unusedVariables false
namespace Go.Proofs.YtbknilpmpjjfpaaGreat
open Go.RowKit
set_option maxHeartbeats 4000000 in
set_option maxRecDepth 100000 in
theorem markIntS_run (w : World) (v : Value) (xs : List Int) (F : List Nat) (k : Int) (h : SlAt w v (xs.map D.int) F) (hn : F.Nodup) (hp : ∀ q ∈ F, Plain w q) (h0 : 0 ≤ k) (h1 : k + ((intCnL xs : Nat) : Int) ≤ 1099511627776) :
    Calls Tryz.prog 21 #[v, .int .i64 k] w fun e w' => e = .returned (.int .i64 (k + ((intCnL xs : Nat) : Int))) ∧ SlAt w' v ((intMarkL xs k).map D.int) F ∧ (∀ q ∈ F, Plain w' q) ∧ Off F w w' := by
  obtain ⟨A, c, rfl, hc, hcm⟩ := h.form
  rw [List.length_map] at h hc ⊢
  have hP := Lib.hid hp
  have H1 := Lib.hid h1
  clear hp h1
  go_enter Tryz.func21, Tryz.ntmps21
  go_wp2_with fail
  go_loopw [1, 5] (fun kk i wr => ∃ j : Nat, j ≤ xs.length ∧ i = .int .i64 j ∧ kk = .int .i64 (k + ((intCnL (xs.take j) : Nat) : Int)) ∧ SlAt wr (.slice A xs.length c) ((intMarkL (xs.take j) k).map D.int ++ (xs.drop j).map D.int) F ∧ (∀ q ∈ F, Plain wr q) ∧ Off F w wr) (fun _ i _ => xs.length - (intOf i).toNat)
  case atStart => exact ⟨0, Nat.zero_le _, rfl, int_eq (by rw [List.take_zero, intCnL_eq]; simp [cnS]), by rw [List.take_zero, List.drop_zero, intMarkL_eq]; exact h, hP.out, Off.refl _ _⟩
  case round =>
    obtain ⟨j, hj, rfl, rfl, hs, hpr, hoff⟩ := hrel
    by_cases hlt : j < xs.length
    · have ed : xs.drop j = xs[j] :: xs.drop (j + 1) := List.drop_eq_getElem_cons hlt
      rw [ed, List.map_cons] at hs
      obtain ⟨b, off, ys, Fi, rfl, hbF, hbFi, hni, hsub, hr, hlen, hcell, hback⟩ := hs.take_out (W := 1) (by
        intro y hy
        rcases List.mem_append.1 hy with hy | hy
        · exact intWds _ y hy
        · rw [← List.map_cons] at hy; exact intWds _ y hy) (by omega) hn
      have el : ((intMarkL (xs.take j) k).map D.int).length = j := by rw [List.length_map, intMarkL_eq, mkL_length, List.length_take]; omega
      rw [el, Nat.mul_one] at hcell hback
      have e1 : intCnL (xs.take (j + 1)) = intCnL (xs.take j) + intCn xs[j] := by rw [intCnL_eq, intCnL_eq]; exact cnS_take_succ xs j hlt
      have e2 : intCnL (xs.take (j + 1)) ≤ intCnL xs := by rw [intCnL_eq, intCnL_eq]; exact cnS_take_le xs (j + 1)
      have e3 : intCn xs[j] = 1 := rfl
      obtain ⟨kk, hkk⟩ : ∃ kk : Int, kk = k + ((intCnL (xs.take j) : Nat) : Int) := ⟨_, rfl⟩
      rw [← hkk]
      have k0 : 0 ≤ kk := by omega
      have k1 : kk + 1 ≤ 1099511627776 := by have := H1.out; rw [e3] at e1; omega
      have HE1 := Lib.hid e1
      have HE3 := Lib.hid e3
      have HK := Lib.hid hkk
      have HB := Lib.hid hback
      have HS := Lib.hid hsub
      clear e1 e2 e3 hkk hback hsub ed el hs h hlen
      obtain ⟨rfl, hF, _⟩ := rep_int.1 hr
      clear hr
      subst hF
      have T0 : Trk wr wr b (off + j) (off + j + 1) _ := Trk.start (hpr b hbF) (fun q hq => hpr q (HS.out q hq))
      have C0 := Lib.hid hcell
      clear hcell hni
      have c0_0 : wr.cell? ⟨b, off + j, none⟩ = _ := C0.out 0 _ rfl
      have z0 := T0.here.free
      go_wp2_with fail
      go_roundw
      case rel =>
        refine ⟨j + 1, by omega, by go_num, int_eq (by have h1 := HE1.out; have h2 := HE3.out; have h3 := HK.out; rw [h2] at h1; omega), ?_, Trk.plains (Trk.set T0 0 (by omega) _) hpr, hoff.trans (Off.sub (Trk.off (Trk.set T0 0 (by omega) _)) (fun q hq => by rcases List.mem_cons.1 hq with rfl | hq; exact hbF; exact HS.out q hq))⟩
        have hm : intMarkL (xs.take (j + 1)) k = intMarkL (xs.take j) k ++ [intMark xs[j] kk] := by
          rw [intMarkL_eq, intMarkL_eq, mkL_take_succ xs j k hlt, HK.out, intCnL_eq]
        rw [hm, List.map_append, List.append_assoc]
        exact HB.out _ (D.int (intMark xs[j] kk)) _ (by simp) (mk_intE (i64_mid (by omega) (by omega)) (by first | rfl | omega)) (CellsAt.setAt C0.out 0 (by simp) _) (Trk.set T0 0 (by omega) _)
      case measure => simp [intOf]; omega
    · have hj' : j = xs.length := by omega
      subst hj'
      rw [List.take_of_length_le (Nat.le_refl _), List.drop_of_length_le (Nat.le_refl _)] at hs
      rw [List.take_of_length_le (Nat.le_refl _)]
      have HQ := Lib.hid hs
      clear hs
      go_wp2_with fail
      go_ret
      exact ⟨rfl, by have := HQ.out; simpa using this, hpr, hoff⟩
set_option maxHeartbeats 4000000 in
set_option maxRecDepth 100000 in
theorem heldIntS_run (w : World) (v : Value) (xs : List Int) (F : List Nat) (k : Int) (h : SlAt w v ((intMarkL xs k).map D.int) F) (h0 : 0 ≤ k) (h1 : k + ((intCnL xs : Nat) : Int) ≤ 1099511627776) :
    Calls Tryz.prog 22 #[v, .int .i64 k] w fun e w' => e = .returned (.int .i64 (k + ((intCnL xs : Nat) : Int))) ∧ Below w.heap.size w w' := by
  obtain ⟨A, c, rfl, hc, hcm⟩ := h.form
  have hl : ((intMarkL xs k).map D.int).length = xs.length := by rw [List.length_map, intMarkL_eq, mkL_length]
  rw [hl] at h hc ⊢
  have H1 := Lib.hid h1
  have HS := Lib.hid h
  clear h1 hl h
  go_enter Tryz.func22, Tryz.ntmps22
  go_wp2_with fail
  go_loopw [1, 5] (fun kk i wr => ∃ j : Nat, j ≤ xs.length ∧ i = .int .i64 j ∧ kk = .int .i64 (k + ((intCnL (xs.take j) : Nat) : Int)) ∧ Below w.heap.size w wr) (fun _ i _ => xs.length - (intOf i).toNat)
  case atStart => exact ⟨0, Nat.zero_le _, rfl, int_eq (by rw [List.take_zero, intCnL_eq]; simp [cnS]), Below.refl _ _⟩
  case round =>
    obtain ⟨j, hj, rfl, rfl, hb⟩ := hrel
    by_cases hlt : j < xs.length
    · have hs := HS.out.below hb
      obtain ⟨b, off, ys, Fi, rfl, hbl, _, hr, hlen, _, hcell⟩ := hs.at_ (W := 1) (i := j) (by
        rw [intMarkL_eq]; exact intWds _) (by rw [List.length_map, intMarkL_eq, mkL_length]; exact hlt)
      have e0 : ((intMarkL xs k).map D.int)[j]'(by rw [List.length_map, intMarkL_eq, mkL_length]; exact hlt) = D.int (intMark xs[j] (k + ((intCnL (xs.take j) : Nat) : Int))) := by
        rw [List.getElem_map]
        congr 1
        exact (List.getElem_of_eq (intMarkL_eq xs k) _).trans ((mkL_get xs j k hlt).trans (by rw [intCnL_eq]))
      rw [e0] at hr
      have e1 : intCnL (xs.take (j + 1)) = intCnL (xs.take j) + intCn xs[j] := by rw [intCnL_eq, intCnL_eq]; exact cnS_take_succ xs j hlt
      have e2 : intCnL (xs.take (j + 1)) ≤ intCnL xs := by rw [intCnL_eq, intCnL_eq]; exact cnS_take_le xs (j + 1)
      have e3 : intCn xs[j] = 1 := rfl
      obtain ⟨kk, hkk⟩ : ∃ kk : Int, kk = k + ((intCnL (xs.take j) : Nat) : Int) := ⟨_, rfl⟩
      rw [← hkk] at hr ⊢
      have k0 : 0 ≤ kk := by omega
      have k1 : kk + 1 ≤ 1099511627776 := by have := H1.out; rw [e3] at e1; omega
      have HE1 := Lib.hid e1
      have HE3 := Lib.hid e3
      have HK := Lib.hid hkk
      clear e0 e1 e2 e3 hkk hs hlen
      obtain ⟨rfl, _, _⟩ := rep_int.1 hr
      clear hr
      have c0 : wr.cell? ⟨b, off + j, none⟩ = some (.int .i64 (kk)) := (by have h0 := hcell 0 (.int .i64 (kk)) rfl; rwa [Nat.mul_one] at h0)
      clear hcell
      have D0 := Below.refl wr.heap.size wr
      go_wp2_with fail
      go_roundw
      case rel => exact ⟨j + 1, by omega, by go_num, int_eq (by have h1 := HE1.out; have h2 := HE3.out; have h3 := HK.out; rw [h2] at h1; omega), bnext hb D0⟩
      case measure => simp [intOf]; omega
    · have hj' : j = xs.length := by omega
      subst hj'
      rw [List.take_of_length_le (Nat.le_refl _)]
      go_wp2_with fail
      go_ret
      exact ⟨rfl, hb⟩
end Go.Proofs.YtbknilpmpjjfpaaGreat
/- The laws' marks written into slices of Origin, and their test. Conditions: the marks are numbers between 0 and 1099511627776. Written by a program of mine. -/
set_option linter.unusedSimpArgs false
set_option linter.unusedVariables false
namespace Go.Proofs.YtbknilpmpjjfpaaGreat
open Go.RowKit
theorem TOrigin.wd_ (x : TOrigin) : wd x.d = 2 := by simp [TOrigin.d, wd, wdL]
theorem TOrigin.wds (xs : List TOrigin) : ∀ d ∈ xs.map TOrigin.d, wd d = 2 := by
  intro d hd
  obtain ⟨x, _, rfl⟩ := List.mem_map.1 hd
  exact x.wd_
theorem TOrigin.open_ {w : World} {x : TOrigin} {cs : List Value} {F : List Nat} (h : Rep w x.d cs F) :
    cs = [.int .i64 x.cell, .int .i64 x.row] ∧ F = [] ∧ I64 x.cell ∧ I64 x.row := by
  simp only [TOrigin.d, rep_agg, repL_cons, repL_nil, rep_int, rep_bool, rep_str, rep_sl, List.length_map] at h
  obtain ⟨_, _, _, _, rfl, rfl, ⟨rfl, rfl, i0⟩, ⟨_, _, _, _, rfl, rfl, ⟨rfl, rfl, i1⟩, ⟨rfl, rfl⟩⟩⟩ := h
  exact ⟨rfl, by simp, i0, i1⟩
set_option maxHeartbeats 4000000 in
set_option maxRecDepth 100000 in
theorem markOriginS_run (w : World) (v : Value) (xs : List TOrigin) (F : List Nat) (k : Int) (h : SlAt w v (xs.map TOrigin.d) F) (hn : F.Nodup) (hp : ∀ q ∈ F, Plain w q) (h0 : 0 ≤ k) (h1 : k + ((TOrigin.cnL xs : Nat) : Int) ≤ 1099511627776) :
    Calls Tryz.prog 119 #[v, .int .i64 k] w fun e w' => e = .returned (.int .i64 (k + ((TOrigin.cnL xs : Nat) : Int))) ∧ SlAt w' v ((TOrigin.markL xs k).map TOrigin.d) F ∧ (∀ q ∈ F, Plain w' q) ∧ Off F w w' := by
  obtain ⟨A, c, rfl, hc, hcm⟩ := h.form
  rw [List.length_map] at h hc ⊢
  have hP := Lib.hid hp
  have H1 := Lib.hid h1
  clear hp h1
  go_enter Tryz.func119, Tryz.ntmps119
  go_wp2_with fail
  go_loopw [1, 5] (fun kk i wr => ∃ j : Nat, j ≤ xs.length ∧ i = .int .i64 j ∧ kk = .int .i64 (k + ((TOrigin.cnL (xs.take j) : Nat) : Int)) ∧ SlAt wr (.slice A xs.length c) ((TOrigin.markL (xs.take j) k).map TOrigin.d ++ (xs.drop j).map TOrigin.d) F ∧ (∀ q ∈ F, Plain wr q) ∧ Off F w wr) (fun _ i _ => xs.length - (intOf i).toNat)
  case atStart => exact ⟨0, Nat.zero_le _, rfl, int_eq (by rw [List.take_zero, TOrigin.cnL_eq]; simp [cnS]), by rw [List.take_zero, List.drop_zero, TOrigin.markL_eq]; exact h, hP.out, Off.refl _ _⟩
  case round =>
    obtain ⟨j, hj, rfl, rfl, hs, hpr, hoff⟩ := hrel
    by_cases hlt : j < xs.length
    · have ed : xs.drop j = xs[j] :: xs.drop (j + 1) := List.drop_eq_getElem_cons hlt
      rw [ed, List.map_cons] at hs
      obtain ⟨b, off, ys, Fi, rfl, hbF, hbFi, hni, hsub, hr, hlen, hcell, hback⟩ := hs.take_out (W := 2) (by
        intro y hy
        rcases List.mem_append.1 hy with hy | hy
        · exact TOrigin.wds _ y hy
        · rw [← List.map_cons] at hy; exact TOrigin.wds _ y hy) (by omega) hn
      have el : ((TOrigin.markL (xs.take j) k).map TOrigin.d).length = j := by rw [List.length_map, TOrigin.markL_eq, mkL_length, List.length_take]; omega
      rw [el] at hcell hback
      have e1 : TOrigin.cnL (xs.take (j + 1)) = TOrigin.cnL (xs.take j) + TOrigin.cn xs[j] := by rw [TOrigin.cnL_eq, TOrigin.cnL_eq]; exact cnS_take_succ xs j hlt
      have e2 : TOrigin.cnL (xs.take (j + 1)) ≤ TOrigin.cnL xs := by rw [TOrigin.cnL_eq, TOrigin.cnL_eq]; exact cnS_take_le xs (j + 1)
      have e3 : TOrigin.cn xs[j] = 2 := TOrigin.cn_eq _
      obtain ⟨kk, hkk⟩ : ∃ kk : Int, kk = k + ((TOrigin.cnL (xs.take j) : Nat) : Int) := ⟨_, rfl⟩
      rw [← hkk]
      have k0 : 0 ≤ kk := by omega
      have k1 : kk + 2 ≤ 1099511627776 := by have := H1.out; rw [e3] at e1; omega
      have HE1 := Lib.hid e1
      have HE3 := Lib.hid e3
      have HK := Lib.hid hkk
      have HB := Lib.hid hback
      have HS := Lib.hid hsub
      clear e1 e2 e3 hkk hback hsub ed el hs h hlen
      obtain ⟨rfl, hF, _, _⟩ := TOrigin.open_ hr
      clear hr
      subst hF
      have T0 : Trk wr wr b (off + j * 2) (off + j * 2 + 2) _ := Trk.start (hpr b hbF) (fun q hq => hpr q (HS.out q hq))
      have C0 := Lib.hid hcell
      clear hcell hni
      have c0_0 : wr.cell? ⟨b, off + j * 2, none⟩ = _ := C0.out 0 _ rfl
      have c0_1 := C0.out 1 _ rfl
      have z0 := T0.here.free
      go_wp2_with fail
      go_roundw
      case rel =>
        refine ⟨j + 1, by omega, by go_num, int_eq (by have h1 := HE1.out; have h2 := HE3.out; have h3 := HK.out; rw [h2] at h1; omega), ?_, Trk.plains (Trk.set (Trk.set T0 0 (by omega) _) 1 (by omega) _) hpr, hoff.trans (Off.sub (Trk.off (Trk.set (Trk.set T0 0 (by omega) _) 1 (by omega) _)) (fun q hq => by rcases List.mem_cons.1 hq with rfl | hq; exact hbF; exact HS.out q hq))⟩
        have hm : TOrigin.markL (xs.take (j + 1)) k = TOrigin.markL (xs.take j) k ++ [TOrigin.mark xs[j] kk] := by
          rw [TOrigin.markL_eq, TOrigin.markL_eq, mkL_take_succ xs j k hlt, HK.out, TOrigin.cnL_eq]
        rw [hm, List.map_append, List.append_assoc]
        refine HB.out _ (TOrigin.d (TOrigin.mark xs[j] kk)) _ (by simp) ?_ (CellsAt.setAt (CellsAt.setAt C0.out 0 (by simp) _) 1 (by simp) _) (Trk.set (Trk.set T0 0 (by omega) _) 1 (by omega) _)
        simp only [TOrigin.mark_eq, TOrigin.d]
        rw [rep_agg]
        exact repL_of (mk_cons (mk_intE (i64_mid (by omega) (by omega)) (by first | rfl | omega)) (mk_cons (mk_intE (i64_mid (by omega) (by omega)) (by first | rfl | omega)) mk_nil)) rfl (by first | rfl | simp only [List.nil_append, List.append_nil, List.append_assoc])
      case measure => simp [intOf]; omega
    · have hj' : j = xs.length := by omega
      subst hj'
      rw [List.take_of_length_le (Nat.le_refl _), List.drop_of_length_le (Nat.le_refl _)] at hs
      rw [List.take_of_length_le (Nat.le_refl _)]
      have HQ := Lib.hid hs
      clear hs
      go_wp2_with fail
      go_ret
      exact ⟨rfl, by have := HQ.out; simpa using this, hpr, hoff⟩
set_option maxHeartbeats 4000000 in
set_option maxRecDepth 100000 in
theorem heldOriginS_run (w : World) (v : Value) (xs : List TOrigin) (F : List Nat) (k : Int) (h : SlAt w v ((TOrigin.markL xs k).map TOrigin.d) F) (h0 : 0 ≤ k) (h1 : k + ((TOrigin.cnL xs : Nat) : Int) ≤ 1099511627776) :
    Calls Tryz.prog 120 #[v, .int .i64 k] w fun e w' => e = .returned (.int .i64 (k + ((TOrigin.cnL xs : Nat) : Int))) ∧ Below w.heap.size w w' := by
  obtain ⟨A, c, rfl, hc, hcm⟩ := h.form
  have hl : ((TOrigin.markL xs k).map TOrigin.d).length = xs.length := by rw [List.length_map, TOrigin.markL_eq, mkL_length]
  rw [hl] at h hc ⊢
  have H1 := Lib.hid h1
  have HS := Lib.hid h
  clear h1 hl h
  go_enter Tryz.func120, Tryz.ntmps120
  go_wp2_with fail
  go_loopw [1, 5] (fun kk i wr => ∃ j : Nat, j ≤ xs.length ∧ i = .int .i64 j ∧ kk = .int .i64 (k + ((TOrigin.cnL (xs.take j) : Nat) : Int)) ∧ Below w.heap.size w wr) (fun _ i _ => xs.length - (intOf i).toNat)
  case atStart => exact ⟨0, Nat.zero_le _, rfl, int_eq (by rw [List.take_zero, TOrigin.cnL_eq]; simp [cnS]), Below.refl _ _⟩
  case round =>
    obtain ⟨j, hj, rfl, rfl, hb⟩ := hrel
    by_cases hlt : j < xs.length
    · have hs := HS.out.below hb
      obtain ⟨b, off, ys, Fi, rfl, hbl, _, hr, hlen, _, hcell⟩ := hs.at_ (W := 2) (i := j) (by
        rw [TOrigin.markL_eq]; exact TOrigin.wds _) (by rw [List.length_map, TOrigin.markL_eq, mkL_length]; exact hlt)
      have e0 : ((TOrigin.markL xs k).map TOrigin.d)[j]'(by rw [List.length_map, TOrigin.markL_eq, mkL_length]; exact hlt) = TOrigin.d (TOrigin.mark xs[j] (k + ((TOrigin.cnL (xs.take j) : Nat) : Int))) := by
        rw [List.getElem_map]
        congr 1
        exact (List.getElem_of_eq (TOrigin.markL_eq xs k) _).trans ((mkL_get xs j k hlt).trans (by rw [TOrigin.cnL_eq]))
      rw [e0] at hr
      have e1 : TOrigin.cnL (xs.take (j + 1)) = TOrigin.cnL (xs.take j) + TOrigin.cn xs[j] := by rw [TOrigin.cnL_eq, TOrigin.cnL_eq]; exact cnS_take_succ xs j hlt
      have e2 : TOrigin.cnL (xs.take (j + 1)) ≤ TOrigin.cnL xs := by rw [TOrigin.cnL_eq, TOrigin.cnL_eq]; exact cnS_take_le xs (j + 1)
      have e3 : TOrigin.cn xs[j] = 2 := TOrigin.cn_eq _
      obtain ⟨kk, hkk⟩ : ∃ kk : Int, kk = k + ((TOrigin.cnL (xs.take j) : Nat) : Int) := ⟨_, rfl⟩
      rw [← hkk] at hr ⊢
      have k0 : 0 ≤ kk := by omega
      have k1 : kk + 2 ≤ 1099511627776 := by have := H1.out; rw [e3] at e1; omega
      have HE1 := Lib.hid e1
      have HE3 := Lib.hid e3
      have HK := Lib.hid hkk
      clear e0 e1 e2 e3 hkk hs hlen
      rw [TOrigin.mark_eq] at hr
      obtain ⟨rfl, _, _, _⟩ := TOrigin.open_ hr
      clear hr
      have c0 : wr.cell? ⟨b, off + j * 2, none⟩ = some (.int .i64 (kk)) := hcell 0 _ rfl
      have c1 : wr.cell? ⟨b, off + j * 2 + 1, none⟩ = some (.int .i64 (kk + 1)) := hcell 1 _ rfl
      clear hcell
      have D0 := Below.refl wr.heap.size wr
      go_wp2_with fail
      go_roundw
      case rel => exact ⟨j + 1, by omega, by go_num, int_eq (by have h1 := HE1.out; have h2 := HE3.out; have h3 := HK.out; rw [h2] at h1; omega), bnext hb D0⟩
      case measure => simp [intOf]; omega
    · have hj' : j = xs.length := by omega
      subst hj'
      rw [List.take_of_length_le (Nat.le_refl _)]
      go_wp2_with fail
      go_ret
      exact ⟨rfl, hb⟩
end Go.Proofs.YtbknilpmpjjfpaaGreat
/- The laws' marks written into slices of Row, and their test. Conditions: the marks are numbers between 0 and 1099511627776. Written by a program of mine. -/
set_option linter.unusedSimpArgs false
set_option linter.unusedVariables false
namespace Go.Proofs.YtbknilpmpjjfpaaGreat
open Go.RowKit
theorem TRow.wd_ (x : TRow) : wd x.d = 2 := by simp [TRow.d, wd, wdL]
theorem TRow.wds (xs : List TRow) : ∀ d ∈ xs.map TRow.d, wd d = 2 := by
  intro d hd
  obtain ⟨x, _, rfl⟩ := List.mem_map.1 hd
  exact x.wd_
theorem TRow.open_ {w : World} {x : TRow} {cs : List Value} {F : List Nat} (h : Rep w x.d cs F) :
    ∃ (A0 : Option Addr) (c0 : Nat) (F0 : List Nat) (A1 : Option Addr) (c1 : Nat) (F1 : List Nat), cs = [.slice A0 x.cells.length c0, .slice A1 x.from_.length c1] ∧ F = F0 ++ F1 ∧ SlAt w (.slice A0 x.cells.length c0) (x.cells.map D.int) F0 ∧ SlAt w (.slice A1 x.from_.length c1) (x.from_.map TOrigin.d) F1 := by
  simp only [TRow.d, rep_agg, repL_cons, repL_nil, rep_int, rep_bool, rep_str, rep_sl, List.length_map] at h
  obtain ⟨_, _, F0, _, rfl, rfl, ⟨A0, c0, rfl, q0⟩, ⟨_, _, F1, _, rfl, rfl, ⟨A1, c1, rfl, q1⟩, ⟨rfl, rfl⟩⟩⟩ := h
  exact ⟨A0, c0, F0, A1, c1, F1, rfl, by simp, q0, q1⟩
set_option maxHeartbeats 4000000 in
set_option maxRecDepth 100000 in
theorem markRowS_run (w : World) (v : Value) (xs : List TRow) (F : List Nat) (k : Int) (h : SlAt w v (xs.map TRow.d) F) (hn : F.Nodup) (hp : ∀ q ∈ F, Plain w q) (h0 : 0 ≤ k) (h1 : k + ((TRow.cnL xs : Nat) : Int) ≤ 1099511627776) :
    Calls Tryz.prog 88 #[v, .int .i64 k] w fun e w' => e = .returned (.int .i64 (k + ((TRow.cnL xs : Nat) : Int))) ∧ SlAt w' v ((TRow.markL xs k).map TRow.d) F ∧ (∀ q ∈ F, Plain w' q) ∧ Off F w w' := by
  obtain ⟨A, c, rfl, hc, hcm⟩ := h.form
  rw [List.length_map] at h hc ⊢
  have hP := Lib.hid hp
  have H1 := Lib.hid h1
  clear hp h1
  go_enter Tryz.func88, Tryz.ntmps88
  go_wp2_with fail
  go_loopw [1, 5] (fun kk i wr => ∃ j : Nat, j ≤ xs.length ∧ i = .int .i64 j ∧ kk = .int .i64 (k + ((TRow.cnL (xs.take j) : Nat) : Int)) ∧ SlAt wr (.slice A xs.length c) ((TRow.markL (xs.take j) k).map TRow.d ++ (xs.drop j).map TRow.d) F ∧ (∀ q ∈ F, Plain wr q) ∧ Off F w wr) (fun _ i _ => xs.length - (intOf i).toNat)
  case atStart => exact ⟨0, Nat.zero_le _, rfl, int_eq (by rw [List.take_zero, TRow.cnL_eq]; simp [cnS]), by rw [List.take_zero, List.drop_zero, TRow.markL_eq]; exact h, hP.out, Off.refl _ _⟩
  case round =>
    obtain ⟨j, hj, rfl, rfl, hs, hpr, hoff⟩ := hrel
    by_cases hlt : j < xs.length
    · have ed : xs.drop j = xs[j] :: xs.drop (j + 1) := List.drop_eq_getElem_cons hlt
      rw [ed, List.map_cons] at hs
      obtain ⟨b, off, ys, Fi, rfl, hbF, hbFi, hni, hsub, hr, hlen, hcell, hback⟩ := hs.take_out (W := 2) (by
        intro y hy
        rcases List.mem_append.1 hy with hy | hy
        · exact TRow.wds _ y hy
        · rw [← List.map_cons] at hy; exact TRow.wds _ y hy) (by omega) hn
      have el : ((TRow.markL (xs.take j) k).map TRow.d).length = j := by rw [List.length_map, TRow.markL_eq, mkL_length, List.length_take]; omega
      rw [el] at hcell hback
      have e1 : TRow.cnL (xs.take (j + 1)) = TRow.cnL (xs.take j) + TRow.cn xs[j] := by rw [TRow.cnL_eq, TRow.cnL_eq]; exact cnS_take_succ xs j hlt
      have e2 : TRow.cnL (xs.take (j + 1)) ≤ TRow.cnL xs := by rw [TRow.cnL_eq, TRow.cnL_eq]; exact cnS_take_le xs (j + 1)
      have e3 : TRow.cn xs[j] = intCnL xs[j].cells + TOrigin.cnL xs[j].from_ := TRow.cn_eq _
      obtain ⟨kk, hkk⟩ : ∃ kk : Int, kk = k + ((TRow.cnL (xs.take j) : Nat) : Int) := ⟨_, rfl⟩
      rw [← hkk]
      have k0 : 0 ≤ kk := by omega
      have k1 : kk + ((intCnL xs[j].cells : Nat) : Int) + ((TOrigin.cnL xs[j].from_ : Nat) : Int) ≤ 1099511627776 := by have := H1.out; rw [e3] at e1; omega
      have HE1 := Lib.hid e1
      have HE3 := Lib.hid e3
      have HK := Lib.hid hkk
      have HB := Lib.hid hback
      have HS := Lib.hid hsub
      clear e1 e2 e3 hkk hback hsub ed el hs h hlen
      obtain ⟨A0, c0, F0, A1, c1, F1, rfl, hF, q0, q1⟩ := TRow.open_ hr
      clear hr
      have hF := hF.symm
      subst hF
      obtain ⟨da0, db0, dn0, dr0⟩ := nodup_two hni
      have dn1 := dr0
      have ns0 : b ∉ F0 := fun hm => hbFi (by simp [hm])
      have ns1 : b ∉ F1 := fun hm => hbFi (by simp [hm])
      have T0 : Trk wr wr b (off + j * 2) (off + j * 2 + 2) _ := Trk.start (hpr b hbF) (fun q hq => hpr q (HS.out q hq))
      have C0 := Lib.hid hcell
      clear hcell hni
      have Q0_0 := Lib.hid q0
      have P0_0 : Hid (∀ q ∈ F0, Plain wr q) := Lib.hid (fun q hq => hpr q (HS.out q (by simp [hq])))
      clear q0
      have Q1_0 := Lib.hid q1
      have P1_0 : Hid (∀ q ∈ F1, Plain wr q) := Lib.hid (fun q hq => hpr q (HS.out q (by simp [hq])))
      clear q1
      have c0_0 : wr.cell? ⟨b, off + j * 2, none⟩ = _ := C0.out 0 _ rfl
      have c0_1 := C0.out 1 _ rfl
      have z0 := T0.here.free
      go_wp2_with fail
      refine (markIntS_run _ _ xs[j].cells F0 _ Q0_0.out dn0 (fun q hq => P0_0.out q hq) (by omega) (by omega)).mono ?_
      rintro e w1 ⟨rfl, q0, p0, hb1⟩
      have T1 := Trk.step T0 hb1 (fun q hq => by simp [hq]) ns0 p0
      have C1 := Lib.hid (CellsAt.step C0.out hb1 ns0)
      have Q0_1 := Lib.hid q0
      have P0_1 := Lib.hid p0
      clear q0 p0
      have dq : ∀ x ∈ F1, x ∉ F0 := fun x hx hm => db0 x (by simp [hx]) hm
      have Q1_1 := Lib.hid (Off.rep hb1 Q1_0.out dq)
      have P1_1 : Hid (∀ q ∈ F1, Plain w1 q) := Lib.hid (fun x hx => Off.plain hb1 ((fun q hq => P1_0.out q hq) x hx) (dq x hx))
      clear dq
      clear hb1 c0_0 c0_1 z0
      have c1_0 : w1.cell? ⟨b, off + j * 2, none⟩ = _ := C1.out 0 _ rfl
      have c1_1 := C1.out 1 _ rfl
      have z1 := T1.here.free
      go_wp2_with fail
      refine (markOriginS_run _ _ xs[j].from_ F1 _ Q1_1.out dn1 (fun q hq => P1_1.out q hq) (by omega) (by omega)).mono ?_
      rintro e w2 ⟨rfl, q1, p1, hb2⟩
      have T2 := Trk.step T1 hb2 (fun q hq => by simp [hq]) ns1 p1
      have C2 := Lib.hid (CellsAt.step C1.out hb2 ns1)
      have dq : ∀ x ∈ F0, x ∉ F1 := fun x hx hm => da0 x hx (by simp [hm])
      have Q0_2 := Lib.hid (Off.rep hb2 Q0_1.out dq)
      have P0_2 : Hid (∀ q ∈ F0, Plain w2 q) := Lib.hid (fun x hx => Off.plain hb2 ((fun q hq => P0_1.out q hq) x hx) (dq x hx))
      clear dq
      have Q1_2 := Lib.hid q1
      have P1_2 := Lib.hid p1
      clear q1 p1
      clear hb2 c1_0 c1_1 z1
      have c2_0 : w2.cell? ⟨b, off + j * 2, none⟩ = _ := C2.out 0 _ rfl
      have c2_1 := C2.out 1 _ rfl
      have z2 := T2.here.free
      go_wp2_with fail
      go_roundw
      case rel =>
        refine ⟨j + 1, by omega, by go_num, int_eq (by have h1 := HE1.out; have h2 := HE3.out; have h3 := HK.out; rw [h2] at h1; omega), ?_, Trk.plains T2 hpr, hoff.trans (Off.sub (Trk.off T2) (fun q hq => by rcases List.mem_cons.1 hq with rfl | hq; exact hbF; exact HS.out q hq))⟩
        have hm : TRow.markL (xs.take (j + 1)) k = TRow.markL (xs.take j) k ++ [TRow.mark xs[j] kk] := by
          rw [TRow.markL_eq, TRow.markL_eq, mkL_take_succ xs j k hlt, HK.out, TRow.cnL_eq]
        rw [hm, List.map_append, List.append_assoc]
        refine HB.out _ (TRow.d (TRow.mark xs[j] kk)) _ (by simp) ?_ C2.out T2
        simp only [TRow.mark_eq, TRow.d]
        rw [rep_agg]
        exact repL_of (mk_cons (mk_slE Q0_2.out rfl) (mk_cons (mk_slE Q1_2.out rfl) mk_nil)) rfl (by first | rfl | simp only [List.nil_append, List.append_nil, List.append_assoc])
      case measure => simp [intOf]; omega
    · have hj' : j = xs.length := by omega
      subst hj'
      rw [List.take_of_length_le (Nat.le_refl _), List.drop_of_length_le (Nat.le_refl _)] at hs
      rw [List.take_of_length_le (Nat.le_refl _)]
      have HQ := Lib.hid hs
      clear hs
      go_wp2_with fail
      go_ret
      exact ⟨rfl, by have := HQ.out; simpa using this, hpr, hoff⟩
set_option maxHeartbeats 4000000 in
set_option maxRecDepth 100000 in
theorem heldRowS_run (w : World) (v : Value) (xs : List TRow) (F : List Nat) (k : Int) (h : SlAt w v ((TRow.markL xs k).map TRow.d) F) (h0 : 0 ≤ k) (h1 : k + ((TRow.cnL xs : Nat) : Int) ≤ 1099511627776) :
    Calls Tryz.prog 94 #[v, .int .i64 k] w fun e w' => e = .returned (.int .i64 (k + ((TRow.cnL xs : Nat) : Int))) ∧ Below w.heap.size w w' := by
  obtain ⟨A, c, rfl, hc, hcm⟩ := h.form
  have hl : ((TRow.markL xs k).map TRow.d).length = xs.length := by rw [List.length_map, TRow.markL_eq, mkL_length]
  rw [hl] at h hc ⊢
  have H1 := Lib.hid h1
  have HS := Lib.hid h
  clear h1 hl h
  go_enter Tryz.func94, Tryz.ntmps94
  go_wp2_with fail
  go_loopw [1, 5] (fun kk i wr => ∃ j : Nat, j ≤ xs.length ∧ i = .int .i64 j ∧ kk = .int .i64 (k + ((TRow.cnL (xs.take j) : Nat) : Int)) ∧ Below w.heap.size w wr) (fun _ i _ => xs.length - (intOf i).toNat)
  case atStart => exact ⟨0, Nat.zero_le _, rfl, int_eq (by rw [List.take_zero, TRow.cnL_eq]; simp [cnS]), Below.refl _ _⟩
  case round =>
    obtain ⟨j, hj, rfl, rfl, hb⟩ := hrel
    by_cases hlt : j < xs.length
    · have hs := HS.out.below hb
      obtain ⟨b, off, ys, Fi, rfl, hbl, _, hr, hlen, _, hcell⟩ := hs.at_ (W := 2) (i := j) (by
        rw [TRow.markL_eq]; exact TRow.wds _) (by rw [List.length_map, TRow.markL_eq, mkL_length]; exact hlt)
      have e0 : ((TRow.markL xs k).map TRow.d)[j]'(by rw [List.length_map, TRow.markL_eq, mkL_length]; exact hlt) = TRow.d (TRow.mark xs[j] (k + ((TRow.cnL (xs.take j) : Nat) : Int))) := by
        rw [List.getElem_map]
        congr 1
        exact (List.getElem_of_eq (TRow.markL_eq xs k) _).trans ((mkL_get xs j k hlt).trans (by rw [TRow.cnL_eq]))
      rw [e0] at hr
      have e1 : TRow.cnL (xs.take (j + 1)) = TRow.cnL (xs.take j) + TRow.cn xs[j] := by rw [TRow.cnL_eq, TRow.cnL_eq]; exact cnS_take_succ xs j hlt
      have e2 : TRow.cnL (xs.take (j + 1)) ≤ TRow.cnL xs := by rw [TRow.cnL_eq, TRow.cnL_eq]; exact cnS_take_le xs (j + 1)
      have e3 : TRow.cn xs[j] = intCnL xs[j].cells + TOrigin.cnL xs[j].from_ := TRow.cn_eq _
      obtain ⟨kk, hkk⟩ : ∃ kk : Int, kk = k + ((TRow.cnL (xs.take j) : Nat) : Int) := ⟨_, rfl⟩
      rw [← hkk] at hr ⊢
      have k0 : 0 ≤ kk := by omega
      have k1 : kk + ((intCnL xs[j].cells : Nat) : Int) + ((TOrigin.cnL xs[j].from_ : Nat) : Int) ≤ 1099511627776 := by have := H1.out; rw [e3] at e1; omega
      have HE1 := Lib.hid e1
      have HE3 := Lib.hid e3
      have HK := Lib.hid hkk
      clear e0 e1 e2 e3 hkk hs hlen
      rw [TRow.mark_eq] at hr
      obtain ⟨A0, c0, F0, A1, c1, F1, rfl, _, q0, q1⟩ := TRow.open_ hr
      clear hr
      have Q0 : Hid (SlAt wr (.slice A0 (intMarkL xs[j].cells (kk)).length c0) ((intMarkL xs[j].cells (kk)).map D.int) F0) := Lib.hid q0
      clear q0
      have Q1 : Hid (SlAt wr (.slice A1 (TOrigin.markL xs[j].from_ (kk + ((intCnL xs[j].cells : Nat) : Int))).length c1) ((TOrigin.markL xs[j].from_ (kk + ((intCnL xs[j].cells : Nat) : Int))).map TOrigin.d) F1) := Lib.hid q1
      clear q1
      have c0 : wr.cell? ⟨b, off + j * 2, none⟩ = some (.slice A0 (intMarkL xs[j].cells (kk)).length c0) := hcell 0 _ rfl
      have c1 : wr.cell? ⟨b, off + j * 2 + 1, none⟩ = some (.slice A1 (TOrigin.markL xs[j].from_ (kk + ((intCnL xs[j].cells : Nat) : Int))).length c1) := hcell 1 _ rfl
      clear hcell
      have D0 := Below.refl wr.heap.size wr
      go_wp2_with fail
      refine (heldIntS_run _ _ xs[j].cells F0 _ (Q0.out.below D0) (by omega) (by omega)).mono ?_
      rintro e w1 ⟨rfl, hw1⟩
      have D1 := bnext D0 hw1
      replace hbl : b < w1.heap.size := Nat.lt_of_lt_of_le hbl hw1.size
      have hd1 : decide (kk + ((intCnL xs[j].cells : Nat) : Int) < 0) = false := by simp; omega
      replace c1 := cell_next hw1 c1
      go_wp2_with fail
      refine (heldOriginS_run _ _ xs[j].from_ F1 _ (Q1.out.below D1) (by omega) (by omega)).mono ?_
      rintro e w2 ⟨rfl, hw2⟩
      have D2 := bnext D1 hw2
      replace hbl : b < w2.heap.size := Nat.lt_of_lt_of_le hbl hw2.size
      have hd2 : decide (kk + ((intCnL xs[j].cells : Nat) : Int) + ((TOrigin.cnL xs[j].from_ : Nat) : Int) < 0) = false := by simp; omega
      go_wp2_with fail
      go_roundw
      case rel => exact ⟨j + 1, by omega, by go_num, int_eq (by have h1 := HE1.out; have h2 := HE3.out; have h3 := HK.out; rw [h2] at h1; omega), bnext hb D2⟩
      case measure => simp [intOf]; omega
    · have hj' : j = xs.length := by omega
      subst hj'
      rw [List.take_of_length_le (Nat.le_refl _)]
      go_wp2_with fail
      go_ret
      exact ⟨rfl, hb⟩
end Go.Proofs.YtbknilpmpjjfpaaGreat
/- The laws' marks written into slices of Value, and their test. Conditions: the marks are numbers between 0 and 1099511627776. Written by a program of mine. -/
set_option linter.unusedSimpArgs false
set_option linter.unusedVariables false
namespace Go.Proofs.YtbknilpmpjjfpaaGreat
open Go.RowKit
theorem TValue.wd_ (x : TValue) : wd x.d = 7 := by simp [TValue.d_eq, wd, wdL]
theorem TValue.wds (xs : List TValue) : ∀ d ∈ xs.map TValue.d, wd d = 7 := by
  intro d hd
  obtain ⟨x, _, rfl⟩ := List.mem_map.1 hd
  exact x.wd_
theorem TValue.open_ {w : World} {x : TValue} {cs : List Value} {F : List Nat} (h : Rep w x.d cs F) :
    ∃ (A4 : Option Addr) (c4 : Nat) (F4 : List Nat) (A5 : Option Addr) (c5 : Nat) (F5 : List Nat) (A6 : Option Addr) (c6 : Nat) (F6 : List Nat), cs = [.int .i64 x.kind, .int .i64 x.n, .int .i64 x.step, .string x.text, .slice A4 x.list.length c4, .slice A5 x.columns.length c5, .slice A6 x.rows.length c6] ∧ F = F4 ++ (F5 ++ F6) ∧ I64 x.kind ∧ I64 x.n ∧ I64 x.step ∧ Fits x.text ∧ SlAt w (.slice A4 x.list.length c4) (x.list.map TValue.d) F4 ∧ SlAt w (.slice A5 x.columns.length c5) (x.columns.map D.str) F5 ∧ SlAt w (.slice A6 x.rows.length c6) (x.rows.map TRow.d) F6 := by
  simp only [TValue.d_eq, rep_agg, repL_cons, repL_nil, rep_int, rep_bool, rep_str, rep_sl, List.length_map] at h
  obtain ⟨_, _, _, _, rfl, rfl, ⟨rfl, rfl, i0⟩, ⟨_, _, _, _, rfl, rfl, ⟨rfl, rfl, i1⟩, ⟨_, _, _, _, rfl, rfl, ⟨rfl, rfl, i2⟩, ⟨_, _, _, _, rfl, rfl, ⟨rfl, rfl, i3⟩, ⟨_, _, F4, _, rfl, rfl, ⟨A4, c4, rfl, q4⟩, ⟨_, _, F5, _, rfl, rfl, ⟨A5, c5, rfl, q5⟩, ⟨_, _, F6, _, rfl, rfl, ⟨A6, c6, rfl, q6⟩, ⟨rfl, rfl⟩⟩⟩⟩⟩⟩⟩⟩ := h
  exact ⟨A4, c4, F4, A5, c5, F5, A6, c6, F6, rfl, by simp, i0, i1, i2, i3, q4, q5, q6⟩
set_option maxHeartbeats 4000000 in
set_option maxRecDepth 100000 in
theorem markValueS_core (N0 : Nat) (ihS : ∀ (w : World) (v : Value) (xs : List TValue) (F : List Nat) (k : Int) (hN : nd (.sl (xs.map TValue.d)) < N0) (h : SlAt w v (xs.map TValue.d) F) (hn : F.Nodup) (hp : ∀ q ∈ F, Plain w q) (h0 : 0 ≤ k) (h1 : k + ((TValue.cnL xs : Nat) : Int) ≤ 1099511627776), Calls Tryz.prog 86 #[v, .int .i64 k] w fun e w' => e = .returned (.int .i64 (k + ((TValue.cnL xs : Nat) : Int))) ∧ SlAt w' v ((TValue.markL xs k).map TValue.d) F ∧ (∀ q ∈ F, Plain w' q) ∧ Off F w w') (w : World) (v : Value) (xs : List TValue) (F : List Nat) (k : Int) (hN : nd (.sl (xs.map TValue.d)) ≤ N0) (h : SlAt w v (xs.map TValue.d) F) (hn : F.Nodup) (hp : ∀ q ∈ F, Plain w q) (h0 : 0 ≤ k) (h1 : k + ((TValue.cnL xs : Nat) : Int) ≤ 1099511627776) :
    Calls Tryz.prog 86 #[v, .int .i64 k] w fun e w' => e = .returned (.int .i64 (k + ((TValue.cnL xs : Nat) : Int))) ∧ SlAt w' v ((TValue.markL xs k).map TValue.d) F ∧ (∀ q ∈ F, Plain w' q) ∧ Off F w w' := by
  have HI := Lib.hid ihS
  clear ihS
  have HN := Lib.hid hN
  clear hN
  obtain ⟨A, c, rfl, hc, hcm⟩ := h.form
  rw [List.length_map] at h hc ⊢
  have hP := Lib.hid hp
  have H1 := Lib.hid h1
  clear hp h1
  go_enter Tryz.func86, Tryz.ntmps86
  go_wp2_with fail
  go_loopw [1, 5] (fun kk i wr => ∃ j : Nat, j ≤ xs.length ∧ i = .int .i64 j ∧ kk = .int .i64 (k + ((TValue.cnL (xs.take j) : Nat) : Int)) ∧ SlAt wr (.slice A xs.length c) ((TValue.markL (xs.take j) k).map TValue.d ++ (xs.drop j).map TValue.d) F ∧ (∀ q ∈ F, Plain wr q) ∧ Off F w wr) (fun _ i _ => xs.length - (intOf i).toNat)
  case atStart => exact ⟨0, Nat.zero_le _, rfl, int_eq (by rw [List.take_zero, TValue.cnL_eq]; simp [cnS]), by rw [List.take_zero, List.drop_zero, TValue.markL_eq]; exact h, hP.out, Off.refl _ _⟩
  case round =>
    obtain ⟨j, hj, rfl, rfl, hs, hpr, hoff⟩ := hrel
    by_cases hlt : j < xs.length
    · have ed : xs.drop j = xs[j] :: xs.drop (j + 1) := List.drop_eq_getElem_cons hlt
      rw [ed, List.map_cons] at hs
      obtain ⟨b, off, ys, Fi, rfl, hbF, hbFi, hni, hsub, hr, hlen, hcell, hback⟩ := hs.take_out (W := 7) (by
        intro y hy
        rcases List.mem_append.1 hy with hy | hy
        · exact TValue.wds _ y hy
        · rw [← List.map_cons] at hy; exact TValue.wds _ y hy) (by omega) hn
      have el : ((TValue.markL (xs.take j) k).map TValue.d).length = j := by rw [List.length_map, TValue.markL_eq, mkL_length, List.length_take]; omega
      rw [el] at hcell hback
      have e1 : TValue.cnL (xs.take (j + 1)) = TValue.cnL (xs.take j) + TValue.cn xs[j] := by rw [TValue.cnL_eq, TValue.cnL_eq]; exact cnS_take_succ xs j hlt
      have e2 : TValue.cnL (xs.take (j + 1)) ≤ TValue.cnL xs := by rw [TValue.cnL_eq, TValue.cnL_eq]; exact cnS_take_le xs (j + 1)
      have e3 : TValue.cn xs[j] = 4 + TValue.cnL xs[j].list + strCnL xs[j].columns + TRow.cnL xs[j].rows := TValue.cn_eq _
      obtain ⟨kk, hkk⟩ : ∃ kk : Int, kk = k + ((TValue.cnL (xs.take j) : Nat) : Int) := ⟨_, rfl⟩
      rw [← hkk]
      have k0 : 0 ≤ kk := by omega
      have k1 : kk + 4 + ((TValue.cnL xs[j].list : Nat) : Int) + ((strCnL xs[j].columns : Nat) : Int) + ((TRow.cnL xs[j].rows : Nat) : Int) ≤ 1099511627776 := by have := H1.out; rw [e3] at e1; omega
      have HE1 := Lib.hid e1
      have HE3 := Lib.hid e3
      have HK := Lib.hid hkk
      have HB := Lib.hid hback
      have HS := Lib.hid hsub
      clear e1 e2 e3 hkk hback hsub ed el hs h hlen
      obtain ⟨A4, c4, F4, A5, c5, F5, A6, c6, F6, rfl, hF, _, _, _, _, q4, q5, q6⟩ := TValue.open_ hr
      clear hr
      have hlt' : nd (.sl (xs[j].list.map TValue.d)) < N0 := by
        have h1 := HN.out
        have h2 := ndL_get (xs.map TValue.d) j (by simpa using hlt)
        simp only [nd, List.getElem_map] at h1 h2
        rw [TValue.d_eq] at h2
        simp only [nd, ndL] at h2 ⊢
        omega
      have hF := hF.symm
      subst hF
      obtain ⟨da4, db4, dn4, dr4⟩ := nodup_two hni
      obtain ⟨da5, db5, dn5, dr5⟩ := nodup_two dr4
      have dn6 := dr5
      have ns4 : b ∉ F4 := fun hm => hbFi (by simp [hm])
      have ns5 : b ∉ F5 := fun hm => hbFi (by simp [hm])
      have ns6 : b ∉ F6 := fun hm => hbFi (by simp [hm])
      have T0 : Trk wr wr b (off + j * 7) (off + j * 7 + 7) _ := Trk.start (hpr b hbF) (fun q hq => hpr q (HS.out q hq))
      have C0 := Lib.hid hcell
      clear hcell hni
      have Q4_0 := Lib.hid q4
      have P4_0 : Hid (∀ q ∈ F4, Plain wr q) := Lib.hid (fun q hq => hpr q (HS.out q (by simp [hq])))
      clear q4
      have Q5_0 := Lib.hid q5
      have P5_0 : Hid (∀ q ∈ F5, Plain wr q) := Lib.hid (fun q hq => hpr q (HS.out q (by simp [hq])))
      clear q5
      have Q6_0 := Lib.hid q6
      have P6_0 : Hid (∀ q ∈ F6, Plain wr q) := Lib.hid (fun q hq => hpr q (HS.out q (by simp [hq])))
      clear q6
      have c0_0 : wr.cell? ⟨b, off + j * 7, none⟩ = _ := C0.out 0 _ rfl
      have c0_1 := C0.out 1 _ rfl
      have c0_2 := C0.out 2 _ rfl
      have c0_3 := C0.out 3 _ rfl
      have c0_4 := C0.out 4 _ rfl
      have c0_5 := C0.out 5 _ rfl
      have c0_6 := C0.out 6 _ rfl
      have z0 := T0.here.free
      go_wp2_with fail
      refine (markText_any _ _ (by omega)).mono ?_
      rintro e w1 ⟨rfl, hb1⟩
      have T1 := Trk.next (Trk.set (Trk.set (Trk.set T0 0 (by omega) _) 1 (by omega) _) 2 (by omega) _) hb1
      have C1 := Lib.hid (CellsAt.next (CellsAt.setAt (CellsAt.setAt (CellsAt.setAt C0.out 0 (by simp) _) 1 (by simp) _) 2 (by simp) _) hb1)
      have Q4_1 := Lib.hid (Rep.below (Rep.set (Rep.set (Rep.set Q4_0.out ns4 _) ns4 _) ns4 _) hb1)
      have P4_1 := Lib.hid (fun q hq => Plain.next ((fun q hq => Plain.set (Plain.set (Plain.set (P4_0.out q hq) _ _) _ _) _ _) q hq) hb1)
      have Q5_1 := Lib.hid (Rep.below (Rep.set (Rep.set (Rep.set Q5_0.out ns5 _) ns5 _) ns5 _) hb1)
      have P5_1 := Lib.hid (fun q hq => Plain.next ((fun q hq => Plain.set (Plain.set (Plain.set (P5_0.out q hq) _ _) _ _) _ _) q hq) hb1)
      have Q6_1 := Lib.hid (Rep.below (Rep.set (Rep.set (Rep.set Q6_0.out ns6 _) ns6 _) ns6 _) hb1)
      have P6_1 := Lib.hid (fun q hq => Plain.next ((fun q hq => Plain.set (Plain.set (Plain.set (P6_0.out q hq) _ _) _ _) _ _) q hq) hb1)
      clear hb1 c0_0 c0_1 c0_2 c0_3 c0_4 c0_5 c0_6 z0
      have c1_0 : w1.cell? ⟨b, off + j * 7, none⟩ = _ := C1.out 0 _ rfl
      have c1_1 := C1.out 1 _ rfl
      have c1_2 := C1.out 2 _ rfl
      have c1_3 := C1.out 3 _ rfl
      have c1_4 := C1.out 4 _ rfl
      have c1_5 := C1.out 5 _ rfl
      have c1_6 := C1.out 6 _ rfl
      have z1 := T1.here.free
      go_wp2_with fail
      refine (HI.out _ _ xs[j].list F4 _ hlt' (Rep.set Q4_1.out ns4 _) dn4 (fun q hq => Plain.set (P4_1.out q hq) _ _) (by omega) (by omega)).mono ?_
      rintro e w2 ⟨rfl, q4, p4, hb2⟩
      have T2 := Trk.step (Trk.set T1 3 (by omega) _) hb2 (fun q hq => by simp [hq]) ns4 p4
      have C2 := Lib.hid (CellsAt.step (CellsAt.setAt C1.out 3 (by simp) _) hb2 ns4)
      have Q4_2 := Lib.hid q4
      have P4_2 := Lib.hid p4
      clear q4 p4
      have dq : ∀ x ∈ F5, x ∉ F4 := fun x hx hm => db4 x (by simp [hx]) hm
      have Q5_2 := Lib.hid (Off.rep hb2 (Rep.set Q5_1.out ns5 _) dq)
      have P5_2 : Hid (∀ q ∈ F5, Plain w2 q) := Lib.hid (fun x hx => Off.plain hb2 ((fun q hq => Plain.set (P5_1.out q hq) _ _) x hx) (dq x hx))
      clear dq
      have dq : ∀ x ∈ F6, x ∉ F4 := fun x hx hm => db4 x (by simp [hx]) hm
      have Q6_2 := Lib.hid (Off.rep hb2 (Rep.set Q6_1.out ns6 _) dq)
      have P6_2 : Hid (∀ q ∈ F6, Plain w2 q) := Lib.hid (fun x hx => Off.plain hb2 ((fun q hq => Plain.set (P6_1.out q hq) _ _) x hx) (dq x hx))
      clear dq
      clear hb2 c1_0 c1_1 c1_2 c1_3 c1_4 c1_5 c1_6 z1
      have c2_0 : w2.cell? ⟨b, off + j * 7, none⟩ = _ := C2.out 0 _ rfl
      have c2_1 := C2.out 1 _ rfl
      have c2_2 := C2.out 2 _ rfl
      have c2_3 := C2.out 3 _ rfl
      have c2_4 := C2.out 4 _ rfl
      have c2_5 := C2.out 5 _ rfl
      have c2_6 := C2.out 6 _ rfl
      have z2 := T2.here.free
      go_wp2_with fail
      refine (markStringS_run _ _ xs[j].columns F5 _ Q5_2.out dn5 (fun q hq => P5_2.out q hq) (by omega) (by omega)).mono ?_
      rintro e w3 ⟨rfl, q5, p5, hb3⟩
      have T3 := Trk.step T2 hb3 (fun q hq => by simp [hq]) ns5 p5
      have C3 := Lib.hid (CellsAt.step C2.out hb3 ns5)
      have dq : ∀ x ∈ F4, x ∉ F5 := fun x hx hm => da4 x hx (by simp [hm])
      have Q4_3 := Lib.hid (Off.rep hb3 Q4_2.out dq)
      have P4_3 : Hid (∀ q ∈ F4, Plain w3 q) := Lib.hid (fun x hx => Off.plain hb3 ((fun q hq => P4_2.out q hq) x hx) (dq x hx))
      clear dq
      have Q5_3 := Lib.hid q5
      have P5_3 := Lib.hid p5
      clear q5 p5
      have dq : ∀ x ∈ F6, x ∉ F5 := fun x hx hm => db5 x (by simp [hx]) hm
      have Q6_3 := Lib.hid (Off.rep hb3 Q6_2.out dq)
      have P6_3 : Hid (∀ q ∈ F6, Plain w3 q) := Lib.hid (fun x hx => Off.plain hb3 ((fun q hq => P6_2.out q hq) x hx) (dq x hx))
      clear dq
      clear hb3 c2_0 c2_1 c2_2 c2_3 c2_4 c2_5 c2_6 z2
      have c3_0 : w3.cell? ⟨b, off + j * 7, none⟩ = _ := C3.out 0 _ rfl
      have c3_1 := C3.out 1 _ rfl
      have c3_2 := C3.out 2 _ rfl
      have c3_3 := C3.out 3 _ rfl
      have c3_4 := C3.out 4 _ rfl
      have c3_5 := C3.out 5 _ rfl
      have c3_6 := C3.out 6 _ rfl
      have z3 := T3.here.free
      go_wp2_with fail
      refine (markRowS_run _ _ xs[j].rows F6 _ Q6_3.out dn6 (fun q hq => P6_3.out q hq) (by omega) (by omega)).mono ?_
      rintro e w4 ⟨rfl, q6, p6, hb4⟩
      have T4 := Trk.step T3 hb4 (fun q hq => by simp [hq]) ns6 p6
      have C4 := Lib.hid (CellsAt.step C3.out hb4 ns6)
      have dq : ∀ x ∈ F4, x ∉ F6 := fun x hx hm => da4 x hx (by simp [hm])
      have Q4_4 := Lib.hid (Off.rep hb4 Q4_3.out dq)
      have P4_4 : Hid (∀ q ∈ F4, Plain w4 q) := Lib.hid (fun x hx => Off.plain hb4 ((fun q hq => P4_3.out q hq) x hx) (dq x hx))
      clear dq
      have dq : ∀ x ∈ F5, x ∉ F6 := fun x hx hm => da5 x hx (by simp [hm])
      have Q5_4 := Lib.hid (Off.rep hb4 Q5_3.out dq)
      have P5_4 : Hid (∀ q ∈ F5, Plain w4 q) := Lib.hid (fun x hx => Off.plain hb4 ((fun q hq => P5_3.out q hq) x hx) (dq x hx))
      clear dq
      have Q6_4 := Lib.hid q6
      have P6_4 := Lib.hid p6
      clear q6 p6
      clear hb4 c3_0 c3_1 c3_2 c3_3 c3_4 c3_5 c3_6 z3
      have c4_0 : w4.cell? ⟨b, off + j * 7, none⟩ = _ := C4.out 0 _ rfl
      have c4_1 := C4.out 1 _ rfl
      have c4_2 := C4.out 2 _ rfl
      have c4_3 := C4.out 3 _ rfl
      have c4_4 := C4.out 4 _ rfl
      have c4_5 := C4.out 5 _ rfl
      have c4_6 := C4.out 6 _ rfl
      have z4 := T4.here.free
      go_wp2_with fail
      go_roundw
      case rel =>
        refine ⟨j + 1, by omega, by go_num, int_eq (by have h1 := HE1.out; have h2 := HE3.out; have h3 := HK.out; rw [h2] at h1; omega), ?_, Trk.plains T4 hpr, hoff.trans (Off.sub (Trk.off T4) (fun q hq => by rcases List.mem_cons.1 hq with rfl | hq; exact hbF; exact HS.out q hq))⟩
        have hm : TValue.markL (xs.take (j + 1)) k = TValue.markL (xs.take j) k ++ [TValue.mark xs[j] kk] := by
          rw [TValue.markL_eq, TValue.markL_eq, mkL_take_succ xs j k hlt, HK.out, TValue.cnL_eq]
        rw [hm, List.map_append, List.append_assoc]
        refine HB.out _ (TValue.d (TValue.mark xs[j] kk)) _ (by simp) ?_ C4.out T4
        simp only [TValue.mark_eq, TValue.d_eq]
        rw [rep_agg]
        exact repL_of (mk_cons (mk_intE (i64_mid (by omega) (by omega)) (by first | rfl | omega)) (mk_cons (mk_intE (i64_mid (by omega) (by omega)) (by first | rfl | omega)) (mk_cons (mk_intE (i64_mid (by omega) (by omega)) (by first | rfl | omega)) (mk_cons (mk_strE (by omega) (by first | rfl | omega)) (mk_cons (mk_slE Q4_4.out rfl) (mk_cons (mk_slE Q5_4.out rfl) (mk_cons (mk_slE Q6_4.out rfl) mk_nil))))))) rfl (by first | rfl | simp only [List.nil_append, List.append_nil, List.append_assoc])
      case measure => simp [intOf]; omega
    · have hj' : j = xs.length := by omega
      subst hj'
      rw [List.take_of_length_le (Nat.le_refl _), List.drop_of_length_le (Nat.le_refl _)] at hs
      rw [List.take_of_length_le (Nat.le_refl _)]
      have HQ := Lib.hid hs
      clear hs
      go_wp2_with fail
      go_ret
      exact ⟨rfl, by have := HQ.out; simpa using this, hpr, hoff⟩
theorem markValueS_all (N0 : Nat) : ∀ (w : World) (v : Value) (xs : List TValue) (F : List Nat) (k : Int) (hN : nd (.sl (xs.map TValue.d)) ≤ N0) (h : SlAt w v (xs.map TValue.d) F) (hn : F.Nodup) (hp : ∀ q ∈ F, Plain w q) (h0 : 0 ≤ k) (h1 : k + ((TValue.cnL xs : Nat) : Int) ≤ 1099511627776), Calls Tryz.prog 86 #[v, .int .i64 k] w fun e w' => e = .returned (.int .i64 (k + ((TValue.cnL xs : Nat) : Int))) ∧ SlAt w' v ((TValue.markL xs k).map TValue.d) F ∧ (∀ q ∈ F, Plain w' q) ∧ Off F w w' := by
  induction N0 using Nat.strongRecOn with
  | _ N0 ih => exact markValueS_core N0 (fun w v xs F k hN h hn hp h0 h1 => ih _ hN w v xs F k (Nat.le_refl _) h hn hp h0 h1)
theorem markValueS_run (w : World) (v : Value) (xs : List TValue) (F : List Nat) (k : Int) (h : SlAt w v (xs.map TValue.d) F) (hn : F.Nodup) (hp : ∀ q ∈ F, Plain w q) (h0 : 0 ≤ k) (h1 : k + ((TValue.cnL xs : Nat) : Int) ≤ 1099511627776) :
    Calls Tryz.prog 86 #[v, .int .i64 k] w fun e w' => e = .returned (.int .i64 (k + ((TValue.cnL xs : Nat) : Int))) ∧ SlAt w' v ((TValue.markL xs k).map TValue.d) F ∧ (∀ q ∈ F, Plain w' q) ∧ Off F w w' := markValueS_all _ w v xs F k (Nat.le_refl _) h hn hp h0 h1
set_option maxHeartbeats 4000000 in
set_option maxRecDepth 100000 in
theorem heldValueS_core (N0 : Nat) (ihS : ∀ (w : World) (v : Value) (xs : List TValue) (F : List Nat) (k : Int) (hN : nd (.sl (xs.map TValue.d)) < N0) (h : SlAt w v ((TValue.markL xs k).map TValue.d) F) (h0 : 0 ≤ k) (h1 : k + ((TValue.cnL xs : Nat) : Int) ≤ 1099511627776), Calls Tryz.prog 92 #[v, .int .i64 k] w fun e w' => e = .returned (.int .i64 (k + ((TValue.cnL xs : Nat) : Int))) ∧ Below w.heap.size w w') (w : World) (v : Value) (xs : List TValue) (F : List Nat) (k : Int) (hN : nd (.sl (xs.map TValue.d)) ≤ N0) (h : SlAt w v ((TValue.markL xs k).map TValue.d) F) (h0 : 0 ≤ k) (h1 : k + ((TValue.cnL xs : Nat) : Int) ≤ 1099511627776) :
    Calls Tryz.prog 92 #[v, .int .i64 k] w fun e w' => e = .returned (.int .i64 (k + ((TValue.cnL xs : Nat) : Int))) ∧ Below w.heap.size w w' := by
  have HI := Lib.hid ihS
  clear ihS
  have HN := Lib.hid hN
  clear hN
  obtain ⟨A, c, rfl, hc, hcm⟩ := h.form
  have hl : ((TValue.markL xs k).map TValue.d).length = xs.length := by rw [List.length_map, TValue.markL_eq, mkL_length]
  rw [hl] at h hc ⊢
  have H1 := Lib.hid h1
  have HS := Lib.hid h
  clear h1 hl h
  go_enter Tryz.func92, Tryz.ntmps92
  go_wp2_with fail
  go_loopw [1, 5] (fun kk i wr => ∃ j : Nat, j ≤ xs.length ∧ i = .int .i64 j ∧ kk = .int .i64 (k + ((TValue.cnL (xs.take j) : Nat) : Int)) ∧ Below w.heap.size w wr) (fun _ i _ => xs.length - (intOf i).toNat)
  case atStart => exact ⟨0, Nat.zero_le _, rfl, int_eq (by rw [List.take_zero, TValue.cnL_eq]; simp [cnS]), Below.refl _ _⟩
  case round =>
    obtain ⟨j, hj, rfl, rfl, hb⟩ := hrel
    by_cases hlt : j < xs.length
    · have hs := HS.out.below hb
      obtain ⟨b, off, ys, Fi, rfl, hbl, _, hr, hlen, _, hcell⟩ := hs.at_ (W := 7) (i := j) (by
        rw [TValue.markL_eq]; exact TValue.wds _) (by rw [List.length_map, TValue.markL_eq, mkL_length]; exact hlt)
      have e0 : ((TValue.markL xs k).map TValue.d)[j]'(by rw [List.length_map, TValue.markL_eq, mkL_length]; exact hlt) = TValue.d (TValue.mark xs[j] (k + ((TValue.cnL (xs.take j) : Nat) : Int))) := by
        rw [List.getElem_map]
        congr 1
        exact (List.getElem_of_eq (TValue.markL_eq xs k) _).trans ((mkL_get xs j k hlt).trans (by rw [TValue.cnL_eq]))
      rw [e0] at hr
      have e1 : TValue.cnL (xs.take (j + 1)) = TValue.cnL (xs.take j) + TValue.cn xs[j] := by rw [TValue.cnL_eq, TValue.cnL_eq]; exact cnS_take_succ xs j hlt
      have e2 : TValue.cnL (xs.take (j + 1)) ≤ TValue.cnL xs := by rw [TValue.cnL_eq, TValue.cnL_eq]; exact cnS_take_le xs (j + 1)
      have e3 : TValue.cn xs[j] = 4 + TValue.cnL xs[j].list + strCnL xs[j].columns + TRow.cnL xs[j].rows := TValue.cn_eq _
      obtain ⟨kk, hkk⟩ : ∃ kk : Int, kk = k + ((TValue.cnL (xs.take j) : Nat) : Int) := ⟨_, rfl⟩
      rw [← hkk] at hr ⊢
      have k0 : 0 ≤ kk := by omega
      have k1 : kk + 4 + ((TValue.cnL xs[j].list : Nat) : Int) + ((strCnL xs[j].columns : Nat) : Int) + ((TRow.cnL xs[j].rows : Nat) : Int) ≤ 1099511627776 := by have := H1.out; rw [e3] at e1; omega
      have HE1 := Lib.hid e1
      have HE3 := Lib.hid e3
      have HK := Lib.hid hkk
      clear e0 e1 e2 e3 hkk hs hlen
      rw [TValue.mark_eq] at hr
      obtain ⟨A4, c4, F4, A5, c5, F5, A6, c6, F6, rfl, _, _, _, _, _, q4, q5, q6⟩ := TValue.open_ hr
      clear hr
      have hlt' : nd (.sl (xs[j].list.map TValue.d)) < N0 := by
        have h1 := HN.out
        have h2 := ndL_get (xs.map TValue.d) j (by simpa using hlt)
        simp only [nd, List.getElem_map] at h1 h2
        rw [TValue.d_eq] at h2
        simp only [nd, ndL] at h2 ⊢
        omega
      have Q4 : Hid (SlAt wr (.slice A4 (TValue.markL xs[j].list (kk + 1 + 1 + 1 + 1)).length c4) ((TValue.markL xs[j].list (kk + 1 + 1 + 1 + 1)).map TValue.d) F4) := Lib.hid q4
      clear q4
      have Q5 : Hid (SlAt wr (.slice A5 (strMarkL xs[j].columns (kk + 1 + 1 + 1 + 1 + ((TValue.cnL xs[j].list : Nat) : Int))).length c5) ((strMarkL xs[j].columns (kk + 1 + 1 + 1 + 1 + ((TValue.cnL xs[j].list : Nat) : Int))).map D.str) F5) := Lib.hid q5
      clear q5
      have Q6 : Hid (SlAt wr (.slice A6 (TRow.markL xs[j].rows (kk + 1 + 1 + 1 + 1 + ((TValue.cnL xs[j].list : Nat) : Int) + ((strCnL xs[j].columns : Nat) : Int))).length c6) ((TRow.markL xs[j].rows (kk + 1 + 1 + 1 + 1 + ((TValue.cnL xs[j].list : Nat) : Int) + ((strCnL xs[j].columns : Nat) : Int))).map TRow.d) F6) := Lib.hid q6
      clear q6
      have c0 : wr.cell? ⟨b, off + j * 7, none⟩ = some (.int .i64 (kk)) := hcell 0 _ rfl
      have c1 : wr.cell? ⟨b, off + j * 7 + 1, none⟩ = some (.int .i64 (kk + 1)) := hcell 1 _ rfl
      have c2 : wr.cell? ⟨b, off + j * 7 + 2, none⟩ = some (.int .i64 (kk + 1 + 1)) := hcell 2 _ rfl
      have c3 : wr.cell? ⟨b, off + j * 7 + 3, none⟩ = some (.string (mText (kk + 1 + 1 + 1))) := hcell 3 _ rfl
      have c4 : wr.cell? ⟨b, off + j * 7 + 4, none⟩ = some (.slice A4 (TValue.markL xs[j].list (kk + 1 + 1 + 1 + 1)).length c4) := hcell 4 _ rfl
      have c5 : wr.cell? ⟨b, off + j * 7 + 5, none⟩ = some (.slice A5 (strMarkL xs[j].columns (kk + 1 + 1 + 1 + 1 + ((TValue.cnL xs[j].list : Nat) : Int))).length c5) := hcell 5 _ rfl
      have c6 : wr.cell? ⟨b, off + j * 7 + 6, none⟩ = some (.slice A6 (TRow.markL xs[j].rows (kk + 1 + 1 + 1 + 1 + ((TValue.cnL xs[j].list : Nat) : Int) + ((strCnL xs[j].columns : Nat) : Int))).length c6) := hcell 6 _ rfl
      clear hcell
      have D0 := Below.refl wr.heap.size wr
      go_wp2_with fail
      have hx_ := @ext_cell wr
      refine wp_region_mild (by kernel_rfl) (by kernel_rfl) ?_
      repeat (go_big_quiet_step ((go_at_call 53; exact mild_of (markText_any _ _ (by omega)))))
      refine wpQuiet_nil ?_
      rintro w' ⟨x_, rfl⟩
      obtain ⟨w1, hw1⟩ := x_
      clear hx_
      dsimp only
      have D1 := bnext D0 hw1
      replace hbl : b < w1.heap.size := Nat.lt_of_lt_of_le hbl hw1.size
      replace c4 := cell_next hw1 c4
      replace c5 := cell_next hw1 c5
      replace c6 := cell_next hw1 c6
      skip
      go_wp2_with fail
      refine (HI.out _ _ xs[j].list F4 _ hlt' (Q4.out.below D1) (by omega) (by omega)).mono ?_
      rintro e w2 ⟨rfl, hw2⟩
      have D2 := bnext D1 hw2
      replace hbl : b < w2.heap.size := Nat.lt_of_lt_of_le hbl hw2.size
      have hd2 : decide (kk + 1 + 1 + 1 + 1 + ((TValue.cnL xs[j].list : Nat) : Int) < 0) = false := by simp; omega
      replace c5 := cell_next hw2 c5
      replace c6 := cell_next hw2 c6
      go_wp2_with fail
      refine (heldStringS_run _ _ xs[j].columns F5 _ (Q5.out.below D2) (by omega) (by omega)).mono ?_
      rintro e w3 ⟨rfl, hw3⟩
      have D3 := bnext D2 hw3
      replace hbl : b < w3.heap.size := Nat.lt_of_lt_of_le hbl hw3.size
      have hd3 : decide (kk + 1 + 1 + 1 + 1 + ((TValue.cnL xs[j].list : Nat) : Int) + ((strCnL xs[j].columns : Nat) : Int) < 0) = false := by simp; omega
      replace c6 := cell_next hw3 c6
      go_wp2_with fail
      refine (heldRowS_run _ _ xs[j].rows F6 _ (Q6.out.below D3) (by omega) (by omega)).mono ?_
      rintro e w4 ⟨rfl, hw4⟩
      have D4 := bnext D3 hw4
      replace hbl : b < w4.heap.size := Nat.lt_of_lt_of_le hbl hw4.size
      have hd4 : decide (kk + 1 + 1 + 1 + 1 + ((TValue.cnL xs[j].list : Nat) : Int) + ((strCnL xs[j].columns : Nat) : Int) + ((TRow.cnL xs[j].rows : Nat) : Int) < 0) = false := by simp; omega
      go_wp2_with fail
      go_roundw
      case rel => exact ⟨j + 1, by omega, by go_num, int_eq (by have h1 := HE1.out; have h2 := HE3.out; have h3 := HK.out; rw [h2] at h1; omega), bnext hb D4⟩
      case measure => simp [intOf]; omega
    · have hj' : j = xs.length := by omega
      subst hj'
      rw [List.take_of_length_le (Nat.le_refl _)]
      go_wp2_with fail
      go_ret
      exact ⟨rfl, hb⟩
theorem heldValueS_all (N0 : Nat) : ∀ (w : World) (v : Value) (xs : List TValue) (F : List Nat) (k : Int) (hN : nd (.sl (xs.map TValue.d)) ≤ N0) (h : SlAt w v ((TValue.markL xs k).map TValue.d) F) (h0 : 0 ≤ k) (h1 : k + ((TValue.cnL xs : Nat) : Int) ≤ 1099511627776), Calls Tryz.prog 92 #[v, .int .i64 k] w fun e w' => e = .returned (.int .i64 (k + ((TValue.cnL xs : Nat) : Int))) ∧ Below w.heap.size w w' := by
  induction N0 using Nat.strongRecOn with
  | _ N0 ih => exact heldValueS_core N0 (fun w v xs F k hN h h0 h1 => ih _ hN w v xs F k (Nat.le_refl _) h h0 h1)
theorem heldValueS_run (w : World) (v : Value) (xs : List TValue) (F : List Nat) (k : Int) (h : SlAt w v ((TValue.markL xs k).map TValue.d) F) (h0 : 0 ≤ k) (h1 : k + ((TValue.cnL xs : Nat) : Int) ≤ 1099511627776) :
    Calls Tryz.prog 92 #[v, .int .i64 k] w fun e w' => e = .returned (.int .i64 (k + ((TValue.cnL xs : Nat) : Int))) ∧ Below w.heap.size w w' := heldValueS_all _ w v xs F k (Nat.le_refl _) h h0 h1
end Go.Proofs.YtbknilpmpjjfpaaGreat
