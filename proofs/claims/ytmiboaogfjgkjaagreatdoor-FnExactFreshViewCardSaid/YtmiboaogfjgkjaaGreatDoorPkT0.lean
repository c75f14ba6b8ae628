/- Several texts in one: MkCell, MkNotebook, MkString, MkInt, MkOrigin, MkRow, MkValue, MkRead, MkTape, MkRun, MkLine. -/
import Derived.Test.YtmiboaogfjgkjaaGreatDoorMkD
/- The laws' marks written into slices of Cell, and their test. Conditions: the marks are numbers between 0 and 1099511627776. Written by a program of mine. -/
set_option linter.unusedSimpArgs false
set_option linter.unusedVariables false
namespace Go.Proofs.YtmiboaogfjgkjaaGreatDoor
open Go.RowKit
theorem TCell.wd_ (x : TCell) : wd x.d = 6 := by simp [TCell.d, wd, wdL]
theorem TCell.wds (xs : List TCell) : ∀ d ∈ xs.map TCell.d, wd d = 6 := by
  intro d hd
  obtain ⟨x, _, rfl⟩ := List.mem_map.1 hd
  exact x.wd_
theorem TCell.open_ {w : World} {x : TCell} {cs : List Value} {F : List Nat} (h : Rep w x.d cs F) :
    cs = [.int .i64 x.id, .int .i64 x.version, .int .i64 x.kind, .string x.name, .string x.code, .int .i64 x.n] ∧ F = [] ∧ I64 x.id ∧ I64 x.version ∧ I64 x.kind ∧ Fits x.name ∧ Fits x.code ∧ I64 x.n := by
  simp only [TCell.d, rep_agg, repL_cons, repL_nil, rep_int, rep_bool, rep_str, rep_sl, List.length_map] at h
  obtain ⟨_, _, _, _, rfl, rfl, ⟨rfl, rfl, i0⟩, ⟨_, _, _, _, rfl, rfl, ⟨rfl, rfl, i1⟩, ⟨_, _, _, _, rfl, rfl, ⟨rfl, rfl, i2⟩, ⟨_, _, _, _, rfl, rfl, ⟨rfl, rfl, i3⟩, ⟨_, _, _, _, rfl, rfl, ⟨rfl, rfl, i4⟩, ⟨_, _, _, _, rfl, rfl, ⟨rfl, rfl, i5⟩, ⟨rfl, rfl⟩⟩⟩⟩⟩⟩⟩ := h
  exact ⟨rfl, by simp, i0, i1, i2, i3, i4, i5⟩
set_option maxHeartbeats 4000000 in
set_option maxRecDepth 100000 in
theorem markCellS_run (w : World) (v : Value) (xs : List TCell) (F : List Nat) (k : Int) (h : SlAt w v (xs.map TCell.d) F) (hn : F.Nodup) (hp : ∀ q ∈ F, Plain w q) (h0 : 0 ≤ k) (h1 : k + ((TCell.cnL xs : Nat) : Int) ≤ 1099511627776) :
    Calls Tryz.prog 31 #[v, .int .i64 k] w fun e w' => e = .returned (.int .i64 (k + ((TCell.cnL xs : Nat) : Int))) ∧ SlAt w' v ((TCell.markL xs k).map TCell.d) F ∧ (∀ q ∈ F, Plain w' q) ∧ Off F w w' := by
  obtain ⟨A, c, rfl, hc, hcm⟩ := h.form
  rw [List.length_map] at h hc ⊢
  have hP := Lib.hid hp
  have H1 := Lib.hid h1
  clear hp h1
  go_enter Tryz.func31, Tryz.ntmps31
  go_wp2_with fail
  go_loopw [1, 5] (fun kk i wr => ∃ j : Nat, j ≤ xs.length ∧ i = .int .i64 j ∧ kk = .int .i64 (k + ((TCell.cnL (xs.take j) : Nat) : Int)) ∧ SlAt wr (.slice A xs.length c) ((TCell.markL (xs.take j) k).map TCell.d ++ (xs.drop j).map TCell.d) F ∧ (∀ q ∈ F, Plain wr q) ∧ Off F w wr) (fun _ i _ => xs.length - (intOf i).toNat)
  case atStart => exact ⟨0, Nat.zero_le _, rfl, int_eq (by rw [List.take_zero, TCell.cnL_eq]; simp [cnS]), by rw [List.take_zero, List.drop_zero, TCell.markL_eq]; exact h, hP.out, Off.refl _ _⟩
  case round =>
    obtain ⟨j, hj, rfl, rfl, hs, hpr, hoff⟩ := hrel
    by_cases hlt : j < xs.length
    · have ed : xs.drop j = xs[j] :: xs.drop (j + 1) := List.drop_eq_getElem_cons hlt
      rw [ed, List.map_cons] at hs
      obtain ⟨b, off, ys, Fi, rfl, hbF, hbFi, hni, hsub, hr, hlen, hcell, hback⟩ := hs.take_out (W := 6) (by
        intro y hy
        rcases List.mem_append.1 hy with hy | hy
        · exact TCell.wds _ y hy
        · rw [← List.map_cons] at hy; exact TCell.wds _ y hy) (by omega) hn
      have el : ((TCell.markL (xs.take j) k).map TCell.d).length = j := by rw [List.length_map, TCell.markL_eq, mkL_length, List.length_take]; omega
      rw [el] at hcell hback
      have e1 : TCell.cnL (xs.take (j + 1)) = TCell.cnL (xs.take j) + TCell.cn xs[j] := by rw [TCell.cnL_eq, TCell.cnL_eq]; exact cnS_take_succ xs j hlt
      have e2 : TCell.cnL (xs.take (j + 1)) ≤ TCell.cnL xs := by rw [TCell.cnL_eq, TCell.cnL_eq]; exact cnS_take_le xs (j + 1)
      have e3 : TCell.cn xs[j] = 6 := TCell.cn_eq _
      obtain ⟨kk, hkk⟩ : ∃ kk : Int, kk = k + ((TCell.cnL (xs.take j) : Nat) : Int) := ⟨_, rfl⟩
      rw [← hkk]
      have k0 : 0 ≤ kk := by omega
      have k1 : kk + 6 ≤ 1099511627776 := by have := H1.out; rw [e3] at e1; omega
      have HE1 := Lib.hid e1
      have HE3 := Lib.hid e3
      have HK := Lib.hid hkk
      have HB := Lib.hid hback
      have HS := Lib.hid hsub
      clear e1 e2 e3 hkk hback hsub ed el hs h hlen
      obtain ⟨rfl, hF, _, _, _, _, _, _⟩ := TCell.open_ hr
      clear hr
      subst hF
      have T0 : Trk wr wr b (off + j * 6) (off + j * 6 + 6) _ := Trk.start (hpr b hbF) (fun q hq => hpr q (HS.out q hq))
      have C0 := Lib.hid hcell
      clear hcell hni
      have c0_0 : wr.cell? ⟨b, off + j * 6, none⟩ = _ := C0.out 0 _ rfl
      have c0_1 := C0.out 1 _ rfl
      have c0_2 := C0.out 2 _ rfl
      have c0_3 := C0.out 3 _ rfl
      have c0_4 := C0.out 4 _ rfl
      have c0_5 := C0.out 5 _ rfl
      have z0 := T0.here.free
      go_wp2_with fail
      refine (markText_any _ _ (by omega)).mono ?_
      rintro e w1 ⟨rfl, hb1⟩
      have T1 := Trk.next (Trk.set (Trk.set (Trk.set T0 0 (by omega) _) 1 (by omega) _) 2 (by omega) _) hb1
      have C1 := Lib.hid (CellsAt.next (CellsAt.setAt (CellsAt.setAt (CellsAt.setAt C0.out 0 (by simp) _) 1 (by simp) _) 2 (by simp) _) hb1)
      clear hb1 c0_0 c0_1 c0_2 c0_3 c0_4 c0_5 z0
      have c1_0 : w1.cell? ⟨b, off + j * 6, none⟩ = _ := C1.out 0 _ rfl
      have c1_1 := C1.out 1 _ rfl
      have c1_2 := C1.out 2 _ rfl
      have c1_3 := C1.out 3 _ rfl
      have c1_4 := C1.out 4 _ rfl
      have c1_5 := C1.out 5 _ rfl
      have z1 := T1.here.free
      go_wp2_with fail
      refine (markText_any _ _ (by omega)).mono ?_
      rintro e w2 ⟨rfl, hb2⟩
      have T2 := Trk.next (Trk.set T1 3 (by omega) _) hb2
      have C2 := Lib.hid (CellsAt.next (CellsAt.setAt C1.out 3 (by simp) _) hb2)
      clear hb2 c1_0 c1_1 c1_2 c1_3 c1_4 c1_5 z1
      have c2_0 : w2.cell? ⟨b, off + j * 6, none⟩ = _ := C2.out 0 _ rfl
      have c2_1 := C2.out 1 _ rfl
      have c2_2 := C2.out 2 _ rfl
      have c2_3 := C2.out 3 _ rfl
      have c2_4 := C2.out 4 _ rfl
      have c2_5 := C2.out 5 _ rfl
      have z2 := T2.here.free
      go_wp2_with fail
      go_roundw
      case rel =>
        refine ⟨j + 1, by omega, by go_num, int_eq (by have h1 := HE1.out; have h2 := HE3.out; have h3 := HK.out; rw [h2] at h1; omega), ?_, Trk.plains (Trk.set (Trk.set T2 4 (by omega) _) 5 (by omega) _) hpr, hoff.trans (Off.sub (Trk.off (Trk.set (Trk.set T2 4 (by omega) _) 5 (by omega) _)) (fun q hq => by rcases List.mem_cons.1 hq with rfl | hq; exact hbF; exact HS.out q hq))⟩
        have hm : TCell.markL (xs.take (j + 1)) k = TCell.markL (xs.take j) k ++ [TCell.mark xs[j] kk] := by
          rw [TCell.markL_eq, TCell.markL_eq, mkL_take_succ xs j k hlt, HK.out, TCell.cnL_eq]
        rw [hm, List.map_append, List.append_assoc]
        refine HB.out _ (TCell.d (TCell.mark xs[j] kk)) _ (by simp) ?_ (CellsAt.setAt (CellsAt.setAt C2.out 4 (by simp) _) 5 (by simp) _) (Trk.set (Trk.set T2 4 (by omega) _) 5 (by omega) _)
        simp only [TCell.mark_eq, TCell.d]
        rw [rep_agg]
        exact repL_of (mk_cons (mk_intE (i64_mid (by omega) (by omega)) (by first | rfl | omega)) (mk_cons (mk_intE (i64_mid (by omega) (by omega)) (by first | rfl | omega)) (mk_cons (mk_intE (i64_mid (by omega) (by omega)) (by first | rfl | omega)) (mk_cons (mk_strE (by omega) (by first | rfl | omega)) (mk_cons (mk_strE (by omega) (by first | rfl | omega)) (mk_cons (mk_intE (i64_mid (by omega) (by omega)) (by first | rfl | omega)) mk_nil)))))) rfl (by first | rfl | simp only [List.nil_append, List.append_nil, List.append_assoc])
      case measure => simp [intOf]; omega
    · have hj' : j = xs.length := by omega
      subst hj'
      rw [List.take_of_length_le (Nat.le_refl _), List.drop_of_length_le (Nat.le_refl _)] at hs
      rw [List.take_of_length_le (Nat.le_refl _)]
      have HQ := Lib.hid hs
      clear hs
      go_wp2_with fail
      go_ret
      exact ⟨rfl, by have := HQ.out; simpa using this, hpr, hoff⟩
end Go.Proofs.YtmiboaogfjgkjaaGreatDoor
/- The laws' marks written into slices of Notebook, and their test. Conditions: the marks are numbers between 0 and 1099511627776. Written by a program of mine. -/
set_option linter.unusedSimpArgs false
set_option linter.unusedVariables false
namespace Go.Proofs.YtmiboaogfjgkjaaGreatDoor
open Go.RowKit
theorem TNotebook.open_ {w : World} {x : TNotebook} {cs : List Value} {F : List Nat} (h : Rep w x.d cs F) :
    ∃ (A0 : Option Addr) (c0 : Nat) (F0 : List Nat), cs = [.slice A0 x.cells.length c0] ∧ F = F0 ∧ SlAt w (.slice A0 x.cells.length c0) (x.cells.map TCell.d) F0 := by
  simp only [TNotebook.d, rep_agg, repL_cons, repL_nil, rep_int, rep_bool, rep_str, rep_sl, List.length_map] at h
  obtain ⟨_, _, F0, _, rfl, rfl, ⟨A0, c0, rfl, q0⟩, ⟨rfl, rfl⟩⟩ := h
  exact ⟨A0, c0, F0, rfl, by simp, q0⟩
set_option maxHeartbeats 4000000 in
set_option maxRecDepth 100000 in
theorem markNotebook_run (w : World) (x : TNotebook) (cs : List Value) (F : List Nat) (k : Int) (h : Rep w x.d cs F) (hn : F.Nodup) (hp : ∀ q ∈ F, Plain w q) (h0 : 0 ≤ k) (h1 : k + ((x.cnV : Nat) : Int) ≤ 1099511627776) :
    Calls Tryz.prog 13 #[.agg cs.toArray, .int .i64 k] w fun e w' => e = .returned (.int .i64 (k + ((x.cnV : Nat) : Int))) ∧ Rep w' (x.markV k).d cs F ∧ (∀ q ∈ F, Plain w' q) ∧ Off F w w' := by
  have hF := h.lt
  obtain ⟨A0, c0, F0, rfl, hFe, q0⟩ := TNotebook.open_ h
  have hFe := hFe.symm
  subst hFe
  have h1' : k + ((TCell.cnL x.cells : Nat) : Int) ≤ 1099511627776 := h1
  have hn' : (F0).Nodup := by simpa only [List.append_assoc, List.append_nil] using hn
  have dn0 := hn'
  obtain ⟨w0, hw0⟩ : ∃ w0, w0 = w.alloc (.cells #[.slice A0 x.cells.length c0] 35) := ⟨_, rfl⟩
  have B0 : Below w.heap.size w w0 := hw0 ▸ bnew (Below.refl _ _) _
  have kc0 : w0.cell? ⟨w.heap.size, 0, none⟩ = some (.slice A0 x.cells.length c0) := hw0 ▸ cell_new w _ _ 0 _ rfl
  have HW := Lib.hid hw0
  clear hw0
  have ns0 : w.heap.size ∉ F0 := fun hm => by have := hF _ (show w.heap.size ∈ _ by (try simp only [List.mem_append] at hm ⊢); first | (simp [hm]; done) | (rcases hm with h' | h' <;> simp [h']; done) | (rcases hm with h' | h' | h' <;> simp [h']; done)); omega
  have Q0 := Lib.hid (q0.below B0)
  have P0 : Hid (∀ q ∈ F0, Plain w0 q) := Lib.hid (fun q hq => (hp q (by (try simp only [List.mem_append] at hq ⊢); first | (simp [hq]; done) | (rcases hq with h' | h' <;> simp [h']; done) | (rcases hq with h' | h' | h' <;> simp [h']; done))).next B0)
  clear q0
  have HOLD := Lib.hid (And.intro hp (And.intro hF h))
  clear hp hF h
  have O0 : Off (F0) w w0 := Off.of_below B0
  go_enter Tryz.func13, Tryz.ntmps13
  go_wp2_with fail
  rw [← HW.out]
  refine (markCellS_run _ _ x.cells F0 _ Q0.out dn0 P0.out (by omega) (by omega)).mono ?_
  rintro e w1 ⟨rfl, q0, p0, hb1⟩
  have O1 : Off (F0) w w1 := O0.trans (hb1.sub (fun q hq => by (try simp only [List.mem_append] at hq ⊢); first | (simp [hq]; done) | (rcases hq with h' | h' <;> simp [h']; done) | (rcases hq with h' | h' | h' <;> simp [h']; done)))
  replace kc0 := hb1.cell ns0 kc0
  replace Q0 := Lib.hid q0
  replace P0 := Lib.hid p0
  clear q0 p0
  go_wp2_with fail
  go_ret
  have e1 : ((x.cnV : Nat) : Int) = ((TCell.cnL x.cells : Nat) : Int) := by unfold TNotebook.cnV; omega
  refine ⟨ret_int (by omega), ?_, ?_, O1⟩
  · refine rep_agg.2 (repL_of (mk_cons (mk_sl Q0.out) (mk_nil (w := _))) ?_ ?_)
    · first | rfl | simp only [List.cons_append, List.nil_append, List.append_nil]
    · first | rfl | simp only [List.nil_append, List.append_nil, List.append_assoc]
  · intro q hq
    first
    | exact P0.out q hq
    | (simp only [List.mem_append] at hq; revert hq; simp only [or_imp]; simp only [or_imp, and_imp]; first | exact fun h => P0.out q h | skip)
end Go.Proofs.YtmiboaogfjgkjaaGreatDoor
/- The laws' marks written into slices of String, and their test. Conditions: the marks are numbers between 0 and 1099511627776. Written by a program of mine. -/
set_option linter.unusedSimpArgs false
set_option linter.unusedVariables false
namespace Go.Proofs.YtmiboaogfjgkjaaGreatDoor
open Go.RowKit
set_option maxHeartbeats 4000000 in
set_option maxRecDepth 100000 in
theorem markStringS_run (w : World) (v : Value) (xs : List ByteArray) (F : List Nat) (k : Int) (h : SlAt w v (xs.map D.str) F) (hn : F.Nodup) (hp : ∀ q ∈ F, Plain w q) (h0 : 0 ≤ k) (h1 : k + ((strCnL xs : Nat) : Int) ≤ 1099511627776) :
    Calls Tryz.prog 50 #[v, .int .i64 k] w fun e w' => e = .returned (.int .i64 (k + ((strCnL xs : Nat) : Int))) ∧ SlAt w' v ((strMarkL xs k).map D.str) F ∧ (∀ q ∈ F, Plain w' q) ∧ Off F w w' := by
  obtain ⟨A, c, rfl, hc, hcm⟩ := h.form
  rw [List.length_map] at h hc ⊢
  have hP := Lib.hid hp
  have H1 := Lib.hid h1
  clear hp h1
  go_enter Tryz.func50, Tryz.ntmps50
  go_wp2_with fail
  go_loopw [1, 5] (fun kk i wr => ∃ j : Nat, j ≤ xs.length ∧ i = .int .i64 j ∧ kk = .int .i64 (k + ((strCnL (xs.take j) : Nat) : Int)) ∧ SlAt wr (.slice A xs.length c) ((strMarkL (xs.take j) k).map D.str ++ (xs.drop j).map D.str) F ∧ (∀ q ∈ F, Plain wr q) ∧ Off F w wr) (fun _ i _ => xs.length - (intOf i).toNat)
  case atStart => exact ⟨0, Nat.zero_le _, rfl, int_eq (by rw [List.take_zero, strCnL_eq]; simp [cnS]), by rw [List.take_zero, List.drop_zero, strMarkL_eq]; exact h, hP.out, Off.refl _ _⟩
  case round =>
    obtain ⟨j, hj, rfl, rfl, hs, hpr, hoff⟩ := hrel
    by_cases hlt : j < xs.length
    · have ed : xs.drop j = xs[j] :: xs.drop (j + 1) := List.drop_eq_getElem_cons hlt
      rw [ed, List.map_cons] at hs
      obtain ⟨b, off, ys, Fi, rfl, hbF, hbFi, hni, hsub, hr, hlen, hcell, hback⟩ := hs.take_out (W := 1) (by
        intro y hy
        rcases List.mem_append.1 hy with hy | hy
        · exact strWds _ y hy
        · rw [← List.map_cons] at hy; exact strWds _ y hy) (by omega) hn
      have el : ((strMarkL (xs.take j) k).map D.str).length = j := by rw [List.length_map, strMarkL_eq, mkL_length, List.length_take]; omega
      rw [el, Nat.mul_one] at hcell hback
      have e1 : strCnL (xs.take (j + 1)) = strCnL (xs.take j) + strCn xs[j] := by rw [strCnL_eq, strCnL_eq]; exact cnS_take_succ xs j hlt
      have e2 : strCnL (xs.take (j + 1)) ≤ strCnL xs := by rw [strCnL_eq, strCnL_eq]; exact cnS_take_le xs (j + 1)
      have e3 : strCn xs[j] = 1 := rfl
      obtain ⟨kk, hkk⟩ : ∃ kk : Int, kk = k + ((strCnL (xs.take j) : Nat) : Int) := ⟨_, rfl⟩
      rw [← hkk]
      have k0 : 0 ≤ kk := by omega
      have k1 : kk + 1 ≤ 1099511627776 := by have := H1.out; rw [e3] at e1; omega
      have HE1 := Lib.hid e1
      have HE3 := Lib.hid e3
      have HK := Lib.hid hkk
      have HB := Lib.hid hback
      have HS := Lib.hid hsub
      clear e1 e2 e3 hkk hback hsub ed el hs h hlen
      obtain ⟨rfl, hF, _⟩ := rep_str.1 hr
      clear hr
      subst hF
      have T0 : Trk wr wr b (off + j) (off + j + 1) _ := Trk.start (hpr b hbF) (fun q hq => hpr q (HS.out q hq))
      have C0 := Lib.hid hcell
      clear hcell hni
      have c0_0 : wr.cell? ⟨b, off + j, none⟩ = _ := C0.out 0 _ rfl
      have z0 := T0.here.free
      go_wp2_with fail
      refine (markText_any _ _ (by omega)).mono ?_
      rintro e w1 ⟨rfl, hb1⟩
      have T1 := Trk.next T0 hb1
      have C1 := Lib.hid (CellsAt.next C0.out hb1)
      clear hb1 c0_0 z0
      have c1_0 : w1.cell? ⟨b, off + j, none⟩ = _ := C1.out 0 _ rfl
      have z1 := T1.here.free
      go_wp2_with fail
      go_roundw
      case rel =>
        refine ⟨j + 1, by omega, by go_num, int_eq (by have h1 := HE1.out; have h2 := HE3.out; have h3 := HK.out; rw [h2] at h1; omega), ?_, Trk.plains (Trk.set T1 0 (by omega) _) hpr, hoff.trans (Off.sub (Trk.off (Trk.set T1 0 (by omega) _)) (fun q hq => by rcases List.mem_cons.1 hq with rfl | hq; exact hbF; exact HS.out q hq))⟩
        have hm : strMarkL (xs.take (j + 1)) k = strMarkL (xs.take j) k ++ [strMark xs[j] kk] := by
          rw [strMarkL_eq, strMarkL_eq, mkL_take_succ xs j k hlt, HK.out, strCnL_eq]
        rw [hm, List.map_append, List.append_assoc]
        exact HB.out _ (D.str (strMark xs[j] kk)) _ (by simp) (mk_strE (by omega) (by first | rfl | omega)) (CellsAt.setAt C1.out 0 (by simp) _) (Trk.set T1 0 (by omega) _)
      case measure => simp [intOf]; omega
    · have hj' : j = xs.length := by omega
      subst hj'
      rw [List.take_of_length_le (Nat.le_refl _), List.drop_of_length_le (Nat.le_refl _)] at hs
      rw [List.take_of_length_le (Nat.le_refl _)]
      have HQ := Lib.hid hs
      clear hs
      go_wp2_with fail
      go_ret
      exact ⟨rfl, by have := HQ.out; simpa using this, hpr, hoff⟩
end Go.Proofs.YtmiboaogfjgkjaaGreatDoor
/- The laws' marks written into slices of Int, and their test. Conditions: the marks are numbers between 0 and 1099511627776. Written by a program of mine. -/
set_option linter.unusedSimpArgs false
set_option linter.unusedVariables false
namespace Go.Proofs.YtmiboaogfjgkjaaGreatDoor
open Go.RowKit
set_option maxHeartbeats 4000000 in
set_option maxRecDepth 100000 in
theorem markIntS_run (w : World) (v : Value) (xs : List Int) (F : List Nat) (k : Int) (h : SlAt w v (xs.map D.int) F) (hn : F.Nodup) (hp : ∀ q ∈ F, Plain w q) (h0 : 0 ≤ k) (h1 : k + ((intCnL xs : Nat) : Int) ≤ 1099511627776) :
    Calls Tryz.prog 75 #[v, .int .i64 k] w fun e w' => e = .returned (.int .i64 (k + ((intCnL xs : Nat) : Int))) ∧ SlAt w' v ((intMarkL xs k).map D.int) F ∧ (∀ q ∈ F, Plain w' q) ∧ Off F w w' := by
  obtain ⟨A, c, rfl, hc, hcm⟩ := h.form
  rw [List.length_map] at h hc ⊢
  have hP := Lib.hid hp
  have H1 := Lib.hid h1
  clear hp h1
  go_enter Tryz.func75, Tryz.ntmps75
  go_wp2_with fail
  go_loopw [1, 5] (fun kk i wr => ∃ j : Nat, j ≤ xs.length ∧ i = .int .i64 j ∧ kk = .int .i64 (k + ((intCnL (xs.take j) : Nat) : Int)) ∧ SlAt wr (.slice A xs.length c) ((intMarkL (xs.take j) k).map D.int ++ (xs.drop j).map D.int) F ∧ (∀ q ∈ F, Plain wr q) ∧ Off F w wr) (fun _ i _ => xs.length - (intOf i).toNat)
  case atStart => exact ⟨0, Nat.zero_le _, rfl, int_eq (by rw [List.take_zero, intCnL_eq]; simp [cnS]), by rw [List.take_zero, List.drop_zero, intMarkL_eq]; exact h, hP.out, Off.refl _ _⟩
  case round =>
    obtain ⟨j, hj, rfl, rfl, hs, hpr, hoff⟩ := hrel
    by_cases hlt : j < xs.length
    · have ed : xs.drop j = xs[j] :: xs.drop (j + 1) := List.drop_eq_getElem_cons hlt
      rw [ed, List.map_cons] at hs
      obtain ⟨b, off, ys, Fi, rfl, hbF, hbFi, hni, hsub, hr, hlen, hcell, hback⟩ := hs.take_out (W := 1) (by
        intro y hy
        rcases List.mem_append.1 hy with hy | hy
        · exact intWds _ y hy
        · rw [← List.map_cons] at hy; exact intWds _ y hy) (by omega) hn
      have el : ((intMarkL (xs.take j) k).map D.int).length = j := by rw [List.length_map, intMarkL_eq, mkL_length, List.length_take]; omega
      rw [el, Nat.mul_one] at hcell hback
      have e1 : intCnL (xs.take (j + 1)) = intCnL (xs.take j) + intCn xs[j] := by rw [intCnL_eq, intCnL_eq]; exact cnS_take_succ xs j hlt
      have e2 : intCnL (xs.take (j + 1)) ≤ intCnL xs := by rw [intCnL_eq, intCnL_eq]; exact cnS_take_le xs (j + 1)
      have e3 : intCn xs[j] = 1 := rfl
      obtain ⟨kk, hkk⟩ : ∃ kk : Int, kk = k + ((intCnL (xs.take j) : Nat) : Int) := ⟨_, rfl⟩
      rw [← hkk]
      have k0 : 0 ≤ kk := by omega
      have k1 : kk + 1 ≤ 1099511627776 := by have := H1.out; rw [e3] at e1; omega
      have HE1 := Lib.hid e1
      have HE3 := Lib.hid e3
      have HK := Lib.hid hkk
      have HB := Lib.hid hback
      have HS := Lib.hid hsub
      clear e1 e2 e3 hkk hback hsub ed el hs h hlen
      obtain ⟨rfl, hF, _⟩ := rep_int.1 hr
      clear hr
      subst hF
      have T0 : Trk wr wr b (off + j) (off + j + 1) _ := Trk.start (hpr b hbF) (fun q hq => hpr q (HS.out q hq))
      have C0 := Lib.hid hcell
      clear hcell hni
      have c0_0 : wr.cell? ⟨b, off + j, none⟩ = _ := C0.out 0 _ rfl
      have z0 := T0.here.free
      go_wp2_with fail
      go_roundw
      case rel =>
        refine ⟨j + 1, by omega, by go_num, int_eq (by have h1 := HE1.out; have h2 := HE3.out; have h3 := HK.out; rw [h2] at h1; omega), ?_, Trk.plains (Trk.set T0 0 (by omega) _) hpr, hoff.trans (Off.sub (Trk.off (Trk.set T0 0 (by omega) _)) (fun q hq => by rcases List.mem_cons.1 hq with rfl | hq; exact hbF; exact HS.out q hq))⟩
        have hm : intMarkL (xs.take (j + 1)) k = intMarkL (xs.take j) k ++ [intMark xs[j] kk] := by
          rw [intMarkL_eq, intMarkL_eq, mkL_take_succ xs j k hlt, HK.out, intCnL_eq]
        rw [hm, List.map_append, List.append_assoc]
        exact HB.out _ (D.int (intMark xs[j] kk)) _ (by simp) (mk_intE (i64_mid (by omega) (by omega)) (by first | rfl | omega)) (CellsAt.setAt C0.out 0 (by simp) _) (Trk.set T0 0 (by omega) _)
      case measure => simp [intOf]; omega
    · have hj' : j = xs.length := by omega
      subst hj'
      rw [List.take_of_length_le (Nat.le_refl _), List.drop_of_length_le (Nat.le_refl _)] at hs
      rw [List.take_of_length_le (Nat.le_refl _)]
      have HQ := Lib.hid hs
      clear hs
      go_wp2_with fail
      go_ret
      exact ⟨rfl, by have := HQ.out; simpa using this, hpr, hoff⟩
end Go.Proofs.YtmiboaogfjgkjaaGreatDoor
/- The laws' marks written into slices of Origin, and their test. Conditions: the marks are numbers between 0 and 1099511627776. Written by a program of mine. -/
set_option linter.unusedSimpArgs false
set_option linter.unusedVariables false
namespace Go.Proofs.YtmiboaogfjgkjaaGreatDoor
open Go.RowKit
theorem TOrigin.wd_ (x : TOrigin) : wd x.d = 2 := by simp [TOrigin.d, wd, wdL]
theorem TOrigin.wds (xs : List TOrigin) : ∀ d ∈ xs.map TOrigin.d, wd d = 2 := by
  intro d hd
  obtain ⟨x, _, rfl⟩ := List.mem_map.1 hd
  exact x.wd_
theorem TOrigin.open_ {w : World} {x : TOrigin} {cs : List Value} {F : List Nat} (h : Rep w x.d cs F) :
    cs = [.int .i64 x.cell, .int .i64 x.row] ∧ F = [] ∧ I64 x.cell ∧ I64 x.row := by
  simp only [TOrigin.d, rep_agg, repL_cons, repL_nil, rep_int, rep_bool, rep_str, rep_sl, List.length_map] at h
  obtain ⟨_, _, _, _, rfl, rfl, ⟨rfl, rfl, i0⟩, ⟨_, _, _, _, rfl, rfl, ⟨rfl, rfl, i1⟩, ⟨rfl, rfl⟩⟩⟩ := h
  exact ⟨rfl, by simp, i0, i1⟩
set_option maxHeartbeats 4000000 in
set_option maxRecDepth 100000 in
theorem markOriginS_run (w : World) (v : Value) (xs : List TOrigin) (F : List Nat) (k : Int) (h : SlAt w v (xs.map TOrigin.d) F) (hn : F.Nodup) (hp : ∀ q ∈ F, Plain w q) (h0 : 0 ≤ k) (h1 : k + ((TOrigin.cnL xs : Nat) : Int) ≤ 1099511627776) :
    Calls Tryz.prog 76 #[v, .int .i64 k] w fun e w' => e = .returned (.int .i64 (k + ((TOrigin.cnL xs : Nat) : Int))) ∧ SlAt w' v ((TOrigin.markL xs k).map TOrigin.d) F ∧ (∀ q ∈ F, Plain w' q) ∧ Off F w w' := by
  obtain ⟨A, c, rfl, hc, hcm⟩ := h.form
  rw [List.length_map] at h hc ⊢
  have hP := Lib.hid hp
  have H1 := Lib.hid h1
  clear hp h1
  go_enter Tryz.func76, Tryz.ntmps76
  go_wp2_with fail
  go_loopw [1, 5] (fun kk i wr => ∃ j : Nat, j ≤ xs.length ∧ i = .int .i64 j ∧ kk = .int .i64 (k + ((TOrigin.cnL (xs.take j) : Nat) : Int)) ∧ SlAt wr (.slice A xs.length c) ((TOrigin.markL (xs.take j) k).map TOrigin.d ++ (xs.drop j).map TOrigin.d) F ∧ (∀ q ∈ F, Plain wr q) ∧ Off F w wr) (fun _ i _ => xs.length - (intOf i).toNat)
  case atStart => exact ⟨0, Nat.zero_le _, rfl, int_eq (by rw [List.take_zero, TOrigin.cnL_eq]; simp [cnS]), by rw [List.take_zero, List.drop_zero, TOrigin.markL_eq]; exact h, hP.out, Off.refl _ _⟩
  case round =>
    obtain ⟨j, hj, rfl, rfl, hs, hpr, hoff⟩ := hrel
    by_cases hlt : j < xs.length
    · have ed : xs.drop j = xs[j] :: xs.drop (j + 1) := List.drop_eq_getElem_cons hlt
      rw [ed, List.map_cons] at hs
      obtain ⟨b, off, ys, Fi, rfl, hbF, hbFi, hni, hsub, hr, hlen, hcell, hback⟩ := hs.take_out (W := 2) (by
        intro y hy
        rcases List.mem_append.1 hy with hy | hy
        · exact TOrigin.wds _ y hy
        · rw [← List.map_cons] at hy; exact TOrigin.wds _ y hy) (by omega) hn
      have el : ((TOrigin.markL (xs.take j) k).map TOrigin.d).length = j := by rw [List.length_map, TOrigin.markL_eq, mkL_length, List.length_take]; omega
      rw [el] at hcell hback
      have e1 : TOrigin.cnL (xs.take (j + 1)) = TOrigin.cnL (xs.take j) + TOrigin.cn xs[j] := by rw [TOrigin.cnL_eq, TOrigin.cnL_eq]; exact cnS_take_succ xs j hlt
      have e2 : TOrigin.cnL (xs.take (j + 1)) ≤ TOrigin.cnL xs := by rw [TOrigin.cnL_eq, TOrigin.cnL_eq]; exact cnS_take_le xs (j + 1)
      have e3 : TOrigin.cn xs[j] = 2 := TOrigin.cn_eq _
      obtain ⟨kk, hkk⟩ : ∃ kk : Int, kk = k + ((TOrigin.cnL (xs.take j) : Nat) : Int) := ⟨_, rfl⟩
      rw [← hkk]
      have k0 : 0 ≤ kk := by omega
      have k1 : kk + 2 ≤ 1099511627776 := by have := H1.out; rw [e3] at e1; omega
      have HE1 := Lib.hid e1
      have HE3 := Lib.hid e3
      have HK := Lib.hid hkk
      have HB := Lib.hid hback
      have HS := Lib.hid hsub
      clear e1 e2 e3 hkk hback hsub ed el hs h hlen
      obtain ⟨rfl, hF, _, _⟩ := TOrigin.open_ hr
      clear hr
      subst hF
      have T0 : Trk wr wr b (off + j * 2) (off + j * 2 + 2) _ := Trk.start (hpr b hbF) (fun q hq => hpr q (HS.out q hq))
      have C0 := Lib.hid hcell
      clear hcell hni
      have c0_0 : wr.cell? ⟨b, off + j * 2, none⟩ = _ := C0.out 0 _ rfl
      have c0_1 := C0.out 1 _ rfl
      have z0 := T0.here.free
      go_wp2_with fail
      go_roundw
      case rel =>
        refine ⟨j + 1, by omega, by go_num, int_eq (by have h1 := HE1.out; have h2 := HE3.out; have h3 := HK.out; rw [h2] at h1; omega), ?_, Trk.plains (Trk.set (Trk.set T0 0 (by omega) _) 1 (by omega) _) hpr, hoff.trans (Off.sub (Trk.off (Trk.set (Trk.set T0 0 (by omega) _) 1 (by omega) _)) (fun q hq => by rcases List.mem_cons.1 hq with rfl | hq; exact hbF; exact HS.out q hq))⟩
        have hm : TOrigin.markL (xs.take (j + 1)) k = TOrigin.markL (xs.take j) k ++ [TOrigin.mark xs[j] kk] := by
          rw [TOrigin.markL_eq, TOrigin.markL_eq, mkL_take_succ xs j k hlt, HK.out, TOrigin.cnL_eq]
        rw [hm, List.map_append, List.append_assoc]
        refine HB.out _ (TOrigin.d (TOrigin.mark xs[j] kk)) _ (by simp) ?_ (CellsAt.setAt (CellsAt.setAt C0.out 0 (by simp) _) 1 (by simp) _) (Trk.set (Trk.set T0 0 (by omega) _) 1 (by omega) _)
        simp only [TOrigin.mark_eq, TOrigin.d]
        rw [rep_agg]
        exact repL_of (mk_cons (mk_intE (i64_mid (by omega) (by omega)) (by first | rfl | omega)) (mk_cons (mk_intE (i64_mid (by omega) (by omega)) (by first | rfl | omega)) mk_nil)) rfl (by first | rfl | simp only [List.nil_append, List.append_nil, List.append_assoc])
      case measure => simp [intOf]; omega
    · have hj' : j = xs.length := by omega
      subst hj'
      rw [List.take_of_length_le (Nat.le_refl _), List.drop_of_length_le (Nat.le_refl _)] at hs
      rw [List.take_of_length_le (Nat.le_refl _)]
      have HQ := Lib.hid hs
      clear hs
      go_wp2_with fail
      go_ret
      exact ⟨rfl, by have := HQ.out; simpa using this, hpr, hoff⟩
end Go.Proofs.YtmiboaogfjgkjaaGreatDoor
/- The laws' marks written into slices of Row, and their test. Conditions: the marks are numbers between 0 and 1099511627776. Written by a program of mine. -/
set_option linter.unusedSimpArgs false
set_option linter.unusedVariables false
namespace Go.Proofs.YtmiboaogfjgkjaaGreatDoor
open Go.RowKit
theorem TRow.wd_ (x : TRow) : wd x.d = 2 := by simp [TRow.d, wd, wdL]
theorem TRow.wds (xs : List TRow) : ∀ d ∈ xs.map TRow.d, wd d = 2 := by
  intro d hd
  obtain ⟨x, _, rfl⟩ := List.mem_map.1 hd
  exact x.wd_
theorem TRow.open_ {w : World} {x : TRow} {cs : List Value} {F : List Nat} (h : Rep w x.d cs F) :
    ∃ (A0 : Option Addr) (c0 : Nat) (F0 : List Nat) (A1 : Option Addr) (c1 : Nat) (F1 : List Nat), cs = [.slice A0 x.cells.length c0, .slice A1 x.from_.length c1] ∧ F = F0 ++ F1 ∧ SlAt w (.slice A0 x.cells.length c0) (x.cells.map D.int) F0 ∧ SlAt w (.slice A1 x.from_.length c1) (x.from_.map TOrigin.d) F1 := by
  simp only [TRow.d, rep_agg, repL_cons, repL_nil, rep_int, rep_bool, rep_str, rep_sl, List.length_map] at h
  obtain ⟨_, _, F0, _, rfl, rfl, ⟨A0, c0, rfl, q0⟩, ⟨_, _, F1, _, rfl, rfl, ⟨A1, c1, rfl, q1⟩, ⟨rfl, rfl⟩⟩⟩ := h
  exact ⟨A0, c0, F0, A1, c1, F1, rfl, by simp, q0, q1⟩
set_option maxHeartbeats 4000000 in
set_option maxRecDepth 100000 in
theorem markRowS_run (w : World) (v : Value) (xs : List TRow) (F : List Nat) (k : Int) (h : SlAt w v (xs.map TRow.d) F) (hn : F.Nodup) (hp : ∀ q ∈ F, Plain w q) (h0 : 0 ≤ k) (h1 : k + ((TRow.cnL xs : Nat) : Int) ≤ 1099511627776) :
    Calls Tryz.prog 51 #[v, .int .i64 k] w fun e w' => e = .returned (.int .i64 (k + ((TRow.cnL xs : Nat) : Int))) ∧ SlAt w' v ((TRow.markL xs k).map TRow.d) F ∧ (∀ q ∈ F, Plain w' q) ∧ Off F w w' := by
  obtain ⟨A, c, rfl, hc, hcm⟩ := h.form
  rw [List.length_map] at h hc ⊢
  have hP := Lib.hid hp
  have H1 := Lib.hid h1
  clear hp h1
  go_enter Tryz.func51, Tryz.ntmps51
  go_wp2_with fail
  go_loopw [1, 5] (fun kk i wr => ∃ j : Nat, j ≤ xs.length ∧ i = .int .i64 j ∧ kk = .int .i64 (k + ((TRow.cnL (xs.take j) : Nat) : Int)) ∧ SlAt wr (.slice A xs.length c) ((TRow.markL (xs.take j) k).map TRow.d ++ (xs.drop j).map TRow.d) F ∧ (∀ q ∈ F, Plain wr q) ∧ Off F w wr) (fun _ i _ => xs.length - (intOf i).toNat)
  case atStart => exact ⟨0, Nat.zero_le _, rfl, int_eq (by rw [List.take_zero, TRow.cnL_eq]; simp [cnS]), by rw [List.take_zero, List.drop_zero, TRow.markL_eq]; exact h, hP.out, Off.refl _ _⟩
  case round =>
    obtain ⟨j, hj, rfl, rfl, hs, hpr, hoff⟩ := hrel
    by_cases hlt : j < xs.length
    · have ed : xs.drop j = xs[j] :: xs.drop (j + 1) := List.drop_eq_getElem_cons hlt
      rw [ed, List.map_cons] at hs
      obtain ⟨b, off, ys, Fi, rfl, hbF, hbFi, hni, hsub, hr, hlen, hcell, hback⟩ := hs.take_out (W := 2) (by
        intro y hy
        rcases List.mem_append.1 hy with hy | hy
        · exact TRow.wds _ y hy
        · rw [← List.map_cons] at hy; exact TRow.wds _ y hy) (by omega) hn
      have el : ((TRow.markL (xs.take j) k).map TRow.d).length = j := by rw [List.length_map, TRow.markL_eq, mkL_length, List.length_take]; omega
      rw [el] at hcell hback
      have e1 : TRow.cnL (xs.take (j + 1)) = TRow.cnL (xs.take j) + TRow.cn xs[j] := by rw [TRow.cnL_eq, TRow.cnL_eq]; exact cnS_take_succ xs j hlt
      have e2 : TRow.cnL (xs.take (j + 1)) ≤ TRow.cnL xs := by rw [TRow.cnL_eq, TRow.cnL_eq]; exact cnS_take_le xs (j + 1)
      have e3 : TRow.cn xs[j] = intCnL xs[j].cells + TOrigin.cnL xs[j].from_ := TRow.cn_eq _
      obtain ⟨kk, hkk⟩ : ∃ kk : Int, kk = k + ((TRow.cnL (xs.take j) : Nat) : Int) := ⟨_, rfl⟩
      rw [← hkk]
      have k0 : 0 ≤ kk := by omega
      have k1 : kk + ((intCnL xs[j].cells : Nat) : Int) + ((TOrigin.cnL xs[j].from_ : Nat) : Int) ≤ 1099511627776 := by have := H1.out; rw [e3] at e1; omega
      have HE1 := Lib.hid e1
      have HE3 := Lib.hid e3
      have HK := Lib.hid hkk
      have HB := Lib.hid hback
      have HS := Lib.hid hsub
      clear e1 e2 e3 hkk hback hsub ed el hs h hlen
      obtain ⟨A0, c0, F0, A1, c1, F1, rfl, hF, q0, q1⟩ := TRow.open_ hr
      clear hr
      have hF := hF.symm
      subst hF
      obtain ⟨da0, db0, dn0, dr0⟩ := nodup_two hni
      have dn1 := dr0
      have ns0 : b ∉ F0 := fun hm => hbFi (by simp [hm])
      have ns1 : b ∉ F1 := fun hm => hbFi (by simp [hm])
      have T0 : Trk wr wr b (off + j * 2) (off + j * 2 + 2) _ := Trk.start (hpr b hbF) (fun q hq => hpr q (HS.out q hq))
      have C0 := Lib.hid hcell
      clear hcell hni
      have Q0_0 := Lib.hid q0
      have P0_0 : Hid (∀ q ∈ F0, Plain wr q) := Lib.hid (fun q hq => hpr q (HS.out q (by simp [hq])))
      clear q0
      have Q1_0 := Lib.hid q1
      have P1_0 : Hid (∀ q ∈ F1, Plain wr q) := Lib.hid (fun q hq => hpr q (HS.out q (by simp [hq])))
      clear q1
      have c0_0 : wr.cell? ⟨b, off + j * 2, none⟩ = _ := C0.out 0 _ rfl
      have c0_1 := C0.out 1 _ rfl
      have z0 := T0.here.free
      go_wp2_with fail
      refine (markIntS_run _ _ xs[j].cells F0 _ Q0_0.out dn0 (fun q hq => P0_0.out q hq) (by omega) (by omega)).mono ?_
      rintro e w1 ⟨rfl, q0, p0, hb1⟩
      have T1 := Trk.step T0 hb1 (fun q hq => by simp [hq]) ns0 p0
      have C1 := Lib.hid (CellsAt.step C0.out hb1 ns0)
      have Q0_1 := Lib.hid q0
      have P0_1 := Lib.hid p0
      clear q0 p0
      have dq : ∀ x ∈ F1, x ∉ F0 := fun x hx hm => db0 x (by simp [hx]) hm
      have Q1_1 := Lib.hid (Off.rep hb1 Q1_0.out dq)
      have P1_1 : Hid (∀ q ∈ F1, Plain w1 q) := Lib.hid (fun x hx => Off.plain hb1 ((fun q hq => P1_0.out q hq) x hx) (dq x hx))
      clear dq
      clear hb1 c0_0 c0_1 z0
      have c1_0 : w1.cell? ⟨b, off + j * 2, none⟩ = _ := C1.out 0 _ rfl
      have c1_1 := C1.out 1 _ rfl
      have z1 := T1.here.free
      go_wp2_with fail
      refine (markOriginS_run _ _ xs[j].from_ F1 _ Q1_1.out dn1 (fun q hq => P1_1.out q hq) (by omega) (by omega)).mono ?_
      rintro e w2 ⟨rfl, q1, p1, hb2⟩
      have T2 := Trk.step T1 hb2 (fun q hq => by simp [hq]) ns1 p1
      have C2 := Lib.hid (CellsAt.step C1.out hb2 ns1)
      have dq : ∀ x ∈ F0, x ∉ F1 := fun x hx hm => da0 x hx (by simp [hm])
      have Q0_2 := Lib.hid (Off.rep hb2 Q0_1.out dq)
      have P0_2 : Hid (∀ q ∈ F0, Plain w2 q) := Lib.hid (fun x hx => Off.plain hb2 ((fun q hq => P0_1.out q hq) x hx) (dq x hx))
      clear dq
      have Q1_2 := Lib.hid q1
      have P1_2 := Lib.hid p1
      clear q1 p1
      clear hb2 c1_0 c1_1 z1
      have c2_0 : w2.cell? ⟨b, off + j * 2, none⟩ = _ := C2.out 0 _ rfl
      have c2_1 := C2.out 1 _ rfl
      have z2 := T2.here.free
      go_wp2_with fail
      go_roundw
      case rel =>
        refine ⟨j + 1, by omega, by go_num, int_eq (by have h1 := HE1.out; have h2 := HE3.out; have h3 := HK.out; rw [h2] at h1; omega), ?_, Trk.plains T2 hpr, hoff.trans (Off.sub (Trk.off T2) (fun q hq => by rcases List.mem_cons.1 hq with rfl | hq; exact hbF; exact HS.out q hq))⟩
        have hm : TRow.markL (xs.take (j + 1)) k = TRow.markL (xs.take j) k ++ [TRow.mark xs[j] kk] := by
          rw [TRow.markL_eq, TRow.markL_eq, mkL_take_succ xs j k hlt, HK.out, TRow.cnL_eq]
        rw [hm, List.map_append, List.append_assoc]
        refine HB.out _ (TRow.d (TRow.mark xs[j] kk)) _ (by simp) ?_ C2.out T2
        simp only [TRow.mark_eq, TRow.d]
        rw [rep_agg]
        exact repL_of (mk_cons (mk_slE Q0_2.out rfl) (mk_cons (mk_slE Q1_2.out rfl) mk_nil)) rfl (by first | rfl | simp only [List.nil_append, List.append_nil, List.append_assoc])
      case measure => simp [intOf]; omega
    · have hj' : j = xs.length := by omega
      subst hj'
      rw [List.take_of_length_le (Nat.le_refl _), List.drop_of_length_le (Nat.le_refl _)] at hs
      rw [List.take_of_length_le (Nat.le_refl _)]
      have HQ := Lib.hid hs
      clear hs
      go_wp2_with fail
      go_ret
      exact ⟨rfl, by have := HQ.out; simpa using this, hpr, hoff⟩
end Go.Proofs.YtmiboaogfjgkjaaGreatDoor
/- The laws' marks written into slices of Value, and their test. Conditions: the marks are numbers between 0 and 1099511627776. Written by a program of mine. -/
set_option linter.unusedSimpArgs false
set_option linter.unusedVariables false
namespace Go.Proofs.YtmiboaogfjgkjaaGreatDoor
open Go.RowKit
theorem TValue.wd_ (x : TValue) : wd x.d = 7 := by simp [TValue.d_eq, wd, wdL]
theorem TValue.wds (xs : List TValue) : ∀ d ∈ xs.map TValue.d, wd d = 7 := by
  intro d hd
  obtain ⟨x, _, rfl⟩ := List.mem_map.1 hd
  exact x.wd_
theorem TValue.open_ {w : World} {x : TValue} {cs : List Value} {F : List Nat} (h : Rep w x.d cs F) :
    ∃ (A4 : Option Addr) (c4 : Nat) (F4 : List Nat) (A5 : Option Addr) (c5 : Nat) (F5 : List Nat) (A6 : Option Addr) (c6 : Nat) (F6 : List Nat), cs = [.int .i64 x.kind, .int .i64 x.n, .int .i64 x.step, .string x.text, .slice A4 x.list.length c4, .slice A5 x.columns.length c5, .slice A6 x.rows.length c6] ∧ F = F4 ++ (F5 ++ F6) ∧ I64 x.kind ∧ I64 x.n ∧ I64 x.step ∧ Fits x.text ∧ SlAt w (.slice A4 x.list.length c4) (x.list.map TValue.d) F4 ∧ SlAt w (.slice A5 x.columns.length c5) (x.columns.map D.str) F5 ∧ SlAt w (.slice A6 x.rows.length c6) (x.rows.map TRow.d) F6 := by
  simp only [TValue.d_eq, rep_agg, repL_cons, repL_nil, rep_int, rep_bool, rep_str, rep_sl, List.length_map] at h
  obtain ⟨_, _, _, _, rfl, rfl, ⟨rfl, rfl, i0⟩, ⟨_, _, _, _, rfl, rfl, ⟨rfl, rfl, i1⟩, ⟨_, _, _, _, rfl, rfl, ⟨rfl, rfl, i2⟩, ⟨_, _, _, _, rfl, rfl, ⟨rfl, rfl, i3⟩, ⟨_, _, F4, _, rfl, rfl, ⟨A4, c4, rfl, q4⟩, ⟨_, _, F5, _, rfl, rfl, ⟨A5, c5, rfl, q5⟩, ⟨_, _, F6, _, rfl, rfl, ⟨A6, c6, rfl, q6⟩, ⟨rfl, rfl⟩⟩⟩⟩⟩⟩⟩⟩ := h
  exact ⟨A4, c4, F4, A5, c5, F5, A6, c6, F6, rfl, by simp, i0, i1, i2, i3, q4, q5, q6⟩
set_option maxHeartbeats 4000000 in
set_option maxRecDepth 100000 in
theorem markValueS_core (N0 : Nat) (ihS : ∀ (w : World) (v : Value) (xs : List TValue) (F : List Nat) (k : Int) (hN : nd (.sl (xs.map TValue.d)) < N0) (h : SlAt w v (xs.map TValue.d) F) (hn : F.Nodup) (hp : ∀ q ∈ F, Plain w q) (h0 : 0 ≤ k) (h1 : k + ((TValue.cnL xs : Nat) : Int) ≤ 1099511627776), Calls Tryz.prog 32 #[v, .int .i64 k] w fun e w' => e = .returned (.int .i64 (k + ((TValue.cnL xs : Nat) : Int))) ∧ SlAt w' v ((TValue.markL xs k).map TValue.d) F ∧ (∀ q ∈ F, Plain w' q) ∧ Off F w w') (w : World) (v : Value) (xs : List TValue) (F : List Nat) (k : Int) (hN : nd (.sl (xs.map TValue.d)) ≤ N0) (h : SlAt w v (xs.map TValue.d) F) (hn : F.Nodup) (hp : ∀ q ∈ F, Plain w q) (h0 : 0 ≤ k) (h1 : k + ((TValue.cnL xs : Nat) : Int) ≤ 1099511627776) :
    Calls Tryz.prog 32 #[v, .int .i64 k] w fun e w' => e = .returned (.int .i64 (k + ((TValue.cnL xs : Nat) : Int))) ∧ SlAt w' v ((TValue.markL xs k).map TValue.d) F ∧ (∀ q ∈ F, Plain w' q) ∧ Off F w w' := by
  have HI := Lib.hid ihS
  clear ihS
  have HN := Lib.hid hN
  clear hN
  obtain ⟨A, c, rfl, hc, hcm⟩ := h.form
  rw [List.length_map] at h hc ⊢
  have hP := Lib.hid hp
  have H1 := Lib.hid h1
  clear hp h1
  go_enter Tryz.func32, Tryz.ntmps32
  go_wp2_with fail
  go_loopw [1, 5] (fun kk i wr => ∃ j : Nat, j ≤ xs.length ∧ i = .int .i64 j ∧ kk = .int .i64 (k + ((TValue.cnL (xs.take j) : Nat) : Int)) ∧ SlAt wr (.slice A xs.length c) ((TValue.markL (xs.take j) k).map TValue.d ++ (xs.drop j).map TValue.d) F ∧ (∀ q ∈ F, Plain wr q) ∧ Off F w wr) (fun _ i _ => xs.length - (intOf i).toNat)
  case atStart => exact ⟨0, Nat.zero_le _, rfl, int_eq (by rw [List.take_zero, TValue.cnL_eq]; simp [cnS]), by rw [List.take_zero, List.drop_zero, TValue.markL_eq]; exact h, hP.out, Off.refl _ _⟩
  case round =>
    obtain ⟨j, hj, rfl, rfl, hs, hpr, hoff⟩ := hrel
    by_cases hlt : j < xs.length
    · have ed : xs.drop j = xs[j] :: xs.drop (j + 1) := List.drop_eq_getElem_cons hlt
      rw [ed, List.map_cons] at hs
      obtain ⟨b, off, ys, Fi, rfl, hbF, hbFi, hni, hsub, hr, hlen, hcell, hback⟩ := hs.take_out (W := 7) (by
        intro y hy
        rcases List.mem_append.1 hy with hy | hy
        · exact TValue.wds _ y hy
        · rw [← List.map_cons] at hy; exact TValue.wds _ y hy) (by omega) hn
      have el : ((TValue.markL (xs.take j) k).map TValue.d).length = j := by rw [List.length_map, TValue.markL_eq, mkL_length, List.length_take]; omega
      rw [el] at hcell hback
      have e1 : TValue.cnL (xs.take (j + 1)) = TValue.cnL (xs.take j) + TValue.cn xs[j] := by rw [TValue.cnL_eq, TValue.cnL_eq]; exact cnS_take_succ xs j hlt
      have e2 : TValue.cnL (xs.take (j + 1)) ≤ TValue.cnL xs := by rw [TValue.cnL_eq, TValue.cnL_eq]; exact cnS_take_le xs (j + 1)
      have e3 : TValue.cn xs[j] = 4 + TValue.cnL xs[j].list + strCnL xs[j].columns + TRow.cnL xs[j].rows := TValue.cn_eq _
      obtain ⟨kk, hkk⟩ : ∃ kk : Int, kk = k + ((TValue.cnL (xs.take j) : Nat) : Int) := ⟨_, rfl⟩
      rw [← hkk]
      have k0 : 0 ≤ kk := by omega
      have k1 : kk + 4 + ((TValue.cnL xs[j].list : Nat) : Int) + ((strCnL xs[j].columns : Nat) : Int) + ((TRow.cnL xs[j].rows : Nat) : Int) ≤ 1099511627776 := by have := H1.out; rw [e3] at e1; omega
      have HE1 := Lib.hid e1
      have HE3 := Lib.hid e3
      have HK := Lib.hid hkk
      have HB := Lib.hid hback
      have HS := Lib.hid hsub
      clear e1 e2 e3 hkk hback hsub ed el hs h hlen
      obtain ⟨A4, c4, F4, A5, c5, F5, A6, c6, F6, rfl, hF, _, _, _, _, q4, q5, q6⟩ := TValue.open_ hr
      clear hr
      have hlt' : nd (.sl (xs[j].list.map TValue.d)) < N0 := by
        have h1 := HN.out
        have h2 := ndL_get (xs.map TValue.d) j (by simpa using hlt)
        simp only [nd, List.getElem_map] at h1 h2
        rw [TValue.d_eq] at h2
        simp only [nd, ndL] at h2 ⊢
        omega
      have hF := hF.symm
      subst hF
      obtain ⟨da4, db4, dn4, dr4⟩ := nodup_two hni
      obtain ⟨da5, db5, dn5, dr5⟩ := nodup_two dr4
      have dn6 := dr5
      have ns4 : b ∉ F4 := fun hm => hbFi (by simp [hm])
      have ns5 : b ∉ F5 := fun hm => hbFi (by simp [hm])
      have ns6 : b ∉ F6 := fun hm => hbFi (by simp [hm])
      have T0 : Trk wr wr b (off + j * 7) (off + j * 7 + 7) _ := Trk.start (hpr b hbF) (fun q hq => hpr q (HS.out q hq))
      have C0 := Lib.hid hcell
      clear hcell hni
      have Q4_0 := Lib.hid q4
      have P4_0 : Hid (∀ q ∈ F4, Plain wr q) := Lib.hid (fun q hq => hpr q (HS.out q (by simp [hq])))
      clear q4
      have Q5_0 := Lib.hid q5
      have P5_0 : Hid (∀ q ∈ F5, Plain wr q) := Lib.hid (fun q hq => hpr q (HS.out q (by simp [hq])))
      clear q5
      have Q6_0 := Lib.hid q6
      have P6_0 : Hid (∀ q ∈ F6, Plain wr q) := Lib.hid (fun q hq => hpr q (HS.out q (by simp [hq])))
      clear q6
      have c0_0 : wr.cell? ⟨b, off + j * 7, none⟩ = _ := C0.out 0 _ rfl
      have c0_1 := C0.out 1 _ rfl
      have c0_2 := C0.out 2 _ rfl
      have c0_3 := C0.out 3 _ rfl
      have c0_4 := C0.out 4 _ rfl
      have c0_5 := C0.out 5 _ rfl
      have c0_6 := C0.out 6 _ rfl
      have z0 := T0.here.free
      go_wp2_with fail
      refine (markText_any _ _ (by omega)).mono ?_
      rintro e w1 ⟨rfl, hb1⟩
      have T1 := Trk.next (Trk.set (Trk.set (Trk.set T0 0 (by omega) _) 1 (by omega) _) 2 (by omega) _) hb1
      have C1 := Lib.hid (CellsAt.next (CellsAt.setAt (CellsAt.setAt (CellsAt.setAt C0.out 0 (by simp) _) 1 (by simp) _) 2 (by simp) _) hb1)
      have Q4_1 := Lib.hid (Rep.below (Rep.set (Rep.set (Rep.set Q4_0.out ns4 _) ns4 _) ns4 _) hb1)
      have P4_1 := Lib.hid (fun q hq => Plain.next ((fun q hq => Plain.set (Plain.set (Plain.set (P4_0.out q hq) _ _) _ _) _ _) q hq) hb1)
      have Q5_1 := Lib.hid (Rep.below (Rep.set (Rep.set (Rep.set Q5_0.out ns5 _) ns5 _) ns5 _) hb1)
      have P5_1 := Lib.hid (fun q hq => Plain.next ((fun q hq => Plain.set (Plain.set (Plain.set (P5_0.out q hq) _ _) _ _) _ _) q hq) hb1)
      have Q6_1 := Lib.hid (Rep.below (Rep.set (Rep.set (Rep.set Q6_0.out ns6 _) ns6 _) ns6 _) hb1)
      have P6_1 := Lib.hid (fun q hq => Plain.next ((fun q hq => Plain.set (Plain.set (Plain.set (P6_0.out q hq) _ _) _ _) _ _) q hq) hb1)
      clear hb1 c0_0 c0_1 c0_2 c0_3 c0_4 c0_5 c0_6 z0
      have c1_0 : w1.cell? ⟨b, off + j * 7, none⟩ = _ := C1.out 0 _ rfl
      have c1_1 := C1.out 1 _ rfl
      have c1_2 := C1.out 2 _ rfl
      have c1_3 := C1.out 3 _ rfl
      have c1_4 := C1.out 4 _ rfl
      have c1_5 := C1.out 5 _ rfl
      have c1_6 := C1.out 6 _ rfl
      have z1 := T1.here.free
      go_wp2_with fail
      refine (HI.out _ _ xs[j].list F4 _ hlt' (Rep.set Q4_1.out ns4 _) dn4 (fun q hq => Plain.set (P4_1.out q hq) _ _) (by omega) (by omega)).mono ?_
      rintro e w2 ⟨rfl, q4, p4, hb2⟩
      have T2 := Trk.step (Trk.set T1 3 (by omega) _) hb2 (fun q hq => by simp [hq]) ns4 p4
      have C2 := Lib.hid (CellsAt.step (CellsAt.setAt C1.out 3 (by simp) _) hb2 ns4)
      have Q4_2 := Lib.hid q4
      have P4_2 := Lib.hid p4
      clear q4 p4
      have dq : ∀ x ∈ F5, x ∉ F4 := fun x hx hm => db4 x (by simp [hx]) hm
      have Q5_2 := Lib.hid (Off.rep hb2 (Rep.set Q5_1.out ns5 _) dq)
      have P5_2 : Hid (∀ q ∈ F5, Plain w2 q) := Lib.hid (fun x hx => Off.plain hb2 ((fun q hq => Plain.set (P5_1.out q hq) _ _) x hx) (dq x hx))
      clear dq
      have dq : ∀ x ∈ F6, x ∉ F4 := fun x hx hm => db4 x (by simp [hx]) hm
      have Q6_2 := Lib.hid (Off.rep hb2 (Rep.set Q6_1.out ns6 _) dq)
      have P6_2 : Hid (∀ q ∈ F6, Plain w2 q) := Lib.hid (fun x hx => Off.plain hb2 ((fun q hq => Plain.set (P6_1.out q hq) _ _) x hx) (dq x hx))
      clear dq
      clear hb2 c1_0 c1_1 c1_2 c1_3 c1_4 c1_5 c1_6 z1
      have c2_0 : w2.cell? ⟨b, off + j * 7, none⟩ = _ := C2.out 0 _ rfl
      have c2_1 := C2.out 1 _ rfl
      have c2_2 := C2.out 2 _ rfl
      have c2_3 := C2.out 3 _ rfl
      have c2_4 := C2.out 4 _ rfl
      have c2_5 := C2.out 5 _ rfl
      have c2_6 := C2.out 6 _ rfl
      have z2 := T2.here.free
      go_wp2_with fail
      refine (markStringS_run _ _ xs[j].columns F5 _ Q5_2.out dn5 (fun q hq => P5_2.out q hq) (by omega) (by omega)).mono ?_
      rintro e w3 ⟨rfl, q5, p5, hb3⟩
      have T3 := Trk.step T2 hb3 (fun q hq => by simp [hq]) ns5 p5
      have C3 := Lib.hid (CellsAt.step C2.out hb3 ns5)
      have dq : ∀ x ∈ F4, x ∉ F5 := fun x hx hm => da4 x hx (by simp [hm])
      have Q4_3 := Lib.hid (Off.rep hb3 Q4_2.out dq)
      have P4_3 : Hid (∀ q ∈ F4, Plain w3 q) := Lib.hid (fun x hx => Off.plain hb3 ((fun q hq => P4_2.out q hq) x hx) (dq x hx))
      clear dq
      have Q5_3 := Lib.hid q5
      have P5_3 := Lib.hid p5
      clear q5 p5
      have dq : ∀ x ∈ F6, x ∉ F5 := fun x hx hm => db5 x (by simp [hx]) hm
      have Q6_3 := Lib.hid (Off.rep hb3 Q6_2.out dq)
      have P6_3 : Hid (∀ q ∈ F6, Plain w3 q) := Lib.hid (fun x hx => Off.plain hb3 ((fun q hq => P6_2.out q hq) x hx) (dq x hx))
      clear dq
      clear hb3 c2_0 c2_1 c2_2 c2_3 c2_4 c2_5 c2_6 z2
      have c3_0 : w3.cell? ⟨b, off + j * 7, none⟩ = _ := C3.out 0 _ rfl
      have c3_1 := C3.out 1 _ rfl
      have c3_2 := C3.out 2 _ rfl
      have c3_3 := C3.out 3 _ rfl
      have c3_4 := C3.out 4 _ rfl
      have c3_5 := C3.out 5 _ rfl
      have c3_6 := C3.out 6 _ rfl
      have z3 := T3.here.free
      go_wp2_with fail
      refine (markRowS_run _ _ xs[j].rows F6 _ Q6_3.out dn6 (fun q hq => P6_3.out q hq) (by omega) (by omega)).mono ?_
      rintro e w4 ⟨rfl, q6, p6, hb4⟩
      have T4 := Trk.step T3 hb4 (fun q hq => by simp [hq]) ns6 p6
      have C4 := Lib.hid (CellsAt.step C3.out hb4 ns6)
      have dq : ∀ x ∈ F4, x ∉ F6 := fun x hx hm => da4 x hx (by simp [hm])
      have Q4_4 := Lib.hid (Off.rep hb4 Q4_3.out dq)
      have P4_4 : Hid (∀ q ∈ F4, Plain w4 q) := Lib.hid (fun x hx => Off.plain hb4 ((fun q hq => P4_3.out q hq) x hx) (dq x hx))
      clear dq
      have dq : ∀ x ∈ F5, x ∉ F6 := fun x hx hm => da5 x hx (by simp [hm])
      have Q5_4 := Lib.hid (Off.rep hb4 Q5_3.out dq)
      have P5_4 : Hid (∀ q ∈ F5, Plain w4 q) := Lib.hid (fun x hx => Off.plain hb4 ((fun q hq => P5_3.out q hq) x hx) (dq x hx))
      clear dq
      have Q6_4 := Lib.hid q6
      have P6_4 := Lib.hid p6
      clear q6 p6
      clear hb4 c3_0 c3_1 c3_2 c3_3 c3_4 c3_5 c3_6 z3
      have c4_0 : w4.cell? ⟨b, off + j * 7, none⟩ = _ := C4.out 0 _ rfl
      have c4_1 := C4.out 1 _ rfl
      have c4_2 := C4.out 2 _ rfl
      have c4_3 := C4.out 3 _ rfl
      have c4_4 := C4.out 4 _ rfl
      have c4_5 := C4.out 5 _ rfl
      have c4_6 := C4.out 6 _ rfl
      have z4 := T4.here.free
      go_wp2_with fail
      go_roundw
      case rel =>
        refine ⟨j + 1, by omega, by go_num, int_eq (by have h1 := HE1.out; have h2 := HE3.out; have h3 := HK.out; rw [h2] at h1; omega), ?_, Trk.plains T4 hpr, hoff.trans (Off.sub (Trk.off T4) (fun q hq => by rcases List.mem_cons.1 hq with rfl | hq; exact hbF; exact HS.out q hq))⟩
        have hm : TValue.markL (xs.take (j + 1)) k = TValue.markL (xs.take j) k ++ [TValue.mark xs[j] kk] := by
          rw [TValue.markL_eq, TValue.markL_eq, mkL_take_succ xs j k hlt, HK.out, TValue.cnL_eq]
        rw [hm, List.map_append, List.append_assoc]
        refine HB.out _ (TValue.d (TValue.mark xs[j] kk)) _ (by simp) ?_ C4.out T4
        simp only [TValue.mark_eq, TValue.d_eq]
        rw [rep_agg]
        exact repL_of (mk_cons (mk_intE (i64_mid (by omega) (by omega)) (by first | rfl | omega)) (mk_cons (mk_intE (i64_mid (by omega) (by omega)) (by first | rfl | omega)) (mk_cons (mk_intE (i64_mid (by omega) (by omega)) (by first | rfl | omega)) (mk_cons (mk_strE (by omega) (by first | rfl | omega)) (mk_cons (mk_slE Q4_4.out rfl) (mk_cons (mk_slE Q5_4.out rfl) (mk_cons (mk_slE Q6_4.out rfl) mk_nil))))))) rfl (by first | rfl | simp only [List.nil_append, List.append_nil, List.append_assoc])
      case measure => simp [intOf]; omega
    · have hj' : j = xs.length := by omega
      subst hj'
      rw [List.take_of_length_le (Nat.le_refl _), List.drop_of_length_le (Nat.le_refl _)] at hs
      rw [List.take_of_length_le (Nat.le_refl _)]
      have HQ := Lib.hid hs
      clear hs
      go_wp2_with fail
      go_ret
      exact ⟨rfl, by have := HQ.out; simpa using this, hpr, hoff⟩
theorem markValueS_all (N0 : Nat) : ∀ (w : World) (v : Value) (xs : List TValue) (F : List Nat) (k : Int) (hN : nd (.sl (xs.map TValue.d)) ≤ N0) (h : SlAt w v (xs.map TValue.d) F) (hn : F.Nodup) (hp : ∀ q ∈ F, Plain w q) (h0 : 0 ≤ k) (h1 : k + ((TValue.cnL xs : Nat) : Int) ≤ 1099511627776), Calls Tryz.prog 32 #[v, .int .i64 k] w fun e w' => e = .returned (.int .i64 (k + ((TValue.cnL xs : Nat) : Int))) ∧ SlAt w' v ((TValue.markL xs k).map TValue.d) F ∧ (∀ q ∈ F, Plain w' q) ∧ Off F w w' := by
  induction N0 using Nat.strongRecOn with
  | _ N0 ih => exact markValueS_core N0 (fun w v xs F k hN h hn hp h0 h1 => ih _ hN w v xs F k (Nat.le_refl _) h hn hp h0 h1)
theorem markValueS_run (w : World) (v : Value) (xs : List TValue) (F : List Nat) (k : Int) (h : SlAt w v (xs.map TValue.d) F) (hn : F.Nodup) (hp : ∀ q ∈ F, Plain w q) (h0 : 0 ≤ k) (h1 : k + ((TValue.cnL xs : Nat) : Int) ≤ 1099511627776) :
    Calls Tryz.prog 32 #[v, .int .i64 k] w fun e w' => e = .returned (.int .i64 (k + ((TValue.cnL xs : Nat) : Int))) ∧ SlAt w' v ((TValue.markL xs k).map TValue.d) F ∧ (∀ q ∈ F, Plain w' q) ∧ Off F w w' := markValueS_all _ w v xs F k (Nat.le_refl _) h hn hp h0 h1
end Go.Proofs.YtmiboaogfjgkjaaGreatDoor
/- The laws' marks written into slices of Read, and their test. Conditions: the marks are numbers between 0 and 1099511627776. Written by a program of mine. -/
set_option linter.unusedSimpArgs false
set_option linter.unusedVariables false
namespace Go.Proofs.YtmiboaogfjgkjaaGreatDoor
open Go.RowKit
theorem TRead.wd_ (x : TRead) : wd x.d = 11 := by simp [TRead.d, TValue.d_eq, wd, wdL]
theorem TRead.wds (xs : List TRead) : ∀ d ∈ xs.map TRead.d, wd d = 11 := by
  intro d hd
  obtain ⟨x, _, rfl⟩ := List.mem_map.1 hd
  exact x.wd_
theorem TRead.open_ {w : World} {x : TRead} {cs : List Value} {F : List Nat} (h : Rep w x.d cs F) :
    ∃ (A8 : Option Addr) (c8 : Nat) (F8 : List Nat) (A9 : Option Addr) (c9 : Nat) (F9 : List Nat) (A10 : Option Addr) (c10 : Nat) (F10 : List Nat), cs = [.int .i64 x.kind, .int .i64 x.n, .int .i64 x.time, .string x.text, .int .i64 x.result.kind, .int .i64 x.result.n, .int .i64 x.result.step, .string x.result.text, .slice A8 x.result.list.length c8, .slice A9 x.result.columns.length c9, .slice A10 x.result.rows.length c10] ∧ F = F8 ++ (F9 ++ F10) ∧ I64 x.kind ∧ I64 x.n ∧ I64 x.time ∧ Fits x.text ∧ I64 x.result.kind ∧ I64 x.result.n ∧ I64 x.result.step ∧ Fits x.result.text ∧ SlAt w (.slice A8 x.result.list.length c8) (x.result.list.map TValue.d) F8 ∧ SlAt w (.slice A9 x.result.columns.length c9) (x.result.columns.map D.str) F9 ∧ SlAt w (.slice A10 x.result.rows.length c10) (x.result.rows.map TRow.d) F10 := by
  simp only [TRead.d, TValue.d_eq, rep_agg, repL_cons, repL_nil, rep_int, rep_bool, rep_str, rep_sl, List.length_map] at h
  obtain ⟨_, _, _, _, rfl, rfl, ⟨rfl, rfl, i0⟩, ⟨_, _, _, _, rfl, rfl, ⟨rfl, rfl, i1⟩, ⟨_, _, _, _, rfl, rfl, ⟨rfl, rfl, i2⟩, ⟨_, _, _, _, rfl, rfl, ⟨rfl, rfl, i3⟩, ⟨_, _, _, _, rfl, rfl, ⟨_, _, _, _, rfl, rfl, ⟨rfl, rfl, i4⟩, ⟨_, _, _, _, rfl, rfl, ⟨rfl, rfl, i5⟩, ⟨_, _, _, _, rfl, rfl, ⟨rfl, rfl, i6⟩, ⟨_, _, _, _, rfl, rfl, ⟨rfl, rfl, i7⟩, ⟨_, _, F8, _, rfl, rfl, ⟨A8, c8, rfl, q8⟩, ⟨_, _, F9, _, rfl, rfl, ⟨A9, c9, rfl, q9⟩, ⟨_, _, F10, _, rfl, rfl, ⟨A10, c10, rfl, q10⟩, ⟨rfl, rfl⟩⟩⟩⟩⟩⟩⟩⟩, ⟨rfl, rfl⟩⟩⟩⟩⟩⟩ := h
  exact ⟨A8, c8, F8, A9, c9, F9, A10, c10, F10, rfl, by simp, i0, i1, i2, i3, i4, i5, i6, i7, q8, q9, q10⟩
set_option maxHeartbeats 4000000 in
set_option maxRecDepth 100000 in
theorem markReadS_run (w : World) (v : Value) (xs : List TRead) (F : List Nat) (k : Int) (h : SlAt w v (xs.map TRead.d) F) (hn : F.Nodup) (hp : ∀ q ∈ F, Plain w q) (h0 : 0 ≤ k) (h1 : k + ((TRead.cnL xs : Nat) : Int) ≤ 1099511627776) :
    Calls Tryz.prog 52 #[v, .int .i64 k] w fun e w' => e = .returned (.int .i64 (k + ((TRead.cnL xs : Nat) : Int))) ∧ SlAt w' v ((TRead.markL xs k).map TRead.d) F ∧ (∀ q ∈ F, Plain w' q) ∧ Off F w w' := by
  obtain ⟨A, c, rfl, hc, hcm⟩ := h.form
  rw [List.length_map] at h hc ⊢
  have hP := Lib.hid hp
  have H1 := Lib.hid h1
  clear hp h1
  go_enter Tryz.func52, Tryz.ntmps52
  go_wp2_with fail
  go_loopw [1, 5] (fun kk i wr => ∃ j : Nat, j ≤ xs.length ∧ i = .int .i64 j ∧ kk = .int .i64 (k + ((TRead.cnL (xs.take j) : Nat) : Int)) ∧ SlAt wr (.slice A xs.length c) ((TRead.markL (xs.take j) k).map TRead.d ++ (xs.drop j).map TRead.d) F ∧ (∀ q ∈ F, Plain wr q) ∧ Off F w wr) (fun _ i _ => xs.length - (intOf i).toNat)
  case atStart => exact ⟨0, Nat.zero_le _, rfl, int_eq (by rw [List.take_zero, TRead.cnL_eq]; simp [cnS]), by rw [List.take_zero, List.drop_zero, TRead.markL_eq]; exact h, hP.out, Off.refl _ _⟩
  case round =>
    obtain ⟨j, hj, rfl, rfl, hs, hpr, hoff⟩ := hrel
    by_cases hlt : j < xs.length
    · have ed : xs.drop j = xs[j] :: xs.drop (j + 1) := List.drop_eq_getElem_cons hlt
      rw [ed, List.map_cons] at hs
      obtain ⟨b, off, ys, Fi, rfl, hbF, hbFi, hni, hsub, hr, hlen, hcell, hback⟩ := hs.take_out (W := 11) (by
        intro y hy
        rcases List.mem_append.1 hy with hy | hy
        · exact TRead.wds _ y hy
        · rw [← List.map_cons] at hy; exact TRead.wds _ y hy) (by omega) hn
      have el : ((TRead.markL (xs.take j) k).map TRead.d).length = j := by rw [List.length_map, TRead.markL_eq, mkL_length, List.length_take]; omega
      rw [el] at hcell hback
      have e1 : TRead.cnL (xs.take (j + 1)) = TRead.cnL (xs.take j) + TRead.cn xs[j] := by rw [TRead.cnL_eq, TRead.cnL_eq]; exact cnS_take_succ xs j hlt
      have e2 : TRead.cnL (xs.take (j + 1)) ≤ TRead.cnL xs := by rw [TRead.cnL_eq, TRead.cnL_eq]; exact cnS_take_le xs (j + 1)
      have e3 : TRead.cn xs[j] = 8 + TValue.cnL xs[j].result.list + strCnL xs[j].result.columns + TRow.cnL xs[j].result.rows := TRead.cn_eq _
      obtain ⟨kk, hkk⟩ : ∃ kk : Int, kk = k + ((TRead.cnL (xs.take j) : Nat) : Int) := ⟨_, rfl⟩
      rw [← hkk]
      have k0 : 0 ≤ kk := by omega
      have k1 : kk + 8 + ((TValue.cnL xs[j].result.list : Nat) : Int) + ((strCnL xs[j].result.columns : Nat) : Int) + ((TRow.cnL xs[j].result.rows : Nat) : Int) ≤ 1099511627776 := by have := H1.out; rw [e3] at e1; omega
      have HE1 := Lib.hid e1
      have HE3 := Lib.hid e3
      have HK := Lib.hid hkk
      have HB := Lib.hid hback
      have HS := Lib.hid hsub
      clear e1 e2 e3 hkk hback hsub ed el hs h hlen
      obtain ⟨A8, c8, F8, A9, c9, F9, A10, c10, F10, rfl, hF, _, _, _, _, _, _, _, _, q8, q9, q10⟩ := TRead.open_ hr
      clear hr
      have hF := hF.symm
      subst hF
      obtain ⟨da8, db8, dn8, dr8⟩ := nodup_two hni
      obtain ⟨da9, db9, dn9, dr9⟩ := nodup_two dr8
      have dn10 := dr9
      have ns8 : b ∉ F8 := fun hm => hbFi (by simp [hm])
      have ns9 : b ∉ F9 := fun hm => hbFi (by simp [hm])
      have ns10 : b ∉ F10 := fun hm => hbFi (by simp [hm])
      have T0 : Trk wr wr b (off + j * 11) (off + j * 11 + 11) _ := Trk.start (hpr b hbF) (fun q hq => hpr q (HS.out q hq))
      have C0 := Lib.hid hcell
      clear hcell hni
      have Q8_0 := Lib.hid q8
      have P8_0 : Hid (∀ q ∈ F8, Plain wr q) := Lib.hid (fun q hq => hpr q (HS.out q (by simp [hq])))
      clear q8
      have Q9_0 := Lib.hid q9
      have P9_0 : Hid (∀ q ∈ F9, Plain wr q) := Lib.hid (fun q hq => hpr q (HS.out q (by simp [hq])))
      clear q9
      have Q10_0 := Lib.hid q10
      have P10_0 : Hid (∀ q ∈ F10, Plain wr q) := Lib.hid (fun q hq => hpr q (HS.out q (by simp [hq])))
      clear q10
      have c0_0 : wr.cell? ⟨b, off + j * 11, none⟩ = _ := C0.out 0 _ rfl
      have c0_1 := C0.out 1 _ rfl
      have c0_2 := C0.out 2 _ rfl
      have c0_3 := C0.out 3 _ rfl
      have c0_4 := C0.out 4 _ rfl
      have c0_5 := C0.out 5 _ rfl
      have c0_6 := C0.out 6 _ rfl
      have c0_7 := C0.out 7 _ rfl
      have c0_8 := C0.out 8 _ rfl
      have c0_9 := C0.out 9 _ rfl
      have c0_10 := C0.out 10 _ rfl
      have z0 := T0.here.free
      go_wp2_with fail
      refine (markText_any _ _ (by omega)).mono ?_
      rintro e w1 ⟨rfl, hb1⟩
      have T1 := Trk.next (Trk.set (Trk.set (Trk.set T0 0 (by omega) _) 1 (by omega) _) 2 (by omega) _) hb1
      have C1 := Lib.hid (CellsAt.next (CellsAt.setAt (CellsAt.setAt (CellsAt.setAt C0.out 0 (by simp) _) 1 (by simp) _) 2 (by simp) _) hb1)
      have Q8_1 := Lib.hid (Rep.below (Rep.set (Rep.set (Rep.set Q8_0.out ns8 _) ns8 _) ns8 _) hb1)
      have P8_1 := Lib.hid (fun q hq => Plain.next ((fun q hq => Plain.set (Plain.set (Plain.set (P8_0.out q hq) _ _) _ _) _ _) q hq) hb1)
      have Q9_1 := Lib.hid (Rep.below (Rep.set (Rep.set (Rep.set Q9_0.out ns9 _) ns9 _) ns9 _) hb1)
      have P9_1 := Lib.hid (fun q hq => Plain.next ((fun q hq => Plain.set (Plain.set (Plain.set (P9_0.out q hq) _ _) _ _) _ _) q hq) hb1)
      have Q10_1 := Lib.hid (Rep.below (Rep.set (Rep.set (Rep.set Q10_0.out ns10 _) ns10 _) ns10 _) hb1)
      have P10_1 := Lib.hid (fun q hq => Plain.next ((fun q hq => Plain.set (Plain.set (Plain.set (P10_0.out q hq) _ _) _ _) _ _) q hq) hb1)
      clear hb1 c0_0 c0_1 c0_2 c0_3 c0_4 c0_5 c0_6 c0_7 c0_8 c0_9 c0_10 z0
      have c1_0 : w1.cell? ⟨b, off + j * 11, none⟩ = _ := C1.out 0 _ rfl
      have c1_1 := C1.out 1 _ rfl
      have c1_2 := C1.out 2 _ rfl
      have c1_3 := C1.out 3 _ rfl
      have c1_4 := C1.out 4 _ rfl
      have c1_5 := C1.out 5 _ rfl
      have c1_6 := C1.out 6 _ rfl
      have c1_7 := C1.out 7 _ rfl
      have c1_8 := C1.out 8 _ rfl
      have c1_9 := C1.out 9 _ rfl
      have c1_10 := C1.out 10 _ rfl
      have z1 := T1.here.free
      go_wp2_with fail
      refine (markText_any _ _ (by omega)).mono ?_
      rintro e w2 ⟨rfl, hb2⟩
      have T2 := Trk.next (Trk.set (Trk.set (Trk.set (Trk.set T1 3 (by omega) _) 4 (by omega) _) 5 (by omega) _) 6 (by omega) _) hb2
      have C2 := Lib.hid (CellsAt.next (CellsAt.setAt (CellsAt.setAt (CellsAt.setAt (CellsAt.setAt C1.out 3 (by simp) _) 4 (by simp) _) 5 (by simp) _) 6 (by simp) _) hb2)
      have Q8_2 := Lib.hid (Rep.below (Rep.set (Rep.set (Rep.set (Rep.set Q8_1.out ns8 _) ns8 _) ns8 _) ns8 _) hb2)
      have P8_2 := Lib.hid (fun q hq => Plain.next ((fun q hq => Plain.set (Plain.set (Plain.set (Plain.set (P8_1.out q hq) _ _) _ _) _ _) _ _) q hq) hb2)
      have Q9_2 := Lib.hid (Rep.below (Rep.set (Rep.set (Rep.set (Rep.set Q9_1.out ns9 _) ns9 _) ns9 _) ns9 _) hb2)
      have P9_2 := Lib.hid (fun q hq => Plain.next ((fun q hq => Plain.set (Plain.set (Plain.set (Plain.set (P9_1.out q hq) _ _) _ _) _ _) _ _) q hq) hb2)
      have Q10_2 := Lib.hid (Rep.below (Rep.set (Rep.set (Rep.set (Rep.set Q10_1.out ns10 _) ns10 _) ns10 _) ns10 _) hb2)
      have P10_2 := Lib.hid (fun q hq => Plain.next ((fun q hq => Plain.set (Plain.set (Plain.set (Plain.set (P10_1.out q hq) _ _) _ _) _ _) _ _) q hq) hb2)
      clear hb2 c1_0 c1_1 c1_2 c1_3 c1_4 c1_5 c1_6 c1_7 c1_8 c1_9 c1_10 z1
      have c2_0 : w2.cell? ⟨b, off + j * 11, none⟩ = _ := C2.out 0 _ rfl
      have c2_1 := C2.out 1 _ rfl
      have c2_2 := C2.out 2 _ rfl
      have c2_3 := C2.out 3 _ rfl
      have c2_4 := C2.out 4 _ rfl
      have c2_5 := C2.out 5 _ rfl
      have c2_6 := C2.out 6 _ rfl
      have c2_7 := C2.out 7 _ rfl
      have c2_8 := C2.out 8 _ rfl
      have c2_9 := C2.out 9 _ rfl
      have c2_10 := C2.out 10 _ rfl
      have z2 := T2.here.free
      go_wp2_with fail
      refine (markValueS_run _ _ xs[j].result.list F8 _ (Rep.set Q8_2.out ns8 _) dn8 (fun q hq => Plain.set (P8_2.out q hq) _ _) (by omega) (by omega)).mono ?_
      rintro e w3 ⟨rfl, q8, p8, hb3⟩
      have T3 := Trk.step (Trk.set T2 7 (by omega) _) hb3 (fun q hq => by simp [hq]) ns8 p8
      have C3 := Lib.hid (CellsAt.step (CellsAt.setAt C2.out 7 (by simp) _) hb3 ns8)
      have Q8_3 := Lib.hid q8
      have P8_3 := Lib.hid p8
      clear q8 p8
      have dq : ∀ x ∈ F9, x ∉ F8 := fun x hx hm => db8 x (by simp [hx]) hm
      have Q9_3 := Lib.hid (Off.rep hb3 (Rep.set Q9_2.out ns9 _) dq)
      have P9_3 : Hid (∀ q ∈ F9, Plain w3 q) := Lib.hid (fun x hx => Off.plain hb3 ((fun q hq => Plain.set (P9_2.out q hq) _ _) x hx) (dq x hx))
      clear dq
      have dq : ∀ x ∈ F10, x ∉ F8 := fun x hx hm => db8 x (by simp [hx]) hm
      have Q10_3 := Lib.hid (Off.rep hb3 (Rep.set Q10_2.out ns10 _) dq)
      have P10_3 : Hid (∀ q ∈ F10, Plain w3 q) := Lib.hid (fun x hx => Off.plain hb3 ((fun q hq => Plain.set (P10_2.out q hq) _ _) x hx) (dq x hx))
      clear dq
      clear hb3 c2_0 c2_1 c2_2 c2_3 c2_4 c2_5 c2_6 c2_7 c2_8 c2_9 c2_10 z2
      have c3_0 : w3.cell? ⟨b, off + j * 11, none⟩ = _ := C3.out 0 _ rfl
      have c3_1 := C3.out 1 _ rfl
      have c3_2 := C3.out 2 _ rfl
      have c3_3 := C3.out 3 _ rfl
      have c3_4 := C3.out 4 _ rfl
      have c3_5 := C3.out 5 _ rfl
      have c3_6 := C3.out 6 _ rfl
      have c3_7 := C3.out 7 _ rfl
      have c3_8 := C3.out 8 _ rfl
      have c3_9 := C3.out 9 _ rfl
      have c3_10 := C3.out 10 _ rfl
      have z3 := T3.here.free
      go_wp2_with fail
      refine (markStringS_run _ _ xs[j].result.columns F9 _ Q9_3.out dn9 (fun q hq => P9_3.out q hq) (by omega) (by omega)).mono ?_
      rintro e w4 ⟨rfl, q9, p9, hb4⟩
      have T4 := Trk.step T3 hb4 (fun q hq => by simp [hq]) ns9 p9
      have C4 := Lib.hid (CellsAt.step C3.out hb4 ns9)
      have dq : ∀ x ∈ F8, x ∉ F9 := fun x hx hm => da8 x hx (by simp [hm])
      have Q8_4 := Lib.hid (Off.rep hb4 Q8_3.out dq)
      have P8_4 : Hid (∀ q ∈ F8, Plain w4 q) := Lib.hid (fun x hx => Off.plain hb4 ((fun q hq => P8_3.out q hq) x hx) (dq x hx))
      clear dq
      have Q9_4 := Lib.hid q9
      have P9_4 := Lib.hid p9
      clear q9 p9
      have dq : ∀ x ∈ F10, x ∉ F9 := fun x hx hm => db9 x (by simp [hx]) hm
      have Q10_4 := Lib.hid (Off.rep hb4 Q10_3.out dq)
      have P10_4 : Hid (∀ q ∈ F10, Plain w4 q) := Lib.hid (fun x hx => Off.plain hb4 ((fun q hq => P10_3.out q hq) x hx) (dq x hx))
      clear dq
      clear hb4 c3_0 c3_1 c3_2 c3_3 c3_4 c3_5 c3_6 c3_7 c3_8 c3_9 c3_10 z3
      have c4_0 : w4.cell? ⟨b, off + j * 11, none⟩ = _ := C4.out 0 _ rfl
      have c4_1 := C4.out 1 _ rfl
      have c4_2 := C4.out 2 _ rfl
      have c4_3 := C4.out 3 _ rfl
      have c4_4 := C4.out 4 _ rfl
      have c4_5 := C4.out 5 _ rfl
      have c4_6 := C4.out 6 _ rfl
      have c4_7 := C4.out 7 _ rfl
      have c4_8 := C4.out 8 _ rfl
      have c4_9 := C4.out 9 _ rfl
      have c4_10 := C4.out 10 _ rfl
      have z4 := T4.here.free
      go_wp2_with fail
      refine (markRowS_run _ _ xs[j].result.rows F10 _ Q10_4.out dn10 (fun q hq => P10_4.out q hq) (by omega) (by omega)).mono ?_
      rintro e w5 ⟨rfl, q10, p10, hb5⟩
      have T5 := Trk.step T4 hb5 (fun q hq => by simp [hq]) ns10 p10
      have C5 := Lib.hid (CellsAt.step C4.out hb5 ns10)
      have dq : ∀ x ∈ F8, x ∉ F10 := fun x hx hm => da8 x hx (by simp [hm])
      have Q8_5 := Lib.hid (Off.rep hb5 Q8_4.out dq)
      have P8_5 : Hid (∀ q ∈ F8, Plain w5 q) := Lib.hid (fun x hx => Off.plain hb5 ((fun q hq => P8_4.out q hq) x hx) (dq x hx))
      clear dq
      have dq : ∀ x ∈ F9, x ∉ F10 := fun x hx hm => da9 x hx (by simp [hm])
      have Q9_5 := Lib.hid (Off.rep hb5 Q9_4.out dq)
      have P9_5 : Hid (∀ q ∈ F9, Plain w5 q) := Lib.hid (fun x hx => Off.plain hb5 ((fun q hq => P9_4.out q hq) x hx) (dq x hx))
      clear dq
      have Q10_5 := Lib.hid q10
      have P10_5 := Lib.hid p10
      clear q10 p10
      clear hb5 c4_0 c4_1 c4_2 c4_3 c4_4 c4_5 c4_6 c4_7 c4_8 c4_9 c4_10 z4
      have c5_0 : w5.cell? ⟨b, off + j * 11, none⟩ = _ := C5.out 0 _ rfl
      have c5_1 := C5.out 1 _ rfl
      have c5_2 := C5.out 2 _ rfl
      have c5_3 := C5.out 3 _ rfl
      have c5_4 := C5.out 4 _ rfl
      have c5_5 := C5.out 5 _ rfl
      have c5_6 := C5.out 6 _ rfl
      have c5_7 := C5.out 7 _ rfl
      have c5_8 := C5.out 8 _ rfl
      have c5_9 := C5.out 9 _ rfl
      have c5_10 := C5.out 10 _ rfl
      have z5 := T5.here.free
      go_wp2_with fail
      go_roundw
      case rel =>
        refine ⟨j + 1, by omega, by go_num, int_eq (by have h1 := HE1.out; have h2 := HE3.out; have h3 := HK.out; rw [h2] at h1; omega), ?_, Trk.plains T5 hpr, hoff.trans (Off.sub (Trk.off T5) (fun q hq => by rcases List.mem_cons.1 hq with rfl | hq; exact hbF; exact HS.out q hq))⟩
        have hm : TRead.markL (xs.take (j + 1)) k = TRead.markL (xs.take j) k ++ [TRead.mark xs[j] kk] := by
          rw [TRead.markL_eq, TRead.markL_eq, mkL_take_succ xs j k hlt, HK.out, TRead.cnL_eq]
        rw [hm, List.map_append, List.append_assoc]
        refine HB.out _ (TRead.d (TRead.mark xs[j] kk)) _ (by simp) ?_ C5.out T5
        simp only [TRead.mark_eq, TRead.d, TValue.d_eq]
        rw [rep_agg]
        exact repL_of (mk_cons (mk_intE (i64_mid (by omega) (by omega)) (by first | rfl | omega)) (mk_cons (mk_intE (i64_mid (by omega) (by omega)) (by first | rfl | omega)) (mk_cons (mk_intE (i64_mid (by omega) (by omega)) (by first | rfl | omega)) (mk_cons (mk_strE (by omega) (by first | rfl | omega)) (mk_cons (rep_agg.2 (mk_cons (mk_intE (i64_mid (by omega) (by omega)) (by first | rfl | omega)) (mk_cons (mk_intE (i64_mid (by omega) (by omega)) (by first | rfl | omega)) (mk_cons (mk_intE (i64_mid (by omega) (by omega)) (by first | rfl | omega)) (mk_cons (mk_strE (by omega) (by first | rfl | omega)) (mk_cons (mk_slE Q8_5.out rfl) (mk_cons (mk_slE Q9_5.out rfl) (mk_cons (mk_slE Q10_5.out rfl) mk_nil)))))))) mk_nil))))) rfl (by first | rfl | simp only [List.nil_append, List.append_nil, List.append_assoc])
      case measure => simp [intOf]; omega
    · have hj' : j = xs.length := by omega
      subst hj'
      rw [List.take_of_length_le (Nat.le_refl _), List.drop_of_length_le (Nat.le_refl _)] at hs
      rw [List.take_of_length_le (Nat.le_refl _)]
      have HQ := Lib.hid hs
      clear hs
      go_wp2_with fail
      go_ret
      exact ⟨rfl, by have := HQ.out; simpa using this, hpr, hoff⟩
end Go.Proofs.YtmiboaogfjgkjaaGreatDoor
/- The laws' marks written into slices of Tape, and their test. Conditions: the marks are numbers between 0 and 1099511627776. Written by a program of mine. -/
set_option linter.unusedSimpArgs false
set_option linter.unusedVariables false
namespace Go.Proofs.YtmiboaogfjgkjaaGreatDoor
open Go.RowKit
theorem TTape.wd_ (x : TTape) : wd x.d = 3 := by simp [TTape.d, wd, wdL]
theorem TTape.wds (xs : List TTape) : ∀ d ∈ xs.map TTape.d, wd d = 3 := by
  intro d hd
  obtain ⟨x, _, rfl⟩ := List.mem_map.1 hd
  exact x.wd_
theorem TTape.open_ {w : World} {x : TTape} {cs : List Value} {F : List Nat} (h : Rep w x.d cs F) :
    ∃ (A2 : Option Addr) (c2 : Nat) (F2 : List Nat), cs = [.int .i64 x.cell, .int .i64 x.version, .slice A2 x.reads.length c2] ∧ F = F2 ∧ I64 x.cell ∧ I64 x.version ∧ SlAt w (.slice A2 x.reads.length c2) (x.reads.map TRead.d) F2 := by
  simp only [TTape.d, rep_agg, repL_cons, repL_nil, rep_int, rep_bool, rep_str, rep_sl, List.length_map] at h
  obtain ⟨_, _, _, _, rfl, rfl, ⟨rfl, rfl, i0⟩, ⟨_, _, _, _, rfl, rfl, ⟨rfl, rfl, i1⟩, ⟨_, _, F2, _, rfl, rfl, ⟨A2, c2, rfl, q2⟩, ⟨rfl, rfl⟩⟩⟩⟩ := h
  exact ⟨A2, c2, F2, rfl, by simp, i0, i1, q2⟩
set_option maxHeartbeats 4000000 in
set_option maxRecDepth 100000 in
theorem markTapeS_run (w : World) (v : Value) (xs : List TTape) (F : List Nat) (k : Int) (h : SlAt w v (xs.map TTape.d) F) (hn : F.Nodup) (hp : ∀ q ∈ F, Plain w q) (h0 : 0 ≤ k) (h1 : k + ((TTape.cnL xs : Nat) : Int) ≤ 1099511627776) :
    Calls Tryz.prog 33 #[v, .int .i64 k] w fun e w' => e = .returned (.int .i64 (k + ((TTape.cnL xs : Nat) : Int))) ∧ SlAt w' v ((TTape.markL xs k).map TTape.d) F ∧ (∀ q ∈ F, Plain w' q) ∧ Off F w w' := by
  obtain ⟨A, c, rfl, hc, hcm⟩ := h.form
  rw [List.length_map] at h hc ⊢
  have hP := Lib.hid hp
  have H1 := Lib.hid h1
  clear hp h1
  go_enter Tryz.func33, Tryz.ntmps33
  go_wp2_with fail
  go_loopw [1, 5] (fun kk i wr => ∃ j : Nat, j ≤ xs.length ∧ i = .int .i64 j ∧ kk = .int .i64 (k + ((TTape.cnL (xs.take j) : Nat) : Int)) ∧ SlAt wr (.slice A xs.length c) ((TTape.markL (xs.take j) k).map TTape.d ++ (xs.drop j).map TTape.d) F ∧ (∀ q ∈ F, Plain wr q) ∧ Off F w wr) (fun _ i _ => xs.length - (intOf i).toNat)
  case atStart => exact ⟨0, Nat.zero_le _, rfl, int_eq (by rw [List.take_zero, TTape.cnL_eq]; simp [cnS]), by rw [List.take_zero, List.drop_zero, TTape.markL_eq]; exact h, hP.out, Off.refl _ _⟩
  case round =>
    obtain ⟨j, hj, rfl, rfl, hs, hpr, hoff⟩ := hrel
    by_cases hlt : j < xs.length
    · have ed : xs.drop j = xs[j] :: xs.drop (j + 1) := List.drop_eq_getElem_cons hlt
      rw [ed, List.map_cons] at hs
      obtain ⟨b, off, ys, Fi, rfl, hbF, hbFi, hni, hsub, hr, hlen, hcell, hback⟩ := hs.take_out (W := 3) (by
        intro y hy
        rcases List.mem_append.1 hy with hy | hy
        · exact TTape.wds _ y hy
        · rw [← List.map_cons] at hy; exact TTape.wds _ y hy) (by omega) hn
      have el : ((TTape.markL (xs.take j) k).map TTape.d).length = j := by rw [List.length_map, TTape.markL_eq, mkL_length, List.length_take]; omega
      rw [el] at hcell hback
      have e1 : TTape.cnL (xs.take (j + 1)) = TTape.cnL (xs.take j) + TTape.cn xs[j] := by rw [TTape.cnL_eq, TTape.cnL_eq]; exact cnS_take_succ xs j hlt
      have e2 : TTape.cnL (xs.take (j + 1)) ≤ TTape.cnL xs := by rw [TTape.cnL_eq, TTape.cnL_eq]; exact cnS_take_le xs (j + 1)
      have e3 : TTape.cn xs[j] = 2 + TRead.cnL xs[j].reads := TTape.cn_eq _
      obtain ⟨kk, hkk⟩ : ∃ kk : Int, kk = k + ((TTape.cnL (xs.take j) : Nat) : Int) := ⟨_, rfl⟩
      rw [← hkk]
      have k0 : 0 ≤ kk := by omega
      have k1 : kk + 2 + ((TRead.cnL xs[j].reads : Nat) : Int) ≤ 1099511627776 := by have := H1.out; rw [e3] at e1; omega
      have HE1 := Lib.hid e1
      have HE3 := Lib.hid e3
      have HK := Lib.hid hkk
      have HB := Lib.hid hback
      have HS := Lib.hid hsub
      clear e1 e2 e3 hkk hback hsub ed el hs h hlen
      obtain ⟨A2, c2, F2, rfl, hF, _, _, q2⟩ := TTape.open_ hr
      clear hr
      have hF := hF.symm
      subst hF
      have dn2 := hni
      have ns2 : b ∉ F2 := fun hm => hbFi (by simp [hm])
      have T0 : Trk wr wr b (off + j * 3) (off + j * 3 + 3) _ := Trk.start (hpr b hbF) (fun q hq => hpr q (HS.out q hq))
      have C0 := Lib.hid hcell
      clear hcell hni
      have Q2_0 := Lib.hid q2
      have P2_0 : Hid (∀ q ∈ F2, Plain wr q) := Lib.hid (fun q hq => hpr q (HS.out q (by simp [hq])))
      clear q2
      have c0_0 : wr.cell? ⟨b, off + j * 3, none⟩ = _ := C0.out 0 _ rfl
      have c0_1 := C0.out 1 _ rfl
      have c0_2 := C0.out 2 _ rfl
      have z0 := T0.here.free
      go_wp2_with fail
      refine (markReadS_run _ _ xs[j].reads F2 _ (Rep.set (Rep.set Q2_0.out ns2 _) ns2 _) dn2 (fun q hq => Plain.set (Plain.set (P2_0.out q hq) _ _) _ _) (by omega) (by omega)).mono ?_
      rintro e w1 ⟨rfl, q2, p2, hb1⟩
      have T1 := Trk.step (Trk.set (Trk.set T0 0 (by omega) _) 1 (by omega) _) hb1 (fun q hq => by simp [hq]) ns2 p2
      have C1 := Lib.hid (CellsAt.step (CellsAt.setAt (CellsAt.setAt C0.out 0 (by simp) _) 1 (by simp) _) hb1 ns2)
      have Q2_1 := Lib.hid q2
      have P2_1 := Lib.hid p2
      clear q2 p2
      clear hb1 c0_0 c0_1 c0_2 z0
      have c1_0 : w1.cell? ⟨b, off + j * 3, none⟩ = _ := C1.out 0 _ rfl
      have c1_1 := C1.out 1 _ rfl
      have c1_2 := C1.out 2 _ rfl
      have z1 := T1.here.free
      go_wp2_with fail
      go_roundw
      case rel =>
        refine ⟨j + 1, by omega, by go_num, int_eq (by have h1 := HE1.out; have h2 := HE3.out; have h3 := HK.out; rw [h2] at h1; omega), ?_, Trk.plains T1 hpr, hoff.trans (Off.sub (Trk.off T1) (fun q hq => by rcases List.mem_cons.1 hq with rfl | hq; exact hbF; exact HS.out q hq))⟩
        have hm : TTape.markL (xs.take (j + 1)) k = TTape.markL (xs.take j) k ++ [TTape.mark xs[j] kk] := by
          rw [TTape.markL_eq, TTape.markL_eq, mkL_take_succ xs j k hlt, HK.out, TTape.cnL_eq]
        rw [hm, List.map_append, List.append_assoc]
        refine HB.out _ (TTape.d (TTape.mark xs[j] kk)) _ (by simp) ?_ C1.out T1
        simp only [TTape.mark_eq, TTape.d]
        rw [rep_agg]
        exact repL_of (mk_cons (mk_intE (i64_mid (by omega) (by omega)) (by first | rfl | omega)) (mk_cons (mk_intE (i64_mid (by omega) (by omega)) (by first | rfl | omega)) (mk_cons (mk_slE Q2_1.out rfl) mk_nil))) rfl (by first | rfl | simp only [List.nil_append, List.append_nil, List.append_assoc])
      case measure => simp [intOf]; omega
    · have hj' : j = xs.length := by omega
      subst hj'
      rw [List.take_of_length_le (Nat.le_refl _), List.drop_of_length_le (Nat.le_refl _)] at hs
      rw [List.take_of_length_le (Nat.le_refl _)]
      have HQ := Lib.hid hs
      clear hs
      go_wp2_with fail
      go_ret
      exact ⟨rfl, by have := HQ.out; simpa using this, hpr, hoff⟩
end Go.Proofs.YtmiboaogfjgkjaaGreatDoor
/- The laws' marks written into slices of Run, and their test. Conditions: the marks are numbers between 0 and 1099511627776. Written by a program of mine. -/
set_option linter.unusedSimpArgs false
set_option linter.unusedVariables false
namespace Go.Proofs.YtmiboaogfjgkjaaGreatDoor
open Go.RowKit
theorem TRun.open_ {w : World} {x : TRun} {cs : List Value} {F : List Nat} (h : Rep w x.d cs F) :
    ∃ (A0 : Option Addr) (c0 : Nat) (F0 : List Nat) (A1 : Option Addr) (c1 : Nat) (F1 : List Nat), cs = [.slice A0 x.values.length c0, .slice A1 x.tapes.length c1, .int .i64 x.steps] ∧ F = F0 ++ F1 ∧ SlAt w (.slice A0 x.values.length c0) (x.values.map TValue.d) F0 ∧ SlAt w (.slice A1 x.tapes.length c1) (x.tapes.map TTape.d) F1 ∧ I64 x.steps := by
  simp only [TRun.d, rep_agg, repL_cons, repL_nil, rep_int, rep_bool, rep_str, rep_sl, List.length_map] at h
  obtain ⟨_, _, F0, _, rfl, rfl, ⟨A0, c0, rfl, q0⟩, ⟨_, _, F1, _, rfl, rfl, ⟨A1, c1, rfl, q1⟩, ⟨_, _, _, _, rfl, rfl, ⟨rfl, rfl, i2⟩, ⟨rfl, rfl⟩⟩⟩⟩ := h
  exact ⟨A0, c0, F0, A1, c1, F1, rfl, by simp, q0, q1, i2⟩
set_option maxHeartbeats 4000000 in
set_option maxRecDepth 100000 in
theorem markRun_run (w : World) (x : TRun) (cs : List Value) (F : List Nat) (k : Int) (h : Rep w x.d cs F) (hn : F.Nodup) (hp : ∀ q ∈ F, Plain w q) (h0 : 0 ≤ k) (h1 : k + ((x.cnV : Nat) : Int) ≤ 1099511627776) :
    Calls Tryz.prog 14 #[.agg cs.toArray, .int .i64 k] w fun e w' => e = .returned (.int .i64 (k + ((x.cnV : Nat) : Int))) ∧ Rep w' (x.markV k).d cs F ∧ (∀ q ∈ F, Plain w' q) ∧ Off F w w' := by
  have hF := h.lt
  obtain ⟨A0, c0, F0, A1, c1, F1, rfl, hFe, q0, q1, i2⟩ := TRun.open_ h
  have hFe := hFe.symm
  subst hFe
  have h1' : k + ((TValue.cnL x.values + TTape.cnL x.tapes : Nat) : Int) ≤ 1099511627776 := h1
  have hn' : (F0 ++ F1).Nodup := by simpa only [List.append_assoc, List.append_nil] using hn
  obtain ⟨da0, db0, dn0, dr0⟩ := nodup_two hn'
  have dn1 := dr0
  obtain ⟨w0, hw0⟩ : ∃ w0, w0 = w.alloc (.cells #[.slice A0 x.values.length c0, .slice A1 x.tapes.length c1, .int .i64 x.steps] 40) := ⟨_, rfl⟩
  have B0 : Below w.heap.size w w0 := hw0 ▸ bnew (Below.refl _ _) _
  have kc0 : w0.cell? ⟨w.heap.size, 0, none⟩ = some (.slice A0 x.values.length c0) := hw0 ▸ cell_new w _ _ 0 _ rfl
  have kc1 : w0.cell? ⟨w.heap.size, 1, none⟩ = some (.slice A1 x.tapes.length c1) := hw0 ▸ cell_new w _ _ 1 _ rfl
  have kc2 : w0.cell? ⟨w.heap.size, 2, none⟩ = some (.int .i64 x.steps) := hw0 ▸ cell_new w _ _ 2 _ rfl
  have HW := Lib.hid hw0
  clear hw0
  have ns0 : w.heap.size ∉ F0 := fun hm => by have := hF _ (show w.heap.size ∈ _ by (try simp only [List.mem_append] at hm ⊢); first | (simp [hm]; done) | (rcases hm with h' | h' <;> simp [h']; done) | (rcases hm with h' | h' | h' <;> simp [h']; done)); omega
  have Q0 := Lib.hid (q0.below B0)
  have P0 : Hid (∀ q ∈ F0, Plain w0 q) := Lib.hid (fun q hq => (hp q (by (try simp only [List.mem_append] at hq ⊢); first | (simp [hq]; done) | (rcases hq with h' | h' <;> simp [h']; done) | (rcases hq with h' | h' | h' <;> simp [h']; done))).next B0)
  have ns1 : w.heap.size ∉ F1 := fun hm => by have := hF _ (show w.heap.size ∈ _ by (try simp only [List.mem_append] at hm ⊢); first | (simp [hm]; done) | (rcases hm with h' | h' <;> simp [h']; done) | (rcases hm with h' | h' | h' <;> simp [h']; done)); omega
  have Q1 := Lib.hid (q1.below B0)
  have P1 : Hid (∀ q ∈ F1, Plain w0 q) := Lib.hid (fun q hq => (hp q (by (try simp only [List.mem_append] at hq ⊢); first | (simp [hq]; done) | (rcases hq with h' | h' <;> simp [h']; done) | (rcases hq with h' | h' | h' <;> simp [h']; done))).next B0)
  clear q0 q1
  have HOLD := Lib.hid (And.intro hp (And.intro hF h))
  clear hp hF h
  have O0 : Off (F0 ++ F1) w w0 := Off.of_below B0
  go_enter Tryz.func14, Tryz.ntmps14
  go_wp2_with fail
  rw [← HW.out]
  refine (markValueS_run _ _ x.values F0 _ Q0.out dn0 P0.out (by omega) (by omega)).mono ?_
  rintro e w1 ⟨rfl, q0, p0, hb1⟩
  have O1 : Off (F0 ++ F1) w w1 := O0.trans (hb1.sub (fun q hq => by (try simp only [List.mem_append] at hq ⊢); first | (simp [hq]; done) | (rcases hq with h' | h' <;> simp [h']; done) | (rcases hq with h' | h' | h' <;> simp [h']; done)))
  replace kc0 := hb1.cell ns0 kc0
  replace kc1 := hb1.cell ns0 kc1
  replace kc2 := hb1.cell ns0 kc2
  replace Q0 := Lib.hid q0
  replace P0 := Lib.hid p0
  clear q0 p0
  have dq : ∀ x ∈ F1, x ∉ F0 := fun x hx hm => db0 x (by (try simp only [List.mem_append] at hx ⊢); first | (simp [hx]; done) | (rcases hx with h' | h' <;> simp [h']; done) | (rcases hx with h' | h' | h' <;> simp [h']; done)) hm
  replace Q1 := Lib.hid (Off.rep hb1 Q1.out dq)
  replace P1 : Hid (∀ q ∈ F1, Plain w1 q) := Lib.hid (fun x hx => Off.plain hb1 (P1.out x hx) (dq x hx))
  clear dq
  go_wp2_with fail
  refine (markTapeS_run _ _ x.tapes F1 _ Q1.out dn1 P1.out (by omega) (by omega)).mono ?_
  rintro e w2 ⟨rfl, q1, p1, hb2⟩
  have O2 : Off (F0 ++ F1) w w2 := O1.trans (hb2.sub (fun q hq => by (try simp only [List.mem_append] at hq ⊢); first | (simp [hq]; done) | (rcases hq with h' | h' <;> simp [h']; done) | (rcases hq with h' | h' | h' <;> simp [h']; done)))
  replace kc0 := hb2.cell ns1 kc0
  replace kc1 := hb2.cell ns1 kc1
  replace kc2 := hb2.cell ns1 kc2
  have dq : ∀ x ∈ F0, x ∉ F1 := fun x hx hm => da0 x hx (by (try simp only [List.mem_append] at hm ⊢); first | (simp [hm]; done) | (rcases hm with h' | h' <;> simp [h']; done) | (rcases hm with h' | h' | h' <;> simp [h']; done))
  replace Q0 := Lib.hid (Off.rep hb2 Q0.out dq)
  replace P0 : Hid (∀ q ∈ F0, Plain w2 q) := Lib.hid (fun x hx => Off.plain hb2 (P0.out x hx) (dq x hx))
  clear dq
  replace Q1 := Lib.hid q1
  replace P1 := Lib.hid p1
  clear q1 p1
  go_wp2_with fail
  go_ret
  have e1 : ((x.cnV : Nat) : Int) = ((TValue.cnL x.values : Nat) : Int) + ((TTape.cnL x.tapes : Nat) : Int) := by unfold TRun.cnV; omega
  refine ⟨ret_int (by omega), ?_, ?_, O2⟩
  · refine rep_agg.2 (repL_of (mk_cons (mk_sl Q0.out) (mk_cons (mk_sl Q1.out) (mk_cons (mk_int i2) (mk_nil (w := _))))) ?_ ?_)
    · first | rfl | simp only [List.cons_append, List.nil_append, List.append_nil]
    · first | rfl | simp only [List.nil_append, List.append_nil, List.append_assoc]
  · intro q hq
    have hq' : q ∈ F0 ∨ q ∈ F1 := by simp only [List.mem_append] at hq ⊢; (first | exact hq | (simp only [or_assoc]; exact hq) | (simp only [or_assoc] at hq ⊢; exact hq))
    rcases hq' with h | h
    · exact P0.out q h
    · exact P1.out q h
end Go.Proofs.YtmiboaogfjgkjaaGreatDoor
/- The laws' marks written into slices of Line, and their test. Conditions: the marks are numbers between 0 and 1099511627776. Written by a program of mine. -/
set_option linter.unusedSimpArgs false
set_option linter.unusedVariables false
namespace Go.Proofs.YtmiboaogfjgkjaaGreatDoor
open Go.RowKit
theorem TLine.wd_ (x : TLine) : wd x.d = 3 := by simp [TLine.d, wd, wdL]
theorem TLine.wds (xs : List TLine) : ∀ d ∈ xs.map TLine.d, wd d = 3 := by
  intro d hd
  obtain ⟨x, _, rfl⟩ := List.mem_map.1 hd
  exact x.wd_
theorem TLine.open_ {w : World} {x : TLine} {cs : List Value} {F : List Nat} (h : Rep w x.d cs F) :
    cs = [.int .i64 x.cell, .bool x.fresh, .string x.text] ∧ F = [] ∧ I64 x.cell ∧ Fits x.text := by
  simp only [TLine.d, rep_agg, repL_cons, repL_nil, rep_int, rep_bool, rep_str, rep_sl, List.length_map] at h
  obtain ⟨_, _, _, _, rfl, rfl, ⟨rfl, rfl, i0⟩, ⟨_, _, _, _, rfl, rfl, ⟨rfl, rfl⟩, ⟨_, _, _, _, rfl, rfl, ⟨rfl, rfl, i2⟩, ⟨rfl, rfl⟩⟩⟩⟩ := h
  exact ⟨rfl, by simp, i0, i2⟩
set_option maxHeartbeats 4000000 in
set_option maxRecDepth 100000 in
theorem markLineS_run (w : World) (v : Value) (xs : List TLine) (F : List Nat) (k : Int) (h : SlAt w v (xs.map TLine.d) F) (hn : F.Nodup) (hp : ∀ q ∈ F, Plain w q) (h0 : 0 ≤ k) (h1 : k + ((TLine.cnL xs : Nat) : Int) ≤ 1099511627776) :
    Calls Tryz.prog 15 #[v, .int .i64 k] w fun e w' => e = .returned (.int .i64 (k + ((TLine.cnL xs : Nat) : Int))) ∧ SlAt w' v ((TLine.markL xs k).map TLine.d) F ∧ (∀ q ∈ F, Plain w' q) ∧ Off F w w' := by
  obtain ⟨A, c, rfl, hc, hcm⟩ := h.form
  rw [List.length_map] at h hc ⊢
  have hP := Lib.hid hp
  have H1 := Lib.hid h1
  clear hp h1
  go_enter Tryz.func15, Tryz.ntmps15
  go_wp2_with fail
  go_loopw [1, 5] (fun kk i wr => ∃ j : Nat, j ≤ xs.length ∧ i = .int .i64 j ∧ kk = .int .i64 (k + ((TLine.cnL (xs.take j) : Nat) : Int)) ∧ SlAt wr (.slice A xs.length c) ((TLine.markL (xs.take j) k).map TLine.d ++ (xs.drop j).map TLine.d) F ∧ (∀ q ∈ F, Plain wr q) ∧ Off F w wr) (fun _ i _ => xs.length - (intOf i).toNat)
  case atStart => exact ⟨0, Nat.zero_le _, rfl, int_eq (by rw [List.take_zero, TLine.cnL_eq]; simp [cnS]), by rw [List.take_zero, List.drop_zero, TLine.markL_eq]; exact h, hP.out, Off.refl _ _⟩
  case round =>
    obtain ⟨j, hj, rfl, rfl, hs, hpr, hoff⟩ := hrel
    by_cases hlt : j < xs.length
    · have ed : xs.drop j = xs[j] :: xs.drop (j + 1) := List.drop_eq_getElem_cons hlt
      rw [ed, List.map_cons] at hs
      obtain ⟨b, off, ys, Fi, rfl, hbF, hbFi, hni, hsub, hr, hlen, hcell, hback⟩ := hs.take_out (W := 3) (by
        intro y hy
        rcases List.mem_append.1 hy with hy | hy
        · exact TLine.wds _ y hy
        · rw [← List.map_cons] at hy; exact TLine.wds _ y hy) (by omega) hn
      have el : ((TLine.markL (xs.take j) k).map TLine.d).length = j := by rw [List.length_map, TLine.markL_eq, mkL_length, List.length_take]; omega
      rw [el] at hcell hback
      have e1 : TLine.cnL (xs.take (j + 1)) = TLine.cnL (xs.take j) + TLine.cn xs[j] := by rw [TLine.cnL_eq, TLine.cnL_eq]; exact cnS_take_succ xs j hlt
      have e2 : TLine.cnL (xs.take (j + 1)) ≤ TLine.cnL xs := by rw [TLine.cnL_eq, TLine.cnL_eq]; exact cnS_take_le xs (j + 1)
      have e3 : TLine.cn xs[j] = 3 := TLine.cn_eq _
      obtain ⟨kk, hkk⟩ : ∃ kk : Int, kk = k + ((TLine.cnL (xs.take j) : Nat) : Int) := ⟨_, rfl⟩
      rw [← hkk]
      have k0 : 0 ≤ kk := by omega
      have k1 : kk + 3 ≤ 1099511627776 := by have := H1.out; rw [e3] at e1; omega
      have HE1 := Lib.hid e1
      have HE3 := Lib.hid e3
      have HK := Lib.hid hkk
      have HB := Lib.hid hback
      have HS := Lib.hid hsub
      clear e1 e2 e3 hkk hback hsub ed el hs h hlen
      obtain ⟨rfl, hF, _, _⟩ := TLine.open_ hr
      clear hr
      subst hF
      have T0 : Trk wr wr b (off + j * 3) (off + j * 3 + 3) _ := Trk.start (hpr b hbF) (fun q hq => hpr q (HS.out q hq))
      have C0 := Lib.hid hcell
      clear hcell hni
      have c0_0 : wr.cell? ⟨b, off + j * 3, none⟩ = _ := C0.out 0 _ rfl
      have c0_1 := C0.out 1 _ rfl
      have c0_2 := C0.out 2 _ rfl
      have z0 := T0.here.free
      go_wp2_with fail
      refine (markText_any _ _ (by omega)).mono ?_
      rintro e w1 ⟨rfl, hb1⟩
      have T1 := Trk.next (Trk.set (Trk.set T0 0 (by omega) _) 1 (by omega) _) hb1
      have C1 := Lib.hid (CellsAt.next (CellsAt.setAt (CellsAt.setAt C0.out 0 (by simp) _) 1 (by simp) _) hb1)
      clear hb1 c0_0 c0_1 c0_2 z0
      have c1_0 : w1.cell? ⟨b, off + j * 3, none⟩ = _ := C1.out 0 _ rfl
      have c1_1 := C1.out 1 _ rfl
      have c1_2 := C1.out 2 _ rfl
      have z1 := T1.here.free
      go_wp2_with fail
      go_roundw
      case rel =>
        refine ⟨j + 1, by omega, by go_num, int_eq (by have h1 := HE1.out; have h2 := HE3.out; have h3 := HK.out; rw [h2] at h1; omega), ?_, Trk.plains (Trk.set T1 2 (by omega) _) hpr, hoff.trans (Off.sub (Trk.off (Trk.set T1 2 (by omega) _)) (fun q hq => by rcases List.mem_cons.1 hq with rfl | hq; exact hbF; exact HS.out q hq))⟩
        have hm : TLine.markL (xs.take (j + 1)) k = TLine.markL (xs.take j) k ++ [TLine.mark xs[j] kk] := by
          rw [TLine.markL_eq, TLine.markL_eq, mkL_take_succ xs j k hlt, HK.out, TLine.cnL_eq]
        rw [hm, List.map_append, List.append_assoc]
        refine HB.out _ (TLine.d (TLine.mark xs[j] kk)) _ (by simp) ?_ (CellsAt.setAt C1.out 2 (by simp) _) (Trk.set T1 2 (by omega) _)
        simp only [TLine.mark_eq, TLine.d]
        rw [rep_agg]
        exact repL_of (mk_cons (mk_intE (i64_mid (by omega) (by omega)) (by first | rfl | omega)) (mk_cons (mk_boolE (by first | rfl | (exact decide_eq_decide.2 (by omega)) | simp)) (mk_cons (mk_strE (by omega) (by first | rfl | omega)) mk_nil))) rfl (by first | rfl | simp only [List.nil_append, List.append_nil, List.append_assoc])
      case measure => simp [intOf]; omega
    · have hj' : j = xs.length := by omega
      subst hj'
      rw [List.take_of_length_le (Nat.le_refl _), List.drop_of_length_le (Nat.le_refl _)] at hs
      rw [List.take_of_length_le (Nat.le_refl _)]
      have HQ := Lib.hid hs
      clear hs
      go_wp2_with fail
      go_ret
      exact ⟨rfl, by have := HQ.out; simpa using this, hpr, hoff⟩
set_option maxHeartbeats 4000000 in
set_option maxRecDepth 100000 in
theorem heldLineS_run (w : World) (v : Value) (xs : List TLine) (F : List Nat) (k : Int) (h : SlAt w v ((TLine.markL xs k).map TLine.d) F) (h0 : 0 ≤ k) (h1 : k + ((TLine.cnL xs : Nat) : Int) ≤ 1099511627776) :
    Calls Tryz.prog 16 #[v, .int .i64 k] w fun e w' => e = .returned (.int .i64 (k + ((TLine.cnL xs : Nat) : Int))) ∧ Below w.heap.size w w' := by
  obtain ⟨A, c, rfl, hc, hcm⟩ := h.form
  have hl : ((TLine.markL xs k).map TLine.d).length = xs.length := by rw [List.length_map, TLine.markL_eq, mkL_length]
  rw [hl] at h hc ⊢
  have H1 := Lib.hid h1
  have HS := Lib.hid h
  clear h1 hl h
  go_enter Tryz.func16, Tryz.ntmps16
  go_wp2_with fail
  go_loopw [1, 5] (fun kk i wr => ∃ j : Nat, j ≤ xs.length ∧ i = .int .i64 j ∧ kk = .int .i64 (k + ((TLine.cnL (xs.take j) : Nat) : Int)) ∧ Below w.heap.size w wr) (fun _ i _ => xs.length - (intOf i).toNat)
  case atStart => exact ⟨0, Nat.zero_le _, rfl, int_eq (by rw [List.take_zero, TLine.cnL_eq]; simp [cnS]), Below.refl _ _⟩
  case round =>
    obtain ⟨j, hj, rfl, rfl, hb⟩ := hrel
    by_cases hlt : j < xs.length
    · have hs := HS.out.below hb
      obtain ⟨b, off, ys, Fi, rfl, hbl, _, hr, hlen, _, hcell⟩ := hs.at_ (W := 3) (i := j) (by
        rw [TLine.markL_eq]; exact TLine.wds _) (by rw [List.length_map, TLine.markL_eq, mkL_length]; exact hlt)
      have e0 : ((TLine.markL xs k).map TLine.d)[j]'(by rw [List.length_map, TLine.markL_eq, mkL_length]; exact hlt) = TLine.d (TLine.mark xs[j] (k + ((TLine.cnL (xs.take j) : Nat) : Int))) := by
        rw [List.getElem_map]
        congr 1
        exact (List.getElem_of_eq (TLine.markL_eq xs k) _).trans ((mkL_get xs j k hlt).trans (by rw [TLine.cnL_eq]))
      rw [e0] at hr
      have e1 : TLine.cnL (xs.take (j + 1)) = TLine.cnL (xs.take j) + TLine.cn xs[j] := by rw [TLine.cnL_eq, TLine.cnL_eq]; exact cnS_take_succ xs j hlt
      have e2 : TLine.cnL (xs.take (j + 1)) ≤ TLine.cnL xs := by rw [TLine.cnL_eq, TLine.cnL_eq]; exact cnS_take_le xs (j + 1)
      have e3 : TLine.cn xs[j] = 3 := TLine.cn_eq _
      obtain ⟨kk, hkk⟩ : ∃ kk : Int, kk = k + ((TLine.cnL (xs.take j) : Nat) : Int) := ⟨_, rfl⟩
      rw [← hkk] at hr ⊢
      have k0 : 0 ≤ kk := by omega
      have k1 : kk + 3 ≤ 1099511627776 := by have := H1.out; rw [e3] at e1; omega
      have HE1 := Lib.hid e1
      have HE3 := Lib.hid e3
      have HK := Lib.hid hkk
      clear e0 e1 e2 e3 hkk hs hlen
      rw [TLine.mark_eq] at hr
      obtain ⟨rfl, _, _, _⟩ := TLine.open_ hr
      clear hr
      have c0 : wr.cell? ⟨b, off + j * 3, none⟩ = some (.int .i64 (kk)) := hcell 0 _ rfl
      have c1 : wr.cell? ⟨b, off + j * 3 + 1, none⟩ = some (.bool ((kk + 1) % 3 == 0)) := hcell 1 _ rfl
      have c2 : wr.cell? ⟨b, off + j * 3 + 2, none⟩ = some (.string (mText (kk + 1 + 1))) := hcell 2 _ rfl
      clear hcell
      have D0 := Below.refl wr.heap.size wr
      go_wp2_with fail
      have hx_ := @ext_cell wr
      refine wp_region_mild (by kernel_rfl) (by kernel_rfl) ?_
      repeat (go_big_quiet_step ((go_at_call 34; exact mild_of (markText_any _ _ (by omega)))))
      refine wpQuiet_nil ?_
      rintro w' ⟨x_, rfl⟩
      obtain ⟨w1, hw1⟩ := x_
      clear hx_
      dsimp only
      have D1 := bnext D0 hw1
      replace hbl : b < w1.heap.size := Nat.lt_of_lt_of_le hbl hw1.size
      go_wp2_with fail
      go_roundw
      case rel => exact ⟨j + 1, by omega, by go_num, int_eq (by have h1 := HE1.out; have h2 := HE3.out; have h3 := HK.out; rw [h2] at h1; omega), bnext hb D1⟩
      case measure => simp [intOf]; omega
    · have hj' : j = xs.length := by omega
      subst hj'
      rw [List.take_of_length_le (Nat.le_refl _)]
      go_wp2_with fail
      go_ret
      exact ⟨rfl, hb⟩
end Go.Proofs.YtmiboaogfjgkjaaGreatDoor
