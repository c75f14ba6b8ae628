/- Several texts in one: MkRead, MkTape, MkEntry, MkEngine, MkEdit. -/
import Derived.Test.YtbknilpmpjjfpaaGreatMkD
import Derived.Test.YtbknilpmpjjfpaaGreatPkT0
/- The laws' marks written into slices of Read, and their test. Conditions: the marks are numbers between 0 and 1099511627776. Written by a program of mine. -/
set_option linter.unusedSimpArgs false
set_option linter.unusedVariables false
namespace Go.Proofs.YtbknilpmpjjfpaaGreat
open Go.RowKit
theorem TRead.wd_ (x : TRead) : wd x.d = 11 := by simp [TRead.d, TValue.d_eq, wd, wdL]
theorem TRead.wds (xs : List TRead) : ∀ d ∈ xs.map TRead.d, wd d = 11 := by
  intro d hd
  obtain ⟨x, _, rfl⟩ := List.mem_map.1 hd
  exact x.wd_
theorem TRead.open_ {w : World} {x : TRead} {cs : List Value} {F : List Nat} (h : Rep w x.d cs F) :
    ∃ (A8 : Option Addr) (c8 : Nat) (F8 : List Nat) (A9 : Option Addr) (c9 : Nat) (F9 : List Nat) (A10 : Option Addr) (c10 : Nat) (F10 : List Nat), cs = [.int .i64 x.kind, .int .i64 x.n, .int .i64 x.time, .string x.text, .int .i64 x.result.kind, .int .i64 x.result.n, .int .i64 x.result.step, .string x.result.text, .slice A8 x.result.list.length c8, .slice A9 x.result.columns.length c9, .slice A10 x.result.rows.length c10] ∧ F = F8 ++ (F9 ++ F10) ∧ I64 x.kind ∧ I64 x.n ∧ I64 x.time ∧ Fits x.text ∧ I64 x.result.kind ∧ I64 x.result.n ∧ I64 x.result.step ∧ Fits x.result.text ∧ SlAt w (.slice A8 x.result.list.length c8) (x.result.list.map TValue.d) F8 ∧ SlAt w (.slice A9 x.result.columns.length c9) (x.result.columns.map D.str) F9 ∧ SlAt w (.slice A10 x.result.rows.length c10) (x.result.rows.map TRow.d) F10 := by
  simp only [TRead.d, TValue.d_eq, rep_agg, repL_cons, repL_nil, rep_int, rep_bool, rep_str, rep_sl, List.length_map] at h
  obtain ⟨_, _, _, _, rfl, rfl, ⟨rfl, rfl, i0⟩, ⟨_, _, _, _, rfl, rfl, ⟨rfl, rfl, i1⟩, ⟨_, _, _, _, rfl, rfl, ⟨rfl, rfl, i2⟩, ⟨_, _, _, _, rfl, rfl, ⟨rfl, rfl, i3⟩, ⟨_, _, _, _, rfl, rfl, ⟨_, _, _, _, rfl, rfl, ⟨rfl, rfl, i4⟩, ⟨_, _, _, _, rfl, rfl, ⟨rfl, rfl, i5⟩, ⟨_, _, _, _, rfl, rfl, ⟨rfl, rfl, i6⟩, ⟨_, _, _, _, rfl, rfl, ⟨rfl, rfl, i7⟩, ⟨_, _, F8, _, rfl, rfl, ⟨A8, c8, rfl, q8⟩, ⟨_, _, F9, _, rfl, rfl, ⟨A9, c9, rfl, q9⟩, ⟨_, _, F10, _, rfl, rfl, ⟨A10, c10, rfl, q10⟩, ⟨rfl, rfl⟩⟩⟩⟩⟩⟩⟩⟩, ⟨rfl, rfl⟩⟩⟩⟩⟩⟩ := h
  exact ⟨A8, c8, F8, A9, c9, F9, A10, c10, F10, rfl, by simp, i0, i1, i2, i3, i4, i5, i6, i7, q8, q9, q10⟩
set_option maxHeartbeats 4000000 in
set_option maxRecDepth 100000 in
theorem markReadS_run (w : World) (v : Value) (xs : List TRead) (F : List Nat) (k : Int) (h : SlAt w v (xs.map TRead.d) F) (hn : F.Nodup) (hp : ∀ q ∈ F, Plain w q) (h0 : 0 ≤ k) (h1 : k + ((TRead.cnL xs : Nat) : Int) ≤ 1099511627776) :
    Calls Tryz.prog 85 #[v, .int .i64 k] w fun e w' => e = .returned (.int .i64 (k + ((TRead.cnL xs : Nat) : Int))) ∧ SlAt w' v ((TRead.markL xs k).map TRead.d) F ∧ (∀ q ∈ F, Plain w' q) ∧ Off F w w' := by
  obtain ⟨A, c, rfl, hc, hcm⟩ := h.form
  rw [List.length_map] at h hc ⊢
  have hP := Lib.hid hp
  have H1 := Lib.hid h1
  clear hp h1
  go_enter Tryz.func85, Tryz.ntmps85
  go_wp2_with fail
  go_loopw [1, 5] (fun kk i wr => ∃ j : Nat, j ≤ xs.length ∧ i = .int .i64 j ∧ kk = .int .i64 (k + ((TRead.cnL (xs.take j) : Nat) : Int)) ∧ SlAt wr (.slice A xs.length c) ((TRead.markL (xs.take j) k).map TRead.d ++ (xs.drop j).map TRead.d) F ∧ (∀ q ∈ F, Plain wr q) ∧ Off F w wr) (fun _ i _ => xs.length - (intOf i).toNat)
  case atStart => exact ⟨0, Nat.zero_le _, rfl, int_eq (by rw [List.take_zero, TRead.cnL_eq]; simp [cnS]), by rw [List.take_zero, List.drop_zero, TRead.markL_eq]; exact h, hP.out, Off.refl _ _⟩
  case round =>
    obtain ⟨j, hj, rfl, rfl, hs, hpr, hoff⟩ := hrel
    by_cases hlt : j < xs.length
    · have ed : xs.drop j = xs[j] :: xs.drop (j + 1) := List.drop_eq_getElem_cons hlt
      rw [ed, List.map_cons] at hs
      obtain ⟨b, off, ys, Fi, rfl, hbF, hbFi, hni, hsub, hr, hlen, hcell, hback⟩ := hs.take_out (W := 11) (by
        intro y hy
        rcases List.mem_append.1 hy with hy | hy
        · exact TRead.wds _ y hy
        · rw [← List.map_cons] at hy; exact TRead.wds _ y hy) (by omega) hn
      have el : ((TRead.markL (xs.take j) k).map TRead.d).length = j := by rw [List.length_map, TRead.markL_eq, mkL_length, List.length_take]; omega
      rw [el] at hcell hback
      have e1 : TRead.cnL (xs.take (j + 1)) = TRead.cnL (xs.take j) + TRead.cn xs[j] := by rw [TRead.cnL_eq, TRead.cnL_eq]; exact cnS_take_succ xs j hlt
      have e2 : TRead.cnL (xs.take (j + 1)) ≤ TRead.cnL xs := by rw [TRead.cnL_eq, TRead.cnL_eq]; exact cnS_take_le xs (j + 1)
      have e3 : TRead.cn xs[j] = 8 + TValue.cnL xs[j].result.list + strCnL xs[j].result.columns + TRow.cnL xs[j].result.rows := TRead.cn_eq _
      obtain ⟨kk, hkk⟩ : ∃ kk : Int, kk = k + ((TRead.cnL (xs.take j) : Nat) : Int) := ⟨_, rfl⟩
      rw [← hkk]
      have k0 : 0 ≤ kk := by omega
      have k1 : kk + 8 + ((TValue.cnL xs[j].result.list : Nat) : Int) + ((strCnL xs[j].result.columns : Nat) : Int) + ((TRow.cnL xs[j].result.rows : Nat) : Int) ≤ 1099511627776 := by have := H1.out; rw [e3] at e1; omega
      have HE1 := Lib.hid e1
      have HE3 := Lib.hid e3
      have HK := Lib.hid hkk
      have HB := Lib.hid hback
      have HS := Lib.hid hsub
      clear e1 e2 e3 hkk hback hsub ed el hs h hlen
      obtain ⟨A8, c8, F8, A9, c9, F9, A10, c10, F10, rfl, hF, _, _, _, _, _, _, _, _, q8, q9, q10⟩ := TRead.open_ hr
      clear hr
      have hF := hF.symm
      subst hF
      obtain ⟨da8, db8, dn8, dr8⟩ := nodup_two hni
      obtain ⟨da9, db9, dn9, dr9⟩ := nodup_two dr8
      have dn10 := dr9
      have ns8 : b ∉ F8 := fun hm => hbFi (by simp [hm])
      have ns9 : b ∉ F9 := fun hm => hbFi (by simp [hm])
      have ns10 : b ∉ F10 := fun hm => hbFi (by simp [hm])
      have T0 : Trk wr wr b (off + j * 11) (off + j * 11 + 11) _ := Trk.start (hpr b hbF) (fun q hq => hpr q (HS.out q hq))
      have C0 := Lib.hid hcell
      clear hcell hni
      have Q8_0 := Lib.hid q8
      have P8_0 : Hid (∀ q ∈ F8, Plain wr q) := Lib.hid (fun q hq => hpr q (HS.out q (by simp [hq])))
      clear q8
      have Q9_0 := Lib.hid q9
      have P9_0 : Hid (∀ q ∈ F9, Plain wr q) := Lib.hid (fun q hq => hpr q (HS.out q (by simp [hq])))
      clear q9
      have Q10_0 := Lib.hid q10
      have P10_0 : Hid (∀ q ∈ F10, Plain wr q) := Lib.hid (fun q hq => hpr q (HS.out q (by simp [hq])))
      clear q10
      have c0_0 : wr.cell? ⟨b, off + j * 11, none⟩ = _ := C0.out 0 _ rfl
      have c0_1 := C0.out 1 _ rfl
      have c0_2 := C0.out 2 _ rfl
      have c0_3 := C0.out 3 _ rfl
      have c0_4 := C0.out 4 _ rfl
      have c0_5 := C0.out 5 _ rfl
      have c0_6 := C0.out 6 _ rfl
      have c0_7 := C0.out 7 _ rfl
      have c0_8 := C0.out 8 _ rfl
      have c0_9 := C0.out 9 _ rfl
      have c0_10 := C0.out 10 _ rfl
      have z0 := T0.here.free
      go_wp2_with fail
      refine (markText_any _ _ (by omega)).mono ?_
      rintro e w1 ⟨rfl, hb1⟩
      have T1 := Trk.next (Trk.set (Trk.set (Trk.set T0 0 (by omega) _) 1 (by omega) _) 2 (by omega) _) hb1
      have C1 := Lib.hid (CellsAt.next (CellsAt.setAt (CellsAt.setAt (CellsAt.setAt C0.out 0 (by simp) _) 1 (by simp) _) 2 (by simp) _) hb1)
      have Q8_1 := Lib.hid (Rep.below (Rep.set (Rep.set (Rep.set Q8_0.out ns8 _) ns8 _) ns8 _) hb1)
      have P8_1 := Lib.hid (fun q hq => Plain.next ((fun q hq => Plain.set (Plain.set (Plain.set (P8_0.out q hq) _ _) _ _) _ _) q hq) hb1)
      have Q9_1 := Lib.hid (Rep.below (Rep.set (Rep.set (Rep.set Q9_0.out ns9 _) ns9 _) ns9 _) hb1)
      have P9_1 := Lib.hid (fun q hq => Plain.next ((fun q hq => Plain.set (Plain.set (Plain.set (P9_0.out q hq) _ _) _ _) _ _) q hq) hb1)
      have Q10_1 := Lib.hid (Rep.below (Rep.set (Rep.set (Rep.set Q10_0.out ns10 _) ns10 _) ns10 _) hb1)
      have P10_1 := Lib.hid (fun q hq => Plain.next ((fun q hq => Plain.set (Plain.set (Plain.set (P10_0.out q hq) _ _) _ _) _ _) q hq) hb1)
      clear hb1 c0_0 c0_1 c0_2 c0_3 c0_4 c0_5 c0_6 c0_7 c0_8 c0_9 c0_10 z0
      have c1_0 : w1.cell? ⟨b, off + j * 11, none⟩ = _ := C1.out 0 _ rfl
      have c1_1 := C1.out 1 _ rfl
      have c1_2 := C1.out 2 _ rfl
      have c1_3 := C1.out 3 _ rfl
      have c1_4 := C1.out 4 _ rfl
      have c1_5 := C1.out 5 _ rfl
      have c1_6 := C1.out 6 _ rfl
      have c1_7 := C1.out 7 _ rfl
      have c1_8 := C1.out 8 _ rfl
      have c1_9 := C1.out 9 _ rfl
      have c1_10 := C1.out 10 _ rfl
      have z1 := T1.here.free
      go_wp2_with fail
      refine (markText_any _ _ (by omega)).mono ?_
      rintro e w2 ⟨rfl, hb2⟩
      have T2 := Trk.next (Trk.set (Trk.set (Trk.set (Trk.set T1 3 (by omega) _) 4 (by omega) _) 5 (by omega) _) 6 (by omega) _) hb2
      have C2 := Lib.hid (CellsAt.next (CellsAt.setAt (CellsAt.setAt (CellsAt.setAt (CellsAt.setAt C1.out 3 (by simp) _) 4 (by simp) _) 5 (by simp) _) 6 (by simp) _) hb2)
      have Q8_2 := Lib.hid (Rep.below (Rep.set (Rep.set (Rep.set (Rep.set Q8_1.out ns8 _) ns8 _) ns8 _) ns8 _) hb2)
      have P8_2 := Lib.hid (fun q hq => Plain.next ((fun q hq => Plain.set (Plain.set (Plain.set (Plain.set (P8_1.out q hq) _ _) _ _) _ _) _ _) q hq) hb2)
      have Q9_2 := Lib.hid (Rep.below (Rep.set (Rep.set (Rep.set (Rep.set Q9_1.out ns9 _) ns9 _) ns9 _) ns9 _) hb2)
      have P9_2 := Lib.hid (fun q hq => Plain.next ((fun q hq => Plain.set (Plain.set (Plain.set (Plain.set (P9_1.out q hq) _ _) _ _) _ _) _ _) q hq) hb2)
      have Q10_2 := Lib.hid (Rep.below (Rep.set (Rep.set (Rep.set (Rep.set Q10_1.out ns10 _) ns10 _) ns10 _) ns10 _) hb2)
      have P10_2 := Lib.hid (fun q hq => Plain.next ((fun q hq => Plain.set (Plain.set (Plain.set (Plain.set (P10_1.out q hq) _ _) _ _) _ _) _ _) q hq) hb2)
      clear hb2 c1_0 c1_1 c1_2 c1_3 c1_4 c1_5 c1_6 c1_7 c1_8 c1_9 c1_10 z1
      have c2_0 : w2.cell? ⟨b, off + j * 11, none⟩ = _ := C2.out 0 _ rfl
      have c2_1 := C2.out 1 _ rfl
      have c2_2 := C2.out 2 _ rfl
      have c2_3 := C2.out 3 _ rfl
      have c2_4 := C2.out 4 _ rfl
      have c2_5 := C2.out 5 _ rfl
      have c2_6 := C2.out 6 _ rfl
      have c2_7 := C2.out 7 _ rfl
      have c2_8 := C2.out 8 _ rfl
      have c2_9 := C2.out 9 _ rfl
      have c2_10 := C2.out 10 _ rfl
      have z2 := T2.here.free
      go_wp2_with fail
      refine (markValueS_run _ _ xs[j].result.list F8 _ (Rep.set Q8_2.out ns8 _) dn8 (fun q hq => Plain.set (P8_2.out q hq) _ _) (by omega) (by omega)).mono ?_
      rintro e w3 ⟨rfl, q8, p8, hb3⟩
      have T3 := Trk.step (Trk.set T2 7 (by omega) _) hb3 (fun q hq => by simp [hq]) ns8 p8
      have C3 := Lib.hid (CellsAt.step (CellsAt.setAt C2.out 7 (by simp) _) hb3 ns8)
      have Q8_3 := Lib.hid q8
      have P8_3 := Lib.hid p8
      clear q8 p8
      have dq : ∀ x ∈ F9, x ∉ F8 := fun x hx hm => db8 x (by simp [hx]) hm
      have Q9_3 := Lib.hid (Off.rep hb3 (Rep.set Q9_2.out ns9 _) dq)
      have P9_3 : Hid (∀ q ∈ F9, Plain w3 q) := Lib.hid (fun x hx => Off.plain hb3 ((fun q hq => Plain.set (P9_2.out q hq) _ _) x hx) (dq x hx))
      clear dq
      have dq : ∀ x ∈ F10, x ∉ F8 := fun x hx hm => db8 x (by simp [hx]) hm
      have Q10_3 := Lib.hid (Off.rep hb3 (Rep.set Q10_2.out ns10 _) dq)
      have P10_3 : Hid (∀ q ∈ F10, Plain w3 q) := Lib.hid (fun x hx => Off.plain hb3 ((fun q hq => Plain.set (P10_2.out q hq) _ _) x hx) (dq x hx))
      clear dq
      clear hb3 c2_0 c2_1 c2_2 c2_3 c2_4 c2_5 c2_6 c2_7 c2_8 c2_9 c2_10 z2
      have c3_0 : w3.cell? ⟨b, off + j * 11, none⟩ = _ := C3.out 0 _ rfl
      have c3_1 := C3.out 1 _ rfl
      have c3_2 := C3.out 2 _ rfl
      have c3_3 := C3.out 3 _ rfl
      have c3_4 := C3.out 4 _ rfl
      have c3_5 := C3.out 5 _ rfl
      have c3_6 := C3.out 6 _ rfl
      have c3_7 := C3.out 7 _ rfl
      have c3_8 := C3.out 8 _ rfl
      have c3_9 := C3.out 9 _ rfl
      have c3_10 := C3.out 10 _ rfl
      have z3 := T3.here.free
      go_wp2_with fail
      refine (markStringS_run _ _ xs[j].result.columns F9 _ Q9_3.out dn9 (fun q hq => P9_3.out q hq) (by omega) (by omega)).mono ?_
      rintro e w4 ⟨rfl, q9, p9, hb4⟩
      have T4 := Trk.step T3 hb4 (fun q hq => by simp [hq]) ns9 p9
      have C4 := Lib.hid (CellsAt.step C3.out hb4 ns9)
      have dq : ∀ x ∈ F8, x ∉ F9 := fun x hx hm => da8 x hx (by simp [hm])
      have Q8_4 := Lib.hid (Off.rep hb4 Q8_3.out dq)
      have P8_4 : Hid (∀ q ∈ F8, Plain w4 q) := Lib.hid (fun x hx => Off.plain hb4 ((fun q hq => P8_3.out q hq) x hx) (dq x hx))
      clear dq
      have Q9_4 := Lib.hid q9
      have P9_4 := Lib.hid p9
      clear q9 p9
      have dq : ∀ x ∈ F10, x ∉ F9 := fun x hx hm => db9 x (by simp [hx]) hm
      have Q10_4 := Lib.hid (Off.rep hb4 Q10_3.out dq)
      have P10_4 : Hid (∀ q ∈ F10, Plain w4 q) := Lib.hid (fun x hx => Off.plain hb4 ((fun q hq => P10_3.out q hq) x hx) (dq x hx))
      clear dq
      clear hb4 c3_0 c3_1 c3_2 c3_3 c3_4 c3_5 c3_6 c3_7 c3_8 c3_9 c3_10 z3
      have c4_0 : w4.cell? ⟨b, off + j * 11, none⟩ = _ := C4.out 0 _ rfl
      have c4_1 := C4.out 1 _ rfl
      have c4_2 := C4.out 2 _ rfl
      have c4_3 := C4.out 3 _ rfl
      have c4_4 := C4.out 4 _ rfl
      have c4_5 := C4.out 5 _ rfl
      have c4_6 := C4.out 6 _ rfl
      have c4_7 := C4.out 7 _ rfl
      have c4_8 := C4.out 8 _ rfl
      have c4_9 := C4.out 9 _ rfl
      have c4_10 := C4.out 10 _ rfl
      have z4 := T4.here.free
      go_wp2_with fail
      refine (markRowS_run _ _ xs[j].result.rows F10 _ Q10_4.out dn10 (fun q hq => P10_4.out q hq) (by omega) (by omega)).mono ?_
      rintro e w5 ⟨rfl, q10, p10, hb5⟩
      have T5 := Trk.step T4 hb5 (fun q hq => by simp [hq]) ns10 p10
      have C5 := Lib.hid (CellsAt.step C4.out hb5 ns10)
      have dq : ∀ x ∈ F8, x ∉ F10 := fun x hx hm => da8 x hx (by simp [hm])
      have Q8_5 := Lib.hid (Off.rep hb5 Q8_4.out dq)
      have P8_5 : Hid (∀ q ∈ F8, Plain w5 q) := Lib.hid (fun x hx => Off.plain hb5 ((fun q hq => P8_4.out q hq) x hx) (dq x hx))
      clear dq
      have dq : ∀ x ∈ F9, x ∉ F10 := fun x hx hm => da9 x hx (by simp [hm])
      have Q9_5 := Lib.hid (Off.rep hb5 Q9_4.out dq)
      have P9_5 : Hid (∀ q ∈ F9, Plain w5 q) := Lib.hid (fun x hx => Off.plain hb5 ((fun q hq => P9_4.out q hq) x hx) (dq x hx))
      clear dq
      have Q10_5 := Lib.hid q10
      have P10_5 := Lib.hid p10
      clear q10 p10
      clear hb5 c4_0 c4_1 c4_2 c4_3 c4_4 c4_5 c4_6 c4_7 c4_8 c4_9 c4_10 z4
      have c5_0 : w5.cell? ⟨b, off + j * 11, none⟩ = _ := C5.out 0 _ rfl
      have c5_1 := C5.out 1 _ rfl
      have c5_2 := C5.out 2 _ rfl
      have c5_3 := C5.out 3 _ rfl
      have c5_4 := C5.out 4 _ rfl
      have c5_5 := C5.out 5 _ rfl
      have c5_6 := C5.out 6 _ rfl
      have c5_7 := C5.out 7 _ rfl
      have c5_8 := C5.out 8 _ rfl
      have c5_9 := C5.out 9 _ rfl
      have c5_10 := C5.out 10 _ rfl
      have z5 := T5.here.free
      go_wp2_with fail
      go_roundw
      case rel =>
        refine ⟨j + 1, by omega, by go_num, int_eq (by have h1 := HE1.out; have h2 := HE3.out; have h3 := HK.out; rw [h2] at h1; omega), ?_, Trk.plains T5 hpr, hoff.trans (Off.sub (Trk.off T5) (fun q hq => by rcases List.mem_cons.1 hq with rfl | hq; exact hbF; exact HS.out q hq))⟩
        have hm : TRead.markL (xs.take (j + 1)) k = TRead.markL (xs.take j) k ++ [TRead.mark xs[j] kk] := by
          rw [TRead.markL_eq, TRead.markL_eq, mkL_take_succ xs j k hlt, HK.out, TRead.cnL_eq]
        rw [hm, List.map_append, List.append_assoc]
        refine HB.out _ (TRead.d (TRead.mark xs[j] kk)) _ (by simp) ?_ C5.out T5
        simp only [TRead.mark_eq, TRead.d, TValue.d_eq]
        rw [rep_agg]
        exact repL_of (mk_cons (mk_intE (i64_mid (by omega) (by omega)) (by first | rfl | omega)) (mk_cons (mk_intE (i64_mid (by omega) (by omega)) (by first | rfl | omega)) (mk_cons (mk_intE (i64_mid (by omega) (by omega)) (by first | rfl | omega)) (mk_cons (mk_strE (by omega) (by first | rfl | omega)) (mk_cons (rep_agg.2 (mk_cons (mk_intE (i64_mid (by omega) (by omega)) (by first | rfl | omega)) (mk_cons (mk_intE (i64_mid (by omega) (by omega)) (by first | rfl | omega)) (mk_cons (mk_intE (i64_mid (by omega) (by omega)) (by first | rfl | omega)) (mk_cons (mk_strE (by omega) (by first | rfl | omega)) (mk_cons (mk_slE Q8_5.out rfl) (mk_cons (mk_slE Q9_5.out rfl) (mk_cons (mk_slE Q10_5.out rfl) mk_nil)))))))) mk_nil))))) rfl (by first | rfl | simp only [List.nil_append, List.append_nil, List.append_assoc])
      case measure => simp [intOf]; omega
    · have hj' : j = xs.length := by omega
      subst hj'
      rw [List.take_of_length_le (Nat.le_refl _), List.drop_of_length_le (Nat.le_refl _)] at hs
      rw [List.take_of_length_le (Nat.le_refl _)]
      have HQ := Lib.hid hs
      clear hs
      go_wp2_with fail
      go_ret
      exact ⟨rfl, by have := HQ.out; simpa using this, hpr, hoff⟩
set_option maxHeartbeats 4000000 in
set_option maxRecDepth 100000 in
theorem heldReadS_run (w : World) (v : Value) (xs : List TRead) (F : List Nat) (k : Int) (h : SlAt w v ((TRead.markL xs k).map TRead.d) F) (h0 : 0 ≤ k) (h1 : k + ((TRead.cnL xs : Nat) : Int) ≤ 1099511627776) :
    Calls Tryz.prog 91 #[v, .int .i64 k] w fun e w' => e = .returned (.int .i64 (k + ((TRead.cnL xs : Nat) : Int))) ∧ Below w.heap.size w w' := by
  obtain ⟨A, c, rfl, hc, hcm⟩ := h.form
  have hl : ((TRead.markL xs k).map TRead.d).length = xs.length := by rw [List.length_map, TRead.markL_eq, mkL_length]
  rw [hl] at h hc ⊢
  have H1 := Lib.hid h1
  have HS := Lib.hid h
  clear h1 hl h
  go_enter Tryz.func91, Tryz.ntmps91
  go_wp2_with fail
  go_loopw [1, 5] (fun kk i wr => ∃ j : Nat, j ≤ xs.length ∧ i = .int .i64 j ∧ kk = .int .i64 (k + ((TRead.cnL (xs.take j) : Nat) : Int)) ∧ Below w.heap.size w wr) (fun _ i _ => xs.length - (intOf i).toNat)
  case atStart => exact ⟨0, Nat.zero_le _, rfl, int_eq (by rw [List.take_zero, TRead.cnL_eq]; simp [cnS]), Below.refl _ _⟩
  case round =>
    obtain ⟨j, hj, rfl, rfl, hb⟩ := hrel
    by_cases hlt : j < xs.length
    · have hs := HS.out.below hb
      obtain ⟨b, off, ys, Fi, rfl, hbl, _, hr, hlen, _, hcell⟩ := hs.at_ (W := 11) (i := j) (by
        rw [TRead.markL_eq]; exact TRead.wds _) (by rw [List.length_map, TRead.markL_eq, mkL_length]; exact hlt)
      have e0 : ((TRead.markL xs k).map TRead.d)[j]'(by rw [List.length_map, TRead.markL_eq, mkL_length]; exact hlt) = TRead.d (TRead.mark xs[j] (k + ((TRead.cnL (xs.take j) : Nat) : Int))) := by
        rw [List.getElem_map]
        congr 1
        exact (List.getElem_of_eq (TRead.markL_eq xs k) _).trans ((mkL_get xs j k hlt).trans (by rw [TRead.cnL_eq]))
      rw [e0] at hr
      have e1 : TRead.cnL (xs.take (j + 1)) = TRead.cnL (xs.take j) + TRead.cn xs[j] := by rw [TRead.cnL_eq, TRead.cnL_eq]; exact cnS_take_succ xs j hlt
      have e2 : TRead.cnL (xs.take (j + 1)) ≤ TRead.cnL xs := by rw [TRead.cnL_eq, TRead.cnL_eq]; exact cnS_take_le xs (j + 1)
      have e3 : TRead.cn xs[j] = 8 + TValue.cnL xs[j].result.list + strCnL xs[j].result.columns + TRow.cnL xs[j].result.rows := TRead.cn_eq _
      obtain ⟨kk, hkk⟩ : ∃ kk : Int, kk = k + ((TRead.cnL (xs.take j) : Nat) : Int) := ⟨_, rfl⟩
      rw [← hkk] at hr ⊢
      have k0 : 0 ≤ kk := by omega
      have k1 : kk + 8 + ((TValue.cnL xs[j].result.list : Nat) : Int) + ((strCnL xs[j].result.columns : Nat) : Int) + ((TRow.cnL xs[j].result.rows : Nat) : Int) ≤ 1099511627776 := by have := H1.out; rw [e3] at e1; omega
      have HE1 := Lib.hid e1
      have HE3 := Lib.hid e3
      have HK := Lib.hid hkk
      clear e0 e1 e2 e3 hkk hs hlen
      rw [TRead.mark_eq] at hr
      obtain ⟨A8, c8, F8, A9, c9, F9, A10, c10, F10, rfl, _, _, _, _, _, _, _, _, _, q8, q9, q10⟩ := TRead.open_ hr
      clear hr
      have Q8 : Hid (SlAt wr (.slice A8 (TValue.markL xs[j].result.list (kk + 1 + 1 + 1 + 1 + 1 + 1 + 1 + 1)).length c8) ((TValue.markL xs[j].result.list (kk + 1 + 1 + 1 + 1 + 1 + 1 + 1 + 1)).map TValue.d) F8) := Lib.hid q8
      clear q8
      have Q9 : Hid (SlAt wr (.slice A9 (strMarkL xs[j].result.columns (kk + 1 + 1 + 1 + 1 + 1 + 1 + 1 + 1 + ((TValue.cnL xs[j].result.list : Nat) : Int))).length c9) ((strMarkL xs[j].result.columns (kk + 1 + 1 + 1 + 1 + 1 + 1 + 1 + 1 + ((TValue.cnL xs[j].result.list : Nat) : Int))).map D.str) F9) := Lib.hid q9
      clear q9
      have Q10 : Hid (SlAt wr (.slice A10 (TRow.markL xs[j].result.rows (kk + 1 + 1 + 1 + 1 + 1 + 1 + 1 + 1 + ((TValue.cnL xs[j].result.list : Nat) : Int) + ((strCnL xs[j].result.columns : Nat) : Int))).length c10) ((TRow.markL xs[j].result.rows (kk + 1 + 1 + 1 + 1 + 1 + 1 + 1 + 1 + ((TValue.cnL xs[j].result.list : Nat) : Int) + ((strCnL xs[j].result.columns : Nat) : Int))).map TRow.d) F10) := Lib.hid q10
      clear q10
      have c0 : wr.cell? ⟨b, off + j * 11, none⟩ = some (.int .i64 (kk)) := hcell 0 _ rfl
      have c1 : wr.cell? ⟨b, off + j * 11 + 1, none⟩ = some (.int .i64 (kk + 1)) := hcell 1 _ rfl
      have c2 : wr.cell? ⟨b, off + j * 11 + 2, none⟩ = some (.int .i64 (kk + 1 + 1)) := hcell 2 _ rfl
      have c3 : wr.cell? ⟨b, off + j * 11 + 3, none⟩ = some (.string (mText (kk + 1 + 1 + 1))) := hcell 3 _ rfl
      have c4 : wr.cell? ⟨b, off + j * 11 + 4, none⟩ = some (.int .i64 (kk + 1 + 1 + 1 + 1)) := hcell 4 _ rfl
      have c5 : wr.cell? ⟨b, off + j * 11 + 5, none⟩ = some (.int .i64 (kk + 1 + 1 + 1 + 1 + 1)) := hcell 5 _ rfl
      have c6 : wr.cell? ⟨b, off + j * 11 + 6, none⟩ = some (.int .i64 (kk + 1 + 1 + 1 + 1 + 1 + 1)) := hcell 6 _ rfl
      have c7 : wr.cell? ⟨b, off + j * 11 + 7, none⟩ = some (.string (mText (kk + 1 + 1 + 1 + 1 + 1 + 1 + 1))) := hcell 7 _ rfl
      have c8 : wr.cell? ⟨b, off + j * 11 + 8, none⟩ = some (.slice A8 (TValue.markL xs[j].result.list (kk + 1 + 1 + 1 + 1 + 1 + 1 + 1 + 1)).length c8) := hcell 8 _ rfl
      have c9 : wr.cell? ⟨b, off + j * 11 + 9, none⟩ = some (.slice A9 (strMarkL xs[j].result.columns (kk + 1 + 1 + 1 + 1 + 1 + 1 + 1 + 1 + ((TValue.cnL xs[j].result.list : Nat) : Int))).length c9) := hcell 9 _ rfl
      have c10 : wr.cell? ⟨b, off + j * 11 + 10, none⟩ = some (.slice A10 (TRow.markL xs[j].result.rows (kk + 1 + 1 + 1 + 1 + 1 + 1 + 1 + 1 + ((TValue.cnL xs[j].result.list : Nat) : Int) + ((strCnL xs[j].result.columns : Nat) : Int))).length c10) := hcell 10 _ rfl
      clear hcell
      have D0 := Below.refl wr.heap.size wr
      go_wp2_with fail
      have hx_ := @ext_cell wr
      refine wp_region_mild (by kernel_rfl) (by kernel_rfl) ?_
      repeat (go_big_quiet_step ((go_at_call 53; exact mild_of (markText_any _ _ (by omega)))))
      refine wpQuiet_nil ?_
      rintro w' ⟨x_, rfl⟩
      obtain ⟨w1, hw1⟩ := x_
      clear hx_
      dsimp only
      have D1 := bnext D0 hw1
      replace hbl : b < w1.heap.size := Nat.lt_of_lt_of_le hbl hw1.size
      replace c4 := cell_next hw1 c4
      replace c5 := cell_next hw1 c5
      replace c6 := cell_next hw1 c6
      replace c7 := cell_next hw1 c7
      replace c8 := cell_next hw1 c8
      replace c9 := cell_next hw1 c9
      replace c10 := cell_next hw1 c10
      skip
      go_wp2_with fail
      have hx_ := @ext_cell w1
      refine wp_region_mild (by kernel_rfl) (by kernel_rfl) ?_
      repeat (go_big_quiet_step ((go_at_call 53; exact mild_of (markText_any _ _ (by omega)))))
      refine wpQuiet_nil ?_
      rintro w' ⟨x_, rfl⟩
      obtain ⟨w2, hw2⟩ := x_
      clear hx_
      dsimp only
      have D2 := bnext D1 hw2
      replace hbl : b < w2.heap.size := Nat.lt_of_lt_of_le hbl hw2.size
      replace c8 := cell_next hw2 c8
      replace c9 := cell_next hw2 c9
      replace c10 := cell_next hw2 c10
      skip
      go_wp2_with fail
      refine (heldValueS_run _ _ xs[j].result.list F8 _ (Q8.out.below D2) (by omega) (by omega)).mono ?_
      rintro e w3 ⟨rfl, hw3⟩
      have D3 := bnext D2 hw3
      replace hbl : b < w3.heap.size := Nat.lt_of_lt_of_le hbl hw3.size
      have hd3 : decide (kk + 1 + 1 + 1 + 1 + 1 + 1 + 1 + 1 + ((TValue.cnL xs[j].result.list : Nat) : Int) < 0) = false := by simp; omega
      replace c9 := cell_next hw3 c9
      replace c10 := cell_next hw3 c10
      go_wp2_with fail
      refine (heldStringS_run _ _ xs[j].result.columns F9 _ (Q9.out.below D3) (by omega) (by omega)).mono ?_
      rintro e w4 ⟨rfl, hw4⟩
      have D4 := bnext D3 hw4
      replace hbl : b < w4.heap.size := Nat.lt_of_lt_of_le hbl hw4.size
      have hd4 : decide (kk + 1 + 1 + 1 + 1 + 1 + 1 + 1 + 1 + ((TValue.cnL xs[j].result.list : Nat) : Int) + ((strCnL xs[j].result.columns : Nat) : Int) < 0) = false := by simp; omega
      replace c10 := cell_next hw4 c10
      go_wp2_with fail
      refine (heldRowS_run _ _ xs[j].result.rows F10 _ (Q10.out.below D4) (by omega) (by omega)).mono ?_
      rintro e w5 ⟨rfl, hw5⟩
      have D5 := bnext D4 hw5
      replace hbl : b < w5.heap.size := Nat.lt_of_lt_of_le hbl hw5.size
      have hd5 : decide (kk + 1 + 1 + 1 + 1 + 1 + 1 + 1 + 1 + ((TValue.cnL xs[j].result.list : Nat) : Int) + ((strCnL xs[j].result.columns : Nat) : Int) + ((TRow.cnL xs[j].result.rows : Nat) : Int) < 0) = false := by simp; omega
      go_wp2_with fail
      go_roundw
      case rel => exact ⟨j + 1, by omega, by go_num, int_eq (by have h1 := HE1.out; have h2 := HE3.out; have h3 := HK.out; rw [h2] at h1; omega), bnext hb D5⟩
      case measure => simp [intOf]; omega
    · have hj' : j = xs.length := by omega
      subst hj'
      rw [List.take_of_length_le (Nat.le_refl _)]
      go_wp2_with fail
      go_ret
      exact ⟨rfl, hb⟩
end Go.Proofs.YtbknilpmpjjfpaaGreat
/- The laws' marks written into slices of Tape, and their test. Conditions: the marks are numbers between 0 and 1099511627776. Written by a program of mine. -/
set_option linter.unusedSimpArgs false
set_option linter.unusedVariables false
namespace Go.Proofs.YtbknilpmpjjfpaaGreat
open Go.RowKit
theorem TTape.wd_ (x : TTape) : wd x.d = 3 := by simp [TTape.d, wd, wdL]
theorem TTape.wds (xs : List TTape) : ∀ d ∈ xs.map TTape.d, wd d = 3 := by
  intro d hd
  obtain ⟨x, _, rfl⟩ := List.mem_map.1 hd
  exact x.wd_
theorem TTape.open_ {w : World} {x : TTape} {cs : List Value} {F : List Nat} (h : Rep w x.d cs F) :
    ∃ (A2 : Option Addr) (c2 : Nat) (F2 : List Nat), cs = [.int .i64 x.cell, .int .i64 x.version, .slice A2 x.reads.length c2] ∧ F = F2 ∧ I64 x.cell ∧ I64 x.version ∧ SlAt w (.slice A2 x.reads.length c2) (x.reads.map TRead.d) F2 := by
  simp only [TTape.d, rep_agg, repL_cons, repL_nil, rep_int, rep_bool, rep_str, rep_sl, List.length_map] at h
  obtain ⟨_, _, _, _, rfl, rfl, ⟨rfl, rfl, i0⟩, ⟨_, _, _, _, rfl, rfl, ⟨rfl, rfl, i1⟩, ⟨_, _, F2, _, rfl, rfl, ⟨A2, c2, rfl, q2⟩, ⟨rfl, rfl⟩⟩⟩⟩ := h
  exact ⟨A2, c2, F2, rfl, by simp, i0, i1, q2⟩
set_option maxHeartbeats 4000000 in
set_option maxRecDepth 100000 in
theorem markTapeS_run (w : World) (v : Value) (xs : List TTape) (F : List Nat) (k : Int) (h : SlAt w v (xs.map TTape.d) F) (hn : F.Nodup) (hp : ∀ q ∈ F, Plain w q) (h0 : 0 ≤ k) (h1 : k + ((TTape.cnL xs : Nat) : Int) ≤ 1099511627776) :
    Calls Tryz.prog 46 #[v, .int .i64 k] w fun e w' => e = .returned (.int .i64 (k + ((TTape.cnL xs : Nat) : Int))) ∧ SlAt w' v ((TTape.markL xs k).map TTape.d) F ∧ (∀ q ∈ F, Plain w' q) ∧ Off F w w' := by
  obtain ⟨A, c, rfl, hc, hcm⟩ := h.form
  rw [List.length_map] at h hc ⊢
  have hP := Lib.hid hp
  have H1 := Lib.hid h1
  clear hp h1
  go_enter Tryz.func46, Tryz.ntmps46
  go_wp2_with fail
  go_loopw [1, 5] (fun kk i wr => ∃ j : Nat, j ≤ xs.length ∧ i = .int .i64 j ∧ kk = .int .i64 (k + ((TTape.cnL (xs.take j) : Nat) : Int)) ∧ SlAt wr (.slice A xs.length c) ((TTape.markL (xs.take j) k).map TTape.d ++ (xs.drop j).map TTape.d) F ∧ (∀ q ∈ F, Plain wr q) ∧ Off F w wr) (fun _ i _ => xs.length - (intOf i).toNat)
  case atStart => exact ⟨0, Nat.zero_le _, rfl, int_eq (by rw [List.take_zero, TTape.cnL_eq]; simp [cnS]), by rw [List.take_zero, List.drop_zero, TTape.markL_eq]; exact h, hP.out, Off.refl _ _⟩
  case round =>
    obtain ⟨j, hj, rfl, rfl, hs, hpr, hoff⟩ := hrel
    by_cases hlt : j < xs.length
    · have ed : xs.drop j = xs[j] :: xs.drop (j + 1) := List.drop_eq_getElem_cons hlt
      rw [ed, List.map_cons] at hs
      obtain ⟨b, off, ys, Fi, rfl, hbF, hbFi, hni, hsub, hr, hlen, hcell, hback⟩ := hs.take_out (W := 3) (by
        intro y hy
        rcases List.mem_append.1 hy with hy | hy
        · exact TTape.wds _ y hy
        · rw [← List.map_cons] at hy; exact TTape.wds _ y hy) (by omega) hn
      have el : ((TTape.markL (xs.take j) k).map TTape.d).length = j := by rw [List.length_map, TTape.markL_eq, mkL_length, List.length_take]; omega
      rw [el] at hcell hback
      have e1 : TTape.cnL (xs.take (j + 1)) = TTape.cnL (xs.take j) + TTape.cn xs[j] := by rw [TTape.cnL_eq, TTape.cnL_eq]; exact cnS_take_succ xs j hlt
      have e2 : TTape.cnL (xs.take (j + 1)) ≤ TTape.cnL xs := by rw [TTape.cnL_eq, TTape.cnL_eq]; exact cnS_take_le xs (j + 1)
      have e3 : TTape.cn xs[j] = 2 + TRead.cnL xs[j].reads := TTape.cn_eq _
      obtain ⟨kk, hkk⟩ : ∃ kk : Int, kk = k + ((TTape.cnL (xs.take j) : Nat) : Int) := ⟨_, rfl⟩
      rw [← hkk]
      have k0 : 0 ≤ kk := by omega
      have k1 : kk + 2 + ((TRead.cnL xs[j].reads : Nat) : Int) ≤ 1099511627776 := by have := H1.out; rw [e3] at e1; omega
      have HE1 := Lib.hid e1
      have HE3 := Lib.hid e3
      have HK := Lib.hid hkk
      have HB := Lib.hid hback
      have HS := Lib.hid hsub
      clear e1 e2 e3 hkk hback hsub ed el hs h hlen
      obtain ⟨A2, c2, F2, rfl, hF, _, _, q2⟩ := TTape.open_ hr
      clear hr
      have hF := hF.symm
      subst hF
      have dn2 := hni
      have ns2 : b ∉ F2 := fun hm => hbFi (by simp [hm])
      have T0 : Trk wr wr b (off + j * 3) (off + j * 3 + 3) _ := Trk.start (hpr b hbF) (fun q hq => hpr q (HS.out q hq))
      have C0 := Lib.hid hcell
      clear hcell hni
      have Q2_0 := Lib.hid q2
      have P2_0 : Hid (∀ q ∈ F2, Plain wr q) := Lib.hid (fun q hq => hpr q (HS.out q (by simp [hq])))
      clear q2
      have c0_0 : wr.cell? ⟨b, off + j * 3, none⟩ = _ := C0.out 0 _ rfl
      have c0_1 := C0.out 1 _ rfl
      have c0_2 := C0.out 2 _ rfl
      have z0 := T0.here.free
      go_wp2_with fail
      refine (markReadS_run _ _ xs[j].reads F2 _ (Rep.set (Rep.set Q2_0.out ns2 _) ns2 _) dn2 (fun q hq => Plain.set (Plain.set (P2_0.out q hq) _ _) _ _) (by omega) (by omega)).mono ?_
      rintro e w1 ⟨rfl, q2, p2, hb1⟩
      have T1 := Trk.step (Trk.set (Trk.set T0 0 (by omega) _) 1 (by omega) _) hb1 (fun q hq => by simp [hq]) ns2 p2
      have C1 := Lib.hid (CellsAt.step (CellsAt.setAt (CellsAt.setAt C0.out 0 (by simp) _) 1 (by simp) _) hb1 ns2)
      have Q2_1 := Lib.hid q2
      have P2_1 := Lib.hid p2
      clear q2 p2
      clear hb1 c0_0 c0_1 c0_2 z0
      have c1_0 : w1.cell? ⟨b, off + j * 3, none⟩ = _ := C1.out 0 _ rfl
      have c1_1 := C1.out 1 _ rfl
      have c1_2 := C1.out 2 _ rfl
      have z1 := T1.here.free
      go_wp2_with fail
      go_roundw
      case rel =>
        refine ⟨j + 1, by omega, by go_num, int_eq (by have h1 := HE1.out; have h2 := HE3.out; have h3 := HK.out; rw [h2] at h1; omega), ?_, Trk.plains T1 hpr, hoff.trans (Off.sub (Trk.off T1) (fun q hq => by rcases List.mem_cons.1 hq with rfl | hq; exact hbF; exact HS.out q hq))⟩
        have hm : TTape.markL (xs.take (j + 1)) k = TTape.markL (xs.take j) k ++ [TTape.mark xs[j] kk] := by
          rw [TTape.markL_eq, TTape.markL_eq, mkL_take_succ xs j k hlt, HK.out, TTape.cnL_eq]
        rw [hm, List.map_append, List.append_assoc]
        refine HB.out _ (TTape.d (TTape.mark xs[j] kk)) _ (by simp) ?_ C1.out T1
        simp only [TTape.mark_eq, TTape.d]
        rw [rep_agg]
        exact repL_of (mk_cons (mk_intE (i64_mid (by omega) (by omega)) (by first | rfl | omega)) (mk_cons (mk_intE (i64_mid (by omega) (by omega)) (by first | rfl | omega)) (mk_cons (mk_slE Q2_1.out rfl) mk_nil))) rfl (by first | rfl | simp only [List.nil_append, List.append_nil, List.append_assoc])
      case measure => simp [intOf]; omega
    · have hj' : j = xs.length := by omega
      subst hj'
      rw [List.take_of_length_le (Nat.le_refl _), List.drop_of_length_le (Nat.le_refl _)] at hs
      rw [List.take_of_length_le (Nat.le_refl _)]
      have HQ := Lib.hid hs
      clear hs
      go_wp2_with fail
      go_ret
      exact ⟨rfl, by have := HQ.out; simpa using this, hpr, hoff⟩
set_option maxHeartbeats 4000000 in
set_option maxRecDepth 100000 in
theorem heldTapeS_run (w : World) (v : Value) (xs : List TTape) (F : List Nat) (k : Int) (h : SlAt w v ((TTape.markL xs k).map TTape.d) F) (h0 : 0 ≤ k) (h1 : k + ((TTape.cnL xs : Nat) : Int) ≤ 1099511627776) :
    Calls Tryz.prog 50 #[v, .int .i64 k] w fun e w' => e = .returned (.int .i64 (k + ((TTape.cnL xs : Nat) : Int))) ∧ Below w.heap.size w w' := by
  obtain ⟨A, c, rfl, hc, hcm⟩ := h.form
  have hl : ((TTape.markL xs k).map TTape.d).length = xs.length := by rw [List.length_map, TTape.markL_eq, mkL_length]
  rw [hl] at h hc ⊢
  have H1 := Lib.hid h1
  have HS := Lib.hid h
  clear h1 hl h
  go_enter Tryz.func50, Tryz.ntmps50
  go_wp2_with fail
  go_loopw [1, 5] (fun kk i wr => ∃ j : Nat, j ≤ xs.length ∧ i = .int .i64 j ∧ kk = .int .i64 (k + ((TTape.cnL (xs.take j) : Nat) : Int)) ∧ Below w.heap.size w wr) (fun _ i _ => xs.length - (intOf i).toNat)
  case atStart => exact ⟨0, Nat.zero_le _, rfl, int_eq (by rw [List.take_zero, TTape.cnL_eq]; simp [cnS]), Below.refl _ _⟩
  case round =>
    obtain ⟨j, hj, rfl, rfl, hb⟩ := hrel
    by_cases hlt : j < xs.length
    · have hs := HS.out.below hb
      obtain ⟨b, off, ys, Fi, rfl, hbl, _, hr, hlen, _, hcell⟩ := hs.at_ (W := 3) (i := j) (by
        rw [TTape.markL_eq]; exact TTape.wds _) (by rw [List.length_map, TTape.markL_eq, mkL_length]; exact hlt)
      have e0 : ((TTape.markL xs k).map TTape.d)[j]'(by rw [List.length_map, TTape.markL_eq, mkL_length]; exact hlt) = TTape.d (TTape.mark xs[j] (k + ((TTape.cnL (xs.take j) : Nat) : Int))) := by
        rw [List.getElem_map]
        congr 1
        exact (List.getElem_of_eq (TTape.markL_eq xs k) _).trans ((mkL_get xs j k hlt).trans (by rw [TTape.cnL_eq]))
      rw [e0] at hr
      have e1 : TTape.cnL (xs.take (j + 1)) = TTape.cnL (xs.take j) + TTape.cn xs[j] := by rw [TTape.cnL_eq, TTape.cnL_eq]; exact cnS_take_succ xs j hlt
      have e2 : TTape.cnL (xs.take (j + 1)) ≤ TTape.cnL xs := by rw [TTape.cnL_eq, TTape.cnL_eq]; exact cnS_take_le xs (j + 1)
      have e3 : TTape.cn xs[j] = 2 + TRead.cnL xs[j].reads := TTape.cn_eq _
      obtain ⟨kk, hkk⟩ : ∃ kk : Int, kk = k + ((TTape.cnL (xs.take j) : Nat) : Int) := ⟨_, rfl⟩
      rw [← hkk] at hr ⊢
      have k0 : 0 ≤ kk := by omega
      have k1 : kk + 2 + ((TRead.cnL xs[j].reads : Nat) : Int) ≤ 1099511627776 := by have := H1.out; rw [e3] at e1; omega
      have HE1 := Lib.hid e1
      have HE3 := Lib.hid e3
      have HK := Lib.hid hkk
      clear e0 e1 e2 e3 hkk hs hlen
      rw [TTape.mark_eq] at hr
      obtain ⟨A2, c2, F2, rfl, _, _, _, q2⟩ := TTape.open_ hr
      clear hr
      have Q2 : Hid (SlAt wr (.slice A2 (TRead.markL xs[j].reads (kk + 1 + 1)).length c2) ((TRead.markL xs[j].reads (kk + 1 + 1)).map TRead.d) F2) := Lib.hid q2
      clear q2
      have c0 : wr.cell? ⟨b, off + j * 3, none⟩ = some (.int .i64 (kk)) := hcell 0 _ rfl
      have c1 : wr.cell? ⟨b, off + j * 3 + 1, none⟩ = some (.int .i64 (kk + 1)) := hcell 1 _ rfl
      have c2 : wr.cell? ⟨b, off + j * 3 + 2, none⟩ = some (.slice A2 (TRead.markL xs[j].reads (kk + 1 + 1)).length c2) := hcell 2 _ rfl
      clear hcell
      have D0 := Below.refl wr.heap.size wr
      go_wp2_with fail
      refine (heldReadS_run _ _ xs[j].reads F2 _ (Q2.out.below D0) (by omega) (by omega)).mono ?_
      rintro e w1 ⟨rfl, hw1⟩
      have D1 := bnext D0 hw1
      replace hbl : b < w1.heap.size := Nat.lt_of_lt_of_le hbl hw1.size
      have hd1 : decide (kk + 1 + 1 + ((TRead.cnL xs[j].reads : Nat) : Int) < 0) = false := by simp; omega
      go_wp2_with fail
      go_roundw
      case rel => exact ⟨j + 1, by omega, by go_num, int_eq (by have h1 := HE1.out; have h2 := HE3.out; have h3 := HK.out; rw [h2] at h1; omega), bnext hb D1⟩
      case measure => simp [intOf]; omega
    · have hj' : j = xs.length := by omega
      subst hj'
      rw [List.take_of_length_le (Nat.le_refl _)]
      go_wp2_with fail
      go_ret
      exact ⟨rfl, hb⟩
end Go.Proofs.YtbknilpmpjjfpaaGreat
/- The laws' marks written into slices of Entry, and their test. Conditions: the marks are numbers between 0 and 1099511627776. Written by a program of mine. -/
set_option linter.unusedSimpArgs false
set_option linter.unusedVariables false
namespace Go.Proofs.YtbknilpmpjjfpaaGreat
open Go.RowKit
theorem TEntry.wd_ (x : TEntry) : wd x.d = 12 := by simp [TEntry.d, TValue.d_eq, wd, wdL]
theorem TEntry.wds (xs : List TEntry) : ∀ d ∈ xs.map TEntry.d, wd d = 12 := by
  intro d hd
  obtain ⟨x, _, rfl⟩ := List.mem_map.1 hd
  exact x.wd_
theorem TEntry.open_ {w : World} {x : TEntry} {cs : List Value} {F : List Nat} (h : Rep w x.d cs F) :
    ∃ (A3 : Option Addr) (c3 : Nat) (F3 : List Nat) (A8 : Option Addr) (c8 : Nat) (F8 : List Nat) (A9 : Option Addr) (c9 : Nat) (F9 : List Nat) (A10 : Option Addr) (c10 : Nat) (F10 : List Nat), cs = [.int .i64 x.cell, .int .i64 x.version, .int .i64 x.stamp, .slice A3 x.inputs.length c3, .int .i64 x.value.kind, .int .i64 x.value.n, .int .i64 x.value.step, .string x.value.text, .slice A8 x.value.list.length c8, .slice A9 x.value.columns.length c9, .slice A10 x.value.rows.length c10, .bool x.has] ∧ F = F3 ++ (F8 ++ (F9 ++ F10)) ∧ I64 x.cell ∧ I64 x.version ∧ I64 x.stamp ∧ SlAt w (.slice A3 x.inputs.length c3) (x.inputs.map D.int) F3 ∧ I64 x.value.kind ∧ I64 x.value.n ∧ I64 x.value.step ∧ Fits x.value.text ∧ SlAt w (.slice A8 x.value.list.length c8) (x.value.list.map TValue.d) F8 ∧ SlAt w (.slice A9 x.value.columns.length c9) (x.value.columns.map D.str) F9 ∧ SlAt w (.slice A10 x.value.rows.length c10) (x.value.rows.map TRow.d) F10 := by
  simp only [TEntry.d, TValue.d_eq, rep_agg, repL_cons, repL_nil, rep_int, rep_bool, rep_str, rep_sl, List.length_map] at h
  obtain ⟨_, _, _, _, rfl, rfl, ⟨rfl, rfl, i0⟩, ⟨_, _, _, _, rfl, rfl, ⟨rfl, rfl, i1⟩, ⟨_, _, _, _, rfl, rfl, ⟨rfl, rfl, i2⟩, ⟨_, _, F3, _, rfl, rfl, ⟨A3, c3, rfl, q3⟩, ⟨_, _, _, _, rfl, rfl, ⟨_, _, _, _, rfl, rfl, ⟨rfl, rfl, i4⟩, ⟨_, _, _, _, rfl, rfl, ⟨rfl, rfl, i5⟩, ⟨_, _, _, _, rfl, rfl, ⟨rfl, rfl, i6⟩, ⟨_, _, _, _, rfl, rfl, ⟨rfl, rfl, i7⟩, ⟨_, _, F8, _, rfl, rfl, ⟨A8, c8, rfl, q8⟩, ⟨_, _, F9, _, rfl, rfl, ⟨A9, c9, rfl, q9⟩, ⟨_, _, F10, _, rfl, rfl, ⟨A10, c10, rfl, q10⟩, ⟨rfl, rfl⟩⟩⟩⟩⟩⟩⟩⟩, ⟨_, _, _, _, rfl, rfl, ⟨rfl, rfl⟩, ⟨rfl, rfl⟩⟩⟩⟩⟩⟩⟩ := h
  exact ⟨A3, c3, F3, A8, c8, F8, A9, c9, F9, A10, c10, F10, rfl, by simp, i0, i1, i2, q3, i4, i5, i6, i7, q8, q9, q10⟩
set_option maxHeartbeats 4000000 in
set_option maxRecDepth 100000 in
theorem markEntryS_run (w : World) (v : Value) (xs : List TEntry) (F : List Nat) (k : Int) (h : SlAt w v (xs.map TEntry.d) F) (hn : F.Nodup) (hp : ∀ q ∈ F, Plain w q) (h0 : 0 ≤ k) (h1 : k + ((TEntry.cnL xs : Nat) : Int) ≤ 1099511627776) :
    Calls Tryz.prog 47 #[v, .int .i64 k] w fun e w' => e = .returned (.int .i64 (k + ((TEntry.cnL xs : Nat) : Int))) ∧ SlAt w' v ((TEntry.markL xs k).map TEntry.d) F ∧ (∀ q ∈ F, Plain w' q) ∧ Off F w w' := by
  obtain ⟨A, c, rfl, hc, hcm⟩ := h.form
  rw [List.length_map] at h hc ⊢
  have hP := Lib.hid hp
  have H1 := Lib.hid h1
  clear hp h1
  go_enter Tryz.func47, Tryz.ntmps47
  go_wp2_with fail
  go_loopw [1, 5] (fun kk i wr => ∃ j : Nat, j ≤ xs.length ∧ i = .int .i64 j ∧ kk = .int .i64 (k + ((TEntry.cnL (xs.take j) : Nat) : Int)) ∧ SlAt wr (.slice A xs.length c) ((TEntry.markL (xs.take j) k).map TEntry.d ++ (xs.drop j).map TEntry.d) F ∧ (∀ q ∈ F, Plain wr q) ∧ Off F w wr) (fun _ i _ => xs.length - (intOf i).toNat)
  case atStart => exact ⟨0, Nat.zero_le _, rfl, int_eq (by rw [List.take_zero, TEntry.cnL_eq]; simp [cnS]), by rw [List.take_zero, List.drop_zero, TEntry.markL_eq]; exact h, hP.out, Off.refl _ _⟩
  case round =>
    obtain ⟨j, hj, rfl, rfl, hs, hpr, hoff⟩ := hrel
    by_cases hlt : j < xs.length
    · have ed : xs.drop j = xs[j] :: xs.drop (j + 1) := List.drop_eq_getElem_cons hlt
      rw [ed, List.map_cons] at hs
      obtain ⟨b, off, ys, Fi, rfl, hbF, hbFi, hni, hsub, hr, hlen, hcell, hback⟩ := hs.take_out (W := 12) (by
        intro y hy
        rcases List.mem_append.1 hy with hy | hy
        · exact TEntry.wds _ y hy
        · rw [← List.map_cons] at hy; exact TEntry.wds _ y hy) (by omega) hn
      have el : ((TEntry.markL (xs.take j) k).map TEntry.d).length = j := by rw [List.length_map, TEntry.markL_eq, mkL_length, List.length_take]; omega
      rw [el] at hcell hback
      have e1 : TEntry.cnL (xs.take (j + 1)) = TEntry.cnL (xs.take j) + TEntry.cn xs[j] := by rw [TEntry.cnL_eq, TEntry.cnL_eq]; exact cnS_take_succ xs j hlt
      have e2 : TEntry.cnL (xs.take (j + 1)) ≤ TEntry.cnL xs := by rw [TEntry.cnL_eq, TEntry.cnL_eq]; exact cnS_take_le xs (j + 1)
      have e3 : TEntry.cn xs[j] = 8 + intCnL xs[j].inputs + TValue.cnL xs[j].value.list + strCnL xs[j].value.columns + TRow.cnL xs[j].value.rows := TEntry.cn_eq _
      obtain ⟨kk, hkk⟩ : ∃ kk : Int, kk = k + ((TEntry.cnL (xs.take j) : Nat) : Int) := ⟨_, rfl⟩
      rw [← hkk]
      have k0 : 0 ≤ kk := by omega
      have k1 : kk + 8 + ((intCnL xs[j].inputs : Nat) : Int) + ((TValue.cnL xs[j].value.list : Nat) : Int) + ((strCnL xs[j].value.columns : Nat) : Int) + ((TRow.cnL xs[j].value.rows : Nat) : Int) ≤ 1099511627776 := by have := H1.out; rw [e3] at e1; omega
      have HE1 := Lib.hid e1
      have HE3 := Lib.hid e3
      have HK := Lib.hid hkk
      have HB := Lib.hid hback
      have HS := Lib.hid hsub
      clear e1 e2 e3 hkk hback hsub ed el hs h hlen
      obtain ⟨A3, c3, F3, A8, c8, F8, A9, c9, F9, A10, c10, F10, rfl, hF, _, _, _, q3, _, _, _, _, q8, q9, q10⟩ := TEntry.open_ hr
      clear hr
      have hF := hF.symm
      subst hF
      obtain ⟨da3, db3, dn3, dr3⟩ := nodup_two hni
      obtain ⟨da8, db8, dn8, dr8⟩ := nodup_two dr3
      obtain ⟨da9, db9, dn9, dr9⟩ := nodup_two dr8
      have dn10 := dr9
      have ns3 : b ∉ F3 := fun hm => hbFi (by simp [hm])
      have ns8 : b ∉ F8 := fun hm => hbFi (by simp [hm])
      have ns9 : b ∉ F9 := fun hm => hbFi (by simp [hm])
      have ns10 : b ∉ F10 := fun hm => hbFi (by simp [hm])
      have T0 : Trk wr wr b (off + j * 12) (off + j * 12 + 12) _ := Trk.start (hpr b hbF) (fun q hq => hpr q (HS.out q hq))
      have C0 := Lib.hid hcell
      clear hcell hni
      have Q3_0 := Lib.hid q3
      have P3_0 : Hid (∀ q ∈ F3, Plain wr q) := Lib.hid (fun q hq => hpr q (HS.out q (by simp [hq])))
      clear q3
      have Q8_0 := Lib.hid q8
      have P8_0 : Hid (∀ q ∈ F8, Plain wr q) := Lib.hid (fun q hq => hpr q (HS.out q (by simp [hq])))
      clear q8
      have Q9_0 := Lib.hid q9
      have P9_0 : Hid (∀ q ∈ F9, Plain wr q) := Lib.hid (fun q hq => hpr q (HS.out q (by simp [hq])))
      clear q9
      have Q10_0 := Lib.hid q10
      have P10_0 : Hid (∀ q ∈ F10, Plain wr q) := Lib.hid (fun q hq => hpr q (HS.out q (by simp [hq])))
      clear q10
      have c0_0 : wr.cell? ⟨b, off + j * 12, none⟩ = _ := C0.out 0 _ rfl
      have c0_1 := C0.out 1 _ rfl
      have c0_2 := C0.out 2 _ rfl
      have c0_3 := C0.out 3 _ rfl
      have c0_4 := C0.out 4 _ rfl
      have c0_5 := C0.out 5 _ rfl
      have c0_6 := C0.out 6 _ rfl
      have c0_7 := C0.out 7 _ rfl
      have c0_8 := C0.out 8 _ rfl
      have c0_9 := C0.out 9 _ rfl
      have c0_10 := C0.out 10 _ rfl
      have c0_11 := C0.out 11 _ rfl
      have z0 := T0.here.free
      go_wp2_with fail
      refine (markIntS_run _ _ xs[j].inputs F3 _ (Rep.set (Rep.set (Rep.set Q3_0.out ns3 _) ns3 _) ns3 _) dn3 (fun q hq => Plain.set (Plain.set (Plain.set (P3_0.out q hq) _ _) _ _) _ _) (by omega) (by omega)).mono ?_
      rintro e w1 ⟨rfl, q3, p3, hb1⟩
      have T1 := Trk.step (Trk.set (Trk.set (Trk.set T0 0 (by omega) _) 1 (by omega) _) 2 (by omega) _) hb1 (fun q hq => by simp [hq]) ns3 p3
      have C1 := Lib.hid (CellsAt.step (CellsAt.setAt (CellsAt.setAt (CellsAt.setAt C0.out 0 (by simp) _) 1 (by simp) _) 2 (by simp) _) hb1 ns3)
      have Q3_1 := Lib.hid q3
      have P3_1 := Lib.hid p3
      clear q3 p3
      have dq : ∀ x ∈ F8, x ∉ F3 := fun x hx hm => db3 x (by simp [hx]) hm
      have Q8_1 := Lib.hid (Off.rep hb1 (Rep.set (Rep.set (Rep.set Q8_0.out ns8 _) ns8 _) ns8 _) dq)
      have P8_1 : Hid (∀ q ∈ F8, Plain w1 q) := Lib.hid (fun x hx => Off.plain hb1 ((fun q hq => Plain.set (Plain.set (Plain.set (P8_0.out q hq) _ _) _ _) _ _) x hx) (dq x hx))
      clear dq
      have dq : ∀ x ∈ F9, x ∉ F3 := fun x hx hm => db3 x (by simp [hx]) hm
      have Q9_1 := Lib.hid (Off.rep hb1 (Rep.set (Rep.set (Rep.set Q9_0.out ns9 _) ns9 _) ns9 _) dq)
      have P9_1 : Hid (∀ q ∈ F9, Plain w1 q) := Lib.hid (fun x hx => Off.plain hb1 ((fun q hq => Plain.set (Plain.set (Plain.set (P9_0.out q hq) _ _) _ _) _ _) x hx) (dq x hx))
      clear dq
      have dq : ∀ x ∈ F10, x ∉ F3 := fun x hx hm => db3 x (by simp [hx]) hm
      have Q10_1 := Lib.hid (Off.rep hb1 (Rep.set (Rep.set (Rep.set Q10_0.out ns10 _) ns10 _) ns10 _) dq)
      have P10_1 : Hid (∀ q ∈ F10, Plain w1 q) := Lib.hid (fun x hx => Off.plain hb1 ((fun q hq => Plain.set (Plain.set (Plain.set (P10_0.out q hq) _ _) _ _) _ _) x hx) (dq x hx))
      clear dq
      clear hb1 c0_0 c0_1 c0_2 c0_3 c0_4 c0_5 c0_6 c0_7 c0_8 c0_9 c0_10 c0_11 z0
      have c1_0 : w1.cell? ⟨b, off + j * 12, none⟩ = _ := C1.out 0 _ rfl
      have c1_1 := C1.out 1 _ rfl
      have c1_2 := C1.out 2 _ rfl
      have c1_3 := C1.out 3 _ rfl
      have c1_4 := C1.out 4 _ rfl
      have c1_5 := C1.out 5 _ rfl
      have c1_6 := C1.out 6 _ rfl
      have c1_7 := C1.out 7 _ rfl
      have c1_8 := C1.out 8 _ rfl
      have c1_9 := C1.out 9 _ rfl
      have c1_10 := C1.out 10 _ rfl
      have c1_11 := C1.out 11 _ rfl
      have z1 := T1.here.free
      go_wp2_with fail
      refine (markText_any _ _ (by omega)).mono ?_
      rintro e w2 ⟨rfl, hb2⟩
      have T2 := Trk.next (Trk.set (Trk.set (Trk.set T1 4 (by omega) _) 5 (by omega) _) 6 (by omega) _) hb2
      have C2 := Lib.hid (CellsAt.next (CellsAt.setAt (CellsAt.setAt (CellsAt.setAt C1.out 4 (by simp) _) 5 (by simp) _) 6 (by simp) _) hb2)
      have Q3_2 := Lib.hid (Rep.below (Rep.set (Rep.set (Rep.set Q3_1.out ns3 _) ns3 _) ns3 _) hb2)
      have P3_2 := Lib.hid (fun q hq => Plain.next ((fun q hq => Plain.set (Plain.set (Plain.set (P3_1.out q hq) _ _) _ _) _ _) q hq) hb2)
      have Q8_2 := Lib.hid (Rep.below (Rep.set (Rep.set (Rep.set Q8_1.out ns8 _) ns8 _) ns8 _) hb2)
      have P8_2 := Lib.hid (fun q hq => Plain.next ((fun q hq => Plain.set (Plain.set (Plain.set (P8_1.out q hq) _ _) _ _) _ _) q hq) hb2)
      have Q9_2 := Lib.hid (Rep.below (Rep.set (Rep.set (Rep.set Q9_1.out ns9 _) ns9 _) ns9 _) hb2)
      have P9_2 := Lib.hid (fun q hq => Plain.next ((fun q hq => Plain.set (Plain.set (Plain.set (P9_1.out q hq) _ _) _ _) _ _) q hq) hb2)
      have Q10_2 := Lib.hid (Rep.below (Rep.set (Rep.set (Rep.set Q10_1.out ns10 _) ns10 _) ns10 _) hb2)
      have P10_2 := Lib.hid (fun q hq => Plain.next ((fun q hq => Plain.set (Plain.set (Plain.set (P10_1.out q hq) _ _) _ _) _ _) q hq) hb2)
      clear hb2 c1_0 c1_1 c1_2 c1_3 c1_4 c1_5 c1_6 c1_7 c1_8 c1_9 c1_10 c1_11 z1
      have c2_0 : w2.cell? ⟨b, off + j * 12, none⟩ = _ := C2.out 0 _ rfl
      have c2_1 := C2.out 1 _ rfl
      have c2_2 := C2.out 2 _ rfl
      have c2_3 := C2.out 3 _ rfl
      have c2_4 := C2.out 4 _ rfl
      have c2_5 := C2.out 5 _ rfl
      have c2_6 := C2.out 6 _ rfl
      have c2_7 := C2.out 7 _ rfl
      have c2_8 := C2.out 8 _ rfl
      have c2_9 := C2.out 9 _ rfl
      have c2_10 := C2.out 10 _ rfl
      have c2_11 := C2.out 11 _ rfl
      have z2 := T2.here.free
      go_wp2_with fail
      refine (markValueS_run _ _ xs[j].value.list F8 _ (Rep.set Q8_2.out ns8 _) dn8 (fun q hq => Plain.set (P8_2.out q hq) _ _) (by omega) (by omega)).mono ?_
      rintro e w3 ⟨rfl, q8, p8, hb3⟩
      have T3 := Trk.step (Trk.set T2 7 (by omega) _) hb3 (fun q hq => by simp [hq]) ns8 p8
      have C3 := Lib.hid (CellsAt.step (CellsAt.setAt C2.out 7 (by simp) _) hb3 ns8)
      have dq : ∀ x ∈ F3, x ∉ F8 := fun x hx hm => da3 x hx (by simp [hm])
      have Q3_3 := Lib.hid (Off.rep hb3 (Rep.set Q3_2.out ns3 _) dq)
      have P3_3 : Hid (∀ q ∈ F3, Plain w3 q) := Lib.hid (fun x hx => Off.plain hb3 ((fun q hq => Plain.set (P3_2.out q hq) _ _) x hx) (dq x hx))
      clear dq
      have Q8_3 := Lib.hid q8
      have P8_3 := Lib.hid p8
      clear q8 p8
      have dq : ∀ x ∈ F9, x ∉ F8 := fun x hx hm => db8 x (by simp [hx]) hm
      have Q9_3 := Lib.hid (Off.rep hb3 (Rep.set Q9_2.out ns9 _) dq)
      have P9_3 : Hid (∀ q ∈ F9, Plain w3 q) := Lib.hid (fun x hx => Off.plain hb3 ((fun q hq => Plain.set (P9_2.out q hq) _ _) x hx) (dq x hx))
      clear dq
      have dq : ∀ x ∈ F10, x ∉ F8 := fun x hx hm => db8 x (by simp [hx]) hm
      have Q10_3 := Lib.hid (Off.rep hb3 (Rep.set Q10_2.out ns10 _) dq)
      have P10_3 : Hid (∀ q ∈ F10, Plain w3 q) := Lib.hid (fun x hx => Off.plain hb3 ((fun q hq => Plain.set (P10_2.out q hq) _ _) x hx) (dq x hx))
      clear dq
      clear hb3 c2_0 c2_1 c2_2 c2_3 c2_4 c2_5 c2_6 c2_7 c2_8 c2_9 c2_10 c2_11 z2
      have c3_0 : w3.cell? ⟨b, off + j * 12, none⟩ = _ := C3.out 0 _ rfl
      have c3_1 := C3.out 1 _ rfl
      have c3_2 := C3.out 2 _ rfl
      have c3_3 := C3.out 3 _ rfl
      have c3_4 := C3.out 4 _ rfl
      have c3_5 := C3.out 5 _ rfl
      have c3_6 := C3.out 6 _ rfl
      have c3_7 := C3.out 7 _ rfl
      have c3_8 := C3.out 8 _ rfl
      have c3_9 := C3.out 9 _ rfl
      have c3_10 := C3.out 10 _ rfl
      have c3_11 := C3.out 11 _ rfl
      have z3 := T3.here.free
      go_wp2_with fail
      refine (markStringS_run _ _ xs[j].value.columns F9 _ Q9_3.out dn9 (fun q hq => P9_3.out q hq) (by omega) (by omega)).mono ?_
      rintro e w4 ⟨rfl, q9, p9, hb4⟩
      have T4 := Trk.step T3 hb4 (fun q hq => by simp [hq]) ns9 p9
      have C4 := Lib.hid (CellsAt.step C3.out hb4 ns9)
      have dq : ∀ x ∈ F3, x ∉ F9 := fun x hx hm => da3 x hx (by simp [hm])
      have Q3_4 := Lib.hid (Off.rep hb4 Q3_3.out dq)
      have P3_4 : Hid (∀ q ∈ F3, Plain w4 q) := Lib.hid (fun x hx => Off.plain hb4 ((fun q hq => P3_3.out q hq) x hx) (dq x hx))
      clear dq
      have dq : ∀ x ∈ F8, x ∉ F9 := fun x hx hm => da8 x hx (by simp [hm])
      have Q8_4 := Lib.hid (Off.rep hb4 Q8_3.out dq)
      have P8_4 : Hid (∀ q ∈ F8, Plain w4 q) := Lib.hid (fun x hx => Off.plain hb4 ((fun q hq => P8_3.out q hq) x hx) (dq x hx))
      clear dq
      have Q9_4 := Lib.hid q9
      have P9_4 := Lib.hid p9
      clear q9 p9
      have dq : ∀ x ∈ F10, x ∉ F9 := fun x hx hm => db9 x (by simp [hx]) hm
      have Q10_4 := Lib.hid (Off.rep hb4 Q10_3.out dq)
      have P10_4 : Hid (∀ q ∈ F10, Plain w4 q) := Lib.hid (fun x hx => Off.plain hb4 ((fun q hq => P10_3.out q hq) x hx) (dq x hx))
      clear dq
      clear hb4 c3_0 c3_1 c3_2 c3_3 c3_4 c3_5 c3_6 c3_7 c3_8 c3_9 c3_10 c3_11 z3
      have c4_0 : w4.cell? ⟨b, off + j * 12, none⟩ = _ := C4.out 0 _ rfl
      have c4_1 := C4.out 1 _ rfl
      have c4_2 := C4.out 2 _ rfl
      have c4_3 := C4.out 3 _ rfl
      have c4_4 := C4.out 4 _ rfl
      have c4_5 := C4.out 5 _ rfl
      have c4_6 := C4.out 6 _ rfl
      have c4_7 := C4.out 7 _ rfl
      have c4_8 := C4.out 8 _ rfl
      have c4_9 := C4.out 9 _ rfl
      have c4_10 := C4.out 10 _ rfl
      have c4_11 := C4.out 11 _ rfl
      have z4 := T4.here.free
      go_wp2_with fail
      refine (markRowS_run _ _ xs[j].value.rows F10 _ Q10_4.out dn10 (fun q hq => P10_4.out q hq) (by omega) (by omega)).mono ?_
      rintro e w5 ⟨rfl, q10, p10, hb5⟩
      have T5 := Trk.step T4 hb5 (fun q hq => by simp [hq]) ns10 p10
      have C5 := Lib.hid (CellsAt.step C4.out hb5 ns10)
      have dq : ∀ x ∈ F3, x ∉ F10 := fun x hx hm => da3 x hx (by simp [hm])
      have Q3_5 := Lib.hid (Off.rep hb5 Q3_4.out dq)
      have P3_5 : Hid (∀ q ∈ F3, Plain w5 q) := Lib.hid (fun x hx => Off.plain hb5 ((fun q hq => P3_4.out q hq) x hx) (dq x hx))
      clear dq
      have dq : ∀ x ∈ F8, x ∉ F10 := fun x hx hm => da8 x hx (by simp [hm])
      have Q8_5 := Lib.hid (Off.rep hb5 Q8_4.out dq)
      have P8_5 : Hid (∀ q ∈ F8, Plain w5 q) := Lib.hid (fun x hx => Off.plain hb5 ((fun q hq => P8_4.out q hq) x hx) (dq x hx))
      clear dq
      have dq : ∀ x ∈ F9, x ∉ F10 := fun x hx hm => da9 x hx (by simp [hm])
      have Q9_5 := Lib.hid (Off.rep hb5 Q9_4.out dq)
      have P9_5 : Hid (∀ q ∈ F9, Plain w5 q) := Lib.hid (fun x hx => Off.plain hb5 ((fun q hq => P9_4.out q hq) x hx) (dq x hx))
      clear dq
      have Q10_5 := Lib.hid q10
      have P10_5 := Lib.hid p10
      clear q10 p10
      clear hb5 c4_0 c4_1 c4_2 c4_3 c4_4 c4_5 c4_6 c4_7 c4_8 c4_9 c4_10 c4_11 z4
      have c5_0 : w5.cell? ⟨b, off + j * 12, none⟩ = _ := C5.out 0 _ rfl
      have c5_1 := C5.out 1 _ rfl
      have c5_2 := C5.out 2 _ rfl
      have c5_3 := C5.out 3 _ rfl
      have c5_4 := C5.out 4 _ rfl
      have c5_5 := C5.out 5 _ rfl
      have c5_6 := C5.out 6 _ rfl
      have c5_7 := C5.out 7 _ rfl
      have c5_8 := C5.out 8 _ rfl
      have c5_9 := C5.out 9 _ rfl
      have c5_10 := C5.out 10 _ rfl
      have c5_11 := C5.out 11 _ rfl
      have z5 := T5.here.free
      go_wp2_with fail
      go_roundw
      case rel =>
        refine ⟨j + 1, by omega, by go_num, int_eq (by have h1 := HE1.out; have h2 := HE3.out; have h3 := HK.out; rw [h2] at h1; omega), ?_, Trk.plains (Trk.set T5 11 (by omega) _) hpr, hoff.trans (Off.sub (Trk.off (Trk.set T5 11 (by omega) _)) (fun q hq => by rcases List.mem_cons.1 hq with rfl | hq; exact hbF; exact HS.out q hq))⟩
        have hm : TEntry.markL (xs.take (j + 1)) k = TEntry.markL (xs.take j) k ++ [TEntry.mark xs[j] kk] := by
          rw [TEntry.markL_eq, TEntry.markL_eq, mkL_take_succ xs j k hlt, HK.out, TEntry.cnL_eq]
        rw [hm, List.map_append, List.append_assoc]
        refine HB.out _ (TEntry.d (TEntry.mark xs[j] kk)) _ (by simp) ?_ (CellsAt.setAt C5.out 11 (by simp) _) (Trk.set T5 11 (by omega) _)
        simp only [TEntry.mark_eq, TEntry.d, TValue.d_eq]
        rw [rep_agg]
        exact repL_of (mk_cons (mk_intE (i64_mid (by omega) (by omega)) (by first | rfl | omega)) (mk_cons (mk_intE (i64_mid (by omega) (by omega)) (by first | rfl | omega)) (mk_cons (mk_intE (i64_mid (by omega) (by omega)) (by first | rfl | omega)) (mk_cons (mk_slE (Rep.set Q3_5.out ns3 _) rfl) (mk_cons (rep_agg.2 (mk_cons (mk_intE (i64_mid (by omega) (by omega)) (by first | rfl | omega)) (mk_cons (mk_intE (i64_mid (by omega) (by omega)) (by first | rfl | omega)) (mk_cons (mk_intE (i64_mid (by omega) (by omega)) (by first | rfl | omega)) (mk_cons (mk_strE (by omega) (by first | rfl | omega)) (mk_cons (mk_slE (Rep.set Q8_5.out ns8 _) rfl) (mk_cons (mk_slE (Rep.set Q9_5.out ns9 _) rfl) (mk_cons (mk_slE (Rep.set Q10_5.out ns10 _) rfl) mk_nil)))))))) (mk_cons (mk_boolE (by first | rfl | (exact decide_eq_decide.2 (by omega)) | simp)) mk_nil)))))) rfl (by first | rfl | simp only [List.nil_append, List.append_nil, List.append_assoc])
      case measure => simp [intOf]; omega
    · have hj' : j = xs.length := by omega
      subst hj'
      rw [List.take_of_length_le (Nat.le_refl _), List.drop_of_length_le (Nat.le_refl _)] at hs
      rw [List.take_of_length_le (Nat.le_refl _)]
      have HQ := Lib.hid hs
      clear hs
      go_wp2_with fail
      go_ret
      exact ⟨rfl, by have := HQ.out; simpa using this, hpr, hoff⟩
set_option maxHeartbeats 4000000 in
set_option maxRecDepth 100000 in
theorem heldEntryS_run (w : World) (v : Value) (xs : List TEntry) (F : List Nat) (k : Int) (h : SlAt w v ((TEntry.markL xs k).map TEntry.d) F) (h0 : 0 ≤ k) (h1 : k + ((TEntry.cnL xs : Nat) : Int) ≤ 1099511627776) :
    Calls Tryz.prog 51 #[v, .int .i64 k] w fun e w' => e = .returned (.int .i64 (k + ((TEntry.cnL xs : Nat) : Int))) ∧ Below w.heap.size w w' := by
  obtain ⟨A, c, rfl, hc, hcm⟩ := h.form
  have hl : ((TEntry.markL xs k).map TEntry.d).length = xs.length := by rw [List.length_map, TEntry.markL_eq, mkL_length]
  rw [hl] at h hc ⊢
  have H1 := Lib.hid h1
  have HS := Lib.hid h
  clear h1 hl h
  go_enter Tryz.func51, Tryz.ntmps51
  go_wp2_with fail
  go_loopw [1, 5] (fun kk i wr => ∃ j : Nat, j ≤ xs.length ∧ i = .int .i64 j ∧ kk = .int .i64 (k + ((TEntry.cnL (xs.take j) : Nat) : Int)) ∧ Below w.heap.size w wr) (fun _ i _ => xs.length - (intOf i).toNat)
  case atStart => exact ⟨0, Nat.zero_le _, rfl, int_eq (by rw [List.take_zero, TEntry.cnL_eq]; simp [cnS]), Below.refl _ _⟩
  case round =>
    obtain ⟨j, hj, rfl, rfl, hb⟩ := hrel
    by_cases hlt : j < xs.length
    · have hs := HS.out.below hb
      obtain ⟨b, off, ys, Fi, rfl, hbl, _, hr, hlen, _, hcell⟩ := hs.at_ (W := 12) (i := j) (by
        rw [TEntry.markL_eq]; exact TEntry.wds _) (by rw [List.length_map, TEntry.markL_eq, mkL_length]; exact hlt)
      have e0 : ((TEntry.markL xs k).map TEntry.d)[j]'(by rw [List.length_map, TEntry.markL_eq, mkL_length]; exact hlt) = TEntry.d (TEntry.mark xs[j] (k + ((TEntry.cnL (xs.take j) : Nat) : Int))) := by
        rw [List.getElem_map]
        congr 1
        exact (List.getElem_of_eq (TEntry.markL_eq xs k) _).trans ((mkL_get xs j k hlt).trans (by rw [TEntry.cnL_eq]))
      rw [e0] at hr
      have e1 : TEntry.cnL (xs.take (j + 1)) = TEntry.cnL (xs.take j) + TEntry.cn xs[j] := by rw [TEntry.cnL_eq, TEntry.cnL_eq]; exact cnS_take_succ xs j hlt
      have e2 : TEntry.cnL (xs.take (j + 1)) ≤ TEntry.cnL xs := by rw [TEntry.cnL_eq, TEntry.cnL_eq]; exact cnS_take_le xs (j + 1)
      have e3 : TEntry.cn xs[j] = 8 + intCnL xs[j].inputs + TValue.cnL xs[j].value.list + strCnL xs[j].value.columns + TRow.cnL xs[j].value.rows := TEntry.cn_eq _
      obtain ⟨kk, hkk⟩ : ∃ kk : Int, kk = k + ((TEntry.cnL (xs.take j) : Nat) : Int) := ⟨_, rfl⟩
      rw [← hkk] at hr ⊢
      have k0 : 0 ≤ kk := by omega
      have k1 : kk + 8 + ((intCnL xs[j].inputs : Nat) : Int) + ((TValue.cnL xs[j].value.list : Nat) : Int) + ((strCnL xs[j].value.columns : Nat) : Int) + ((TRow.cnL xs[j].value.rows : Nat) : Int) ≤ 1099511627776 := by have := H1.out; rw [e3] at e1; omega
      have HE1 := Lib.hid e1
      have HE3 := Lib.hid e3
      have HK := Lib.hid hkk
      clear e0 e1 e2 e3 hkk hs hlen
      rw [TEntry.mark_eq] at hr
      obtain ⟨A3, c3, F3, A8, c8, F8, A9, c9, F9, A10, c10, F10, rfl, _, _, _, _, q3, _, _, _, _, q8, q9, q10⟩ := TEntry.open_ hr
      clear hr
      have Q3 : Hid (SlAt wr (.slice A3 (intMarkL xs[j].inputs (kk + 1 + 1 + 1)).length c3) ((intMarkL xs[j].inputs (kk + 1 + 1 + 1)).map D.int) F3) := Lib.hid q3
      clear q3
      have Q8 : Hid (SlAt wr (.slice A8 (TValue.markL xs[j].value.list (kk + 1 + 1 + 1 + ((intCnL xs[j].inputs : Nat) : Int) + 1 + 1 + 1 + 1)).length c8) ((TValue.markL xs[j].value.list (kk + 1 + 1 + 1 + ((intCnL xs[j].inputs : Nat) : Int) + 1 + 1 + 1 + 1)).map TValue.d) F8) := Lib.hid q8
      clear q8
      have Q9 : Hid (SlAt wr (.slice A9 (strMarkL xs[j].value.columns (kk + 1 + 1 + 1 + ((intCnL xs[j].inputs : Nat) : Int) + 1 + 1 + 1 + 1 + ((TValue.cnL xs[j].value.list : Nat) : Int))).length c9) ((strMarkL xs[j].value.columns (kk + 1 + 1 + 1 + ((intCnL xs[j].inputs : Nat) : Int) + 1 + 1 + 1 + 1 + ((TValue.cnL xs[j].value.list : Nat) : Int))).map D.str) F9) := Lib.hid q9
      clear q9
      have Q10 : Hid (SlAt wr (.slice A10 (TRow.markL xs[j].value.rows (kk + 1 + 1 + 1 + ((intCnL xs[j].inputs : Nat) : Int) + 1 + 1 + 1 + 1 + ((TValue.cnL xs[j].value.list : Nat) : Int) + ((strCnL xs[j].value.columns : Nat) : Int))).length c10) ((TRow.markL xs[j].value.rows (kk + 1 + 1 + 1 + ((intCnL xs[j].inputs : Nat) : Int) + 1 + 1 + 1 + 1 + ((TValue.cnL xs[j].value.list : Nat) : Int) + ((strCnL xs[j].value.columns : Nat) : Int))).map TRow.d) F10) := Lib.hid q10
      clear q10
      have c0 : wr.cell? ⟨b, off + j * 12, none⟩ = some (.int .i64 (kk)) := hcell 0 _ rfl
      have c1 : wr.cell? ⟨b, off + j * 12 + 1, none⟩ = some (.int .i64 (kk + 1)) := hcell 1 _ rfl
      have c2 : wr.cell? ⟨b, off + j * 12 + 2, none⟩ = some (.int .i64 (kk + 1 + 1)) := hcell 2 _ rfl
      have c3 : wr.cell? ⟨b, off + j * 12 + 3, none⟩ = some (.slice A3 (intMarkL xs[j].inputs (kk + 1 + 1 + 1)).length c3) := hcell 3 _ rfl
      have c4 : wr.cell? ⟨b, off + j * 12 + 4, none⟩ = some (.int .i64 (kk + 1 + 1 + 1 + ((intCnL xs[j].inputs : Nat) : Int))) := hcell 4 _ rfl
      have c5 : wr.cell? ⟨b, off + j * 12 + 5, none⟩ = some (.int .i64 (kk + 1 + 1 + 1 + ((intCnL xs[j].inputs : Nat) : Int) + 1)) := hcell 5 _ rfl
      have c6 : wr.cell? ⟨b, off + j * 12 + 6, none⟩ = some (.int .i64 (kk + 1 + 1 + 1 + ((intCnL xs[j].inputs : Nat) : Int) + 1 + 1)) := hcell 6 _ rfl
      have c7 : wr.cell? ⟨b, off + j * 12 + 7, none⟩ = some (.string (mText (kk + 1 + 1 + 1 + ((intCnL xs[j].inputs : Nat) : Int) + 1 + 1 + 1))) := hcell 7 _ rfl
      have c8 : wr.cell? ⟨b, off + j * 12 + 8, none⟩ = some (.slice A8 (TValue.markL xs[j].value.list (kk + 1 + 1 + 1 + ((intCnL xs[j].inputs : Nat) : Int) + 1 + 1 + 1 + 1)).length c8) := hcell 8 _ rfl
      have c9 : wr.cell? ⟨b, off + j * 12 + 9, none⟩ = some (.slice A9 (strMarkL xs[j].value.columns (kk + 1 + 1 + 1 + ((intCnL xs[j].inputs : Nat) : Int) + 1 + 1 + 1 + 1 + ((TValue.cnL xs[j].value.list : Nat) : Int))).length c9) := hcell 9 _ rfl
      have c10 : wr.cell? ⟨b, off + j * 12 + 10, none⟩ = some (.slice A10 (TRow.markL xs[j].value.rows (kk + 1 + 1 + 1 + ((intCnL xs[j].inputs : Nat) : Int) + 1 + 1 + 1 + 1 + ((TValue.cnL xs[j].value.list : Nat) : Int) + ((strCnL xs[j].value.columns : Nat) : Int))).length c10) := hcell 10 _ rfl
      have c11 : wr.cell? ⟨b, off + j * 12 + 11, none⟩ = some (.bool ((kk + 1 + 1 + 1 + ((intCnL xs[j].inputs : Nat) : Int) + 1 + 1 + 1 + 1 + ((TValue.cnL xs[j].value.list : Nat) : Int) + ((strCnL xs[j].value.columns : Nat) : Int) + ((TRow.cnL xs[j].value.rows : Nat) : Int)) % 3 == 0)) := hcell 11 _ rfl
      clear hcell
      have D0 := Below.refl wr.heap.size wr
      go_wp2_with fail
      refine (heldIntS_run _ _ xs[j].inputs F3 _ (Q3.out.below D0) (by omega) (by omega)).mono ?_
      rintro e w1 ⟨rfl, hw1⟩
      have D1 := bnext D0 hw1
      replace hbl : b < w1.heap.size := Nat.lt_of_lt_of_le hbl hw1.size
      have hd1 : decide (kk + 1 + 1 + 1 + ((intCnL xs[j].inputs : Nat) : Int) < 0) = false := by simp; omega
      replace c4 := cell_next hw1 c4
      replace c5 := cell_next hw1 c5
      replace c6 := cell_next hw1 c6
      replace c7 := cell_next hw1 c7
      replace c8 := cell_next hw1 c8
      replace c9 := cell_next hw1 c9
      replace c10 := cell_next hw1 c10
      replace c11 := cell_next hw1 c11
      go_wp2_with fail
      have hx_ := @ext_cell w1
      refine wp_region_mild (by kernel_rfl) (by kernel_rfl) ?_
      repeat (go_big_quiet_step ((go_at_call 53; exact mild_of (markText_any _ _ (by omega)))))
      refine wpQuiet_nil ?_
      rintro w' ⟨x_, rfl⟩
      obtain ⟨w2, hw2⟩ := x_
      clear hx_
      dsimp only
      have D2 := bnext D1 hw2
      replace hbl : b < w2.heap.size := Nat.lt_of_lt_of_le hbl hw2.size
      replace c8 := cell_next hw2 c8
      replace c9 := cell_next hw2 c9
      replace c10 := cell_next hw2 c10
      replace c11 := cell_next hw2 c11
      skip
      go_wp2_with fail
      refine (heldValueS_run _ _ xs[j].value.list F8 _ (Q8.out.below D2) (by omega) (by omega)).mono ?_
      rintro e w3 ⟨rfl, hw3⟩
      have D3 := bnext D2 hw3
      replace hbl : b < w3.heap.size := Nat.lt_of_lt_of_le hbl hw3.size
      have hd3 : decide (kk + 1 + 1 + 1 + ((intCnL xs[j].inputs : Nat) : Int) + 1 + 1 + 1 + 1 + ((TValue.cnL xs[j].value.list : Nat) : Int) < 0) = false := by simp; omega
      replace c9 := cell_next hw3 c9
      replace c10 := cell_next hw3 c10
      replace c11 := cell_next hw3 c11
      go_wp2_with fail
      refine (heldStringS_run _ _ xs[j].value.columns F9 _ (Q9.out.below D3) (by omega) (by omega)).mono ?_
      rintro e w4 ⟨rfl, hw4⟩
      have D4 := bnext D3 hw4
      replace hbl : b < w4.heap.size := Nat.lt_of_lt_of_le hbl hw4.size
      have hd4 : decide (kk + 1 + 1 + 1 + ((intCnL xs[j].inputs : Nat) : Int) + 1 + 1 + 1 + 1 + ((TValue.cnL xs[j].value.list : Nat) : Int) + ((strCnL xs[j].value.columns : Nat) : Int) < 0) = false := by simp; omega
      replace c10 := cell_next hw4 c10
      replace c11 := cell_next hw4 c11
      go_wp2_with fail
      refine (heldRowS_run _ _ xs[j].value.rows F10 _ (Q10.out.below D4) (by omega) (by omega)).mono ?_
      rintro e w5 ⟨rfl, hw5⟩
      have D5 := bnext D4 hw5
      replace hbl : b < w5.heap.size := Nat.lt_of_lt_of_le hbl hw5.size
      have hd5 : decide (kk + 1 + 1 + 1 + ((intCnL xs[j].inputs : Nat) : Int) + 1 + 1 + 1 + 1 + ((TValue.cnL xs[j].value.list : Nat) : Int) + ((strCnL xs[j].value.columns : Nat) : Int) + ((TRow.cnL xs[j].value.rows : Nat) : Int) < 0) = false := by simp; omega
      replace c11 := cell_next hw5 c11
      go_wp2_with fail
      go_roundw
      case rel => exact ⟨j + 1, by omega, by go_num, int_eq (by have h1 := HE1.out; have h2 := HE3.out; have h3 := HK.out; rw [h2] at h1; omega), bnext hb D5⟩
      case measure => simp [intOf]; omega
    · have hj' : j = xs.length := by omega
      subst hj'
      rw [List.take_of_length_le (Nat.le_refl _)]
      go_wp2_with fail
      go_ret
      exact ⟨rfl, hb⟩
end Go.Proofs.YtbknilpmpjjfpaaGreat
/- The laws' marks written into slices of Engine, and their test. Conditions: the marks are numbers between 0 and 1099511627776. Written by a program of mine. -/
set_option linter.unusedSimpArgs false
set_option linter.unusedVariables false
namespace Go.Proofs.YtbknilpmpjjfpaaGreat
open Go.RowKit
theorem TEngine.open_ {w : World} {x : TEngine} {cs : List Value} {F : List Nat} (h : Rep w x.d cs F) :
    ∃ (A0 : Option Addr) (c0 : Nat) (F0 : List Nat) (A3 : Option Addr) (c3 : Nat) (F3 : List Nat) (A4 : Option Addr) (c4 : Nat) (F4 : List Nat) (A5 : Option Addr) (c5 : Nat) (F5 : List Nat), cs = [.slice A0 x.notebook.cells.length c0, .int .i64 x.world.clock, .int .i64 x.world.seed, .slice A3 x.world.files.length c3, .slice A4 x.tapes.length c4, .slice A5 x.entries.length c5, .int .i64 x.next, .int .i64 x.limit, .int .i64 x.work] ∧ F = F0 ++ (F3 ++ (F4 ++ F5)) ∧ SlAt w (.slice A0 x.notebook.cells.length c0) (x.notebook.cells.map TCell.d) F0 ∧ I64 x.world.clock ∧ I64 x.world.seed ∧ SlAt w (.slice A3 x.world.files.length c3) (x.world.files.map TFile.d) F3 ∧ SlAt w (.slice A4 x.tapes.length c4) (x.tapes.map TTape.d) F4 ∧ SlAt w (.slice A5 x.entries.length c5) (x.entries.map TEntry.d) F5 ∧ I64 x.next ∧ I64 x.limit ∧ I64 x.work := by
  simp only [TEngine.d, TNotebook.d, TWorld.d, rep_agg, repL_cons, repL_nil, rep_int, rep_bool, rep_str, rep_sl, List.length_map] at h
  obtain ⟨_, _, _, _, rfl, rfl, ⟨_, _, F0, _, rfl, rfl, ⟨A0, c0, rfl, q0⟩, ⟨rfl, rfl⟩⟩, ⟨_, _, _, _, rfl, rfl, ⟨_, _, _, _, rfl, rfl, ⟨rfl, rfl, i1⟩, ⟨_, _, _, _, rfl, rfl, ⟨rfl, rfl, i2⟩, ⟨_, _, F3, _, rfl, rfl, ⟨A3, c3, rfl, q3⟩, ⟨rfl, rfl⟩⟩⟩⟩, ⟨_, _, F4, _, rfl, rfl, ⟨A4, c4, rfl, q4⟩, ⟨_, _, F5, _, rfl, rfl, ⟨A5, c5, rfl, q5⟩, ⟨_, _, _, _, rfl, rfl, ⟨rfl, rfl, i6⟩, ⟨_, _, _, _, rfl, rfl, ⟨rfl, rfl, i7⟩, ⟨_, _, _, _, rfl, rfl, ⟨rfl, rfl, i8⟩, ⟨rfl, rfl⟩⟩⟩⟩⟩⟩⟩⟩ := h
  exact ⟨A0, c0, F0, A3, c3, F3, A4, c4, F4, A5, c5, F5, rfl, by simp, q0, i1, i2, q3, q4, q5, i6, i7, i8⟩
set_option maxHeartbeats 4000000 in
set_option maxRecDepth 100000 in
theorem markEngine_run (w : World) (x : TEngine) (cs : List Value) (F : List Nat) (k : Int) (h : Rep w x.d cs F) (hn : F.Nodup) (hp : ∀ q ∈ F, Plain w q) (h0 : 0 ≤ k) (h1 : k + ((x.cnV : Nat) : Int) ≤ 1099511627776) :
    Calls Tryz.prog 12 #[.agg cs.toArray, .int .i64 k] w fun e w' => e = .returned (.int .i64 (k + ((x.cnV : Nat) : Int))) ∧ Rep w' (x.markV k).d cs F ∧ (∀ q ∈ F, Plain w' q) ∧ Off F w w' := by
  have hF := h.lt
  obtain ⟨A0, c0, F0, A3, c3, F3, A4, c4, F4, A5, c5, F5, rfl, hFe, q0, i1, i2, q3, q4, q5, i6, i7, i8⟩ := TEngine.open_ h
  have hFe := hFe.symm
  subst hFe
  have h1' : k + ((TNotebook.cnV x.notebook + TWorld.cnV x.world + TTape.cnL x.tapes + TEntry.cnL x.entries : Nat) : Int) ≤ 1099511627776 := h1
  have hn' : (F0 ++ (F3 ++ (F4 ++ F5))).Nodup := by simpa only [List.append_assoc, List.append_nil] using hn
  obtain ⟨da0, db0, dn0, dr0⟩ := nodup_two hn'
  obtain ⟨da1, db1, dn1, dr1⟩ := nodup_two dr0
  obtain ⟨da4, db4, dn4, dr4⟩ := nodup_two dr1
  have dn5 := dr4
  obtain ⟨w0, hw0⟩ : ∃ w0, w0 = w.alloc (.cells #[.slice A0 x.notebook.cells.length c0, .int .i64 x.world.clock, .int .i64 x.world.seed, .slice A3 x.world.files.length c3, .slice A4 x.tapes.length c4, .slice A5 x.entries.length c5, .int .i64 x.next, .int .i64 x.limit, .int .i64 x.work] 47) := ⟨_, rfl⟩
  have B0 : Below w.heap.size w w0 := hw0 ▸ bnew (Below.refl _ _) _
  have kc0 : w0.cell? ⟨w.heap.size, 0, none⟩ = some (.slice A0 x.notebook.cells.length c0) := hw0 ▸ cell_new w _ _ 0 _ rfl
  have kc1 : w0.cell? ⟨w.heap.size, 1, none⟩ = some (.int .i64 x.world.clock) := hw0 ▸ cell_new w _ _ 1 _ rfl
  have kc2 : w0.cell? ⟨w.heap.size, 2, none⟩ = some (.int .i64 x.world.seed) := hw0 ▸ cell_new w _ _ 2 _ rfl
  have kc3 : w0.cell? ⟨w.heap.size, 3, none⟩ = some (.slice A3 x.world.files.length c3) := hw0 ▸ cell_new w _ _ 3 _ rfl
  have kc4 : w0.cell? ⟨w.heap.size, 4, none⟩ = some (.slice A4 x.tapes.length c4) := hw0 ▸ cell_new w _ _ 4 _ rfl
  have kc5 : w0.cell? ⟨w.heap.size, 5, none⟩ = some (.slice A5 x.entries.length c5) := hw0 ▸ cell_new w _ _ 5 _ rfl
  have kc6 : w0.cell? ⟨w.heap.size, 6, none⟩ = some (.int .i64 x.next) := hw0 ▸ cell_new w _ _ 6 _ rfl
  have kc7 : w0.cell? ⟨w.heap.size, 7, none⟩ = some (.int .i64 x.limit) := hw0 ▸ cell_new w _ _ 7 _ rfl
  have kc8 : w0.cell? ⟨w.heap.size, 8, none⟩ = some (.int .i64 x.work) := hw0 ▸ cell_new w _ _ 8 _ rfl
  have HW := Lib.hid hw0
  clear hw0
  have ns0 : w.heap.size ∉ F0 := fun hm => by have := hF _ (show w.heap.size ∈ _ by (try simp only [List.mem_append] at hm ⊢); first | (simp [hm]; done) | (rcases hm with h' | h' <;> simp [h']; done) | (rcases hm with h' | h' | h' <;> simp [h']; done)); omega
  have Q0 : Hid (Rep w0 (x.notebook).d [.slice A0 x.notebook.cells.length c0] (F0)) := Lib.hid (Rep.below (TNotebook.mk_ (x := x.notebook) q0) B0)
  have P0 : Hid (∀ q ∈ F0, Plain w0 q) := Lib.hid (fun q hq => (hp q (by (try simp only [List.mem_append] at hq ⊢); first | (simp [hq]; done) | (rcases hq with h' | h' <;> simp [h']; done) | (rcases hq with h' | h' | h' <;> simp [h']; done))).next B0)
  have ns1 : w.heap.size ∉ F3 := fun hm => by have := hF _ (show w.heap.size ∈ _ by (try simp only [List.mem_append] at hm ⊢); first | (simp [hm]; done) | (rcases hm with h' | h' <;> simp [h']; done) | (rcases hm with h' | h' | h' <;> simp [h']; done)); omega
  have Q1 : Hid (Rep w0 (x.world).d [.int .i64 x.world.clock, .int .i64 x.world.seed, .slice A3 x.world.files.length c3] (F3)) := Lib.hid (Rep.below (TWorld.mk_ (x := x.world) i1 i2 q3) B0)
  have P1 : Hid (∀ q ∈ F3, Plain w0 q) := Lib.hid (fun q hq => (hp q (by (try simp only [List.mem_append] at hq ⊢); first | (simp [hq]; done) | (rcases hq with h' | h' <;> simp [h']; done) | (rcases hq with h' | h' | h' <;> simp [h']; done))).next B0)
  have ns4 : w.heap.size ∉ F4 := fun hm => by have := hF _ (show w.heap.size ∈ _ by (try simp only [List.mem_append] at hm ⊢); first | (simp [hm]; done) | (rcases hm with h' | h' <;> simp [h']; done) | (rcases hm with h' | h' | h' <;> simp [h']; done)); omega
  have Q4 := Lib.hid (q4.below B0)
  have P4 : Hid (∀ q ∈ F4, Plain w0 q) := Lib.hid (fun q hq => (hp q (by (try simp only [List.mem_append] at hq ⊢); first | (simp [hq]; done) | (rcases hq with h' | h' <;> simp [h']; done) | (rcases hq with h' | h' | h' <;> simp [h']; done))).next B0)
  have ns5 : w.heap.size ∉ F5 := fun hm => by have := hF _ (show w.heap.size ∈ _ by (try simp only [List.mem_append] at hm ⊢); first | (simp [hm]; done) | (rcases hm with h' | h' <;> simp [h']; done) | (rcases hm with h' | h' | h' <;> simp [h']; done)); omega
  have Q5 := Lib.hid (q5.below B0)
  have P5 : Hid (∀ q ∈ F5, Plain w0 q) := Lib.hid (fun q hq => (hp q (by (try simp only [List.mem_append] at hq ⊢); first | (simp [hq]; done) | (rcases hq with h' | h' <;> simp [h']; done) | (rcases hq with h' | h' | h' <;> simp [h']; done))).next B0)
  clear q0 q3 q4 q5
  have HOLD := Lib.hid (And.intro hp (And.intro hF h))
  clear hp hF h
  have O0 : Off (F0 ++ (F3 ++ (F4 ++ F5))) w w0 := Off.of_below B0
  go_enter Tryz.func12, Tryz.ntmps12
  go_wp2_with fail
  rw [← HW.out]
  refine (markNotebook_run _ x.notebook [.slice A0 x.notebook.cells.length c0] F0 _ Q0.out dn0 P0.out (by omega) (by omega)).mono ?_
  rintro e w1 ⟨rfl, q0, p0, hb1⟩
  have O1 : Off (F0 ++ (F3 ++ (F4 ++ F5))) w w1 := O0.trans (hb1.sub (fun q hq => by (try simp only [List.mem_append] at hq ⊢); first | (simp [hq]; done) | (rcases hq with h' | h' <;> simp [h']; done) | (rcases hq with h' | h' | h' <;> simp [h']; done)))
  replace kc0 := hb1.cell ns0 kc0
  replace kc1 := hb1.cell ns0 kc1
  replace kc2 := hb1.cell ns0 kc2
  replace kc3 := hb1.cell ns0 kc3
  replace kc4 := hb1.cell ns0 kc4
  replace kc5 := hb1.cell ns0 kc5
  replace kc6 := hb1.cell ns0 kc6
  replace kc7 := hb1.cell ns0 kc7
  replace kc8 := hb1.cell ns0 kc8
  replace Q0 := Lib.hid q0
  replace P0 := Lib.hid p0
  clear q0 p0
  have dq : ∀ x ∈ F3, x ∉ F0 := fun x hx hm => db0 x (by (try simp only [List.mem_append] at hx ⊢); first | (simp [hx]; done) | (rcases hx with h' | h' <;> simp [h']; done) | (rcases hx with h' | h' | h' <;> simp [h']; done)) hm
  replace Q1 := Lib.hid (Off.rep hb1 Q1.out dq)
  replace P1 : Hid (∀ q ∈ F3, Plain w1 q) := Lib.hid (fun x hx => Off.plain hb1 (P1.out x hx) (dq x hx))
  clear dq
  have dq : ∀ x ∈ F4, x ∉ F0 := fun x hx hm => db0 x (by (try simp only [List.mem_append] at hx ⊢); first | (simp [hx]; done) | (rcases hx with h' | h' <;> simp [h']; done) | (rcases hx with h' | h' | h' <;> simp [h']; done)) hm
  replace Q4 := Lib.hid (Off.rep hb1 Q4.out dq)
  replace P4 : Hid (∀ q ∈ F4, Plain w1 q) := Lib.hid (fun x hx => Off.plain hb1 (P4.out x hx) (dq x hx))
  clear dq
  have dq : ∀ x ∈ F5, x ∉ F0 := fun x hx hm => db0 x (by (try simp only [List.mem_append] at hx ⊢); first | (simp [hx]; done) | (rcases hx with h' | h' <;> simp [h']; done) | (rcases hx with h' | h' | h' <;> simp [h']; done)) hm
  replace Q5 := Lib.hid (Off.rep hb1 Q5.out dq)
  replace P5 : Hid (∀ q ∈ F5, Plain w1 q) := Lib.hid (fun x hx => Off.plain hb1 (P5.out x hx) (dq x hx))
  clear dq
  go_wp2_with fail
  refine (markWorld_run _ x.world [.int .i64 x.world.clock, .int .i64 x.world.seed, .slice A3 x.world.files.length c3] F3 _ Q1.out dn1 P1.out (by omega) (by omega)).mono ?_
  rintro e w2 ⟨rfl, q1, p1, hb2⟩
  have O2 : Off (F0 ++ (F3 ++ (F4 ++ F5))) w w2 := O1.trans (hb2.sub (fun q hq => by (try simp only [List.mem_append] at hq ⊢); first | (simp [hq]; done) | (rcases hq with h' | h' <;> simp [h']; done) | (rcases hq with h' | h' | h' <;> simp [h']; done)))
  replace kc0 := hb2.cell ns1 kc0
  replace kc1 := hb2.cell ns1 kc1
  replace kc2 := hb2.cell ns1 kc2
  replace kc3 := hb2.cell ns1 kc3
  replace kc4 := hb2.cell ns1 kc4
  replace kc5 := hb2.cell ns1 kc5
  replace kc6 := hb2.cell ns1 kc6
  replace kc7 := hb2.cell ns1 kc7
  replace kc8 := hb2.cell ns1 kc8
  have dq : ∀ x ∈ F0, x ∉ F3 := fun x hx hm => da0 x hx (by (try simp only [List.mem_append] at hm ⊢); first | (simp [hm]; done) | (rcases hm with h' | h' <;> simp [h']; done) | (rcases hm with h' | h' | h' <;> simp [h']; done))
  replace Q0 := Lib.hid (Off.rep hb2 Q0.out dq)
  replace P0 : Hid (∀ q ∈ F0, Plain w2 q) := Lib.hid (fun x hx => Off.plain hb2 (P0.out x hx) (dq x hx))
  clear dq
  replace Q1 := Lib.hid q1
  replace P1 := Lib.hid p1
  clear q1 p1
  have dq : ∀ x ∈ F4, x ∉ F3 := fun x hx hm => db1 x (by (try simp only [List.mem_append] at hx ⊢); first | (simp [hx]; done) | (rcases hx with h' | h' <;> simp [h']; done) | (rcases hx with h' | h' | h' <;> simp [h']; done)) hm
  replace Q4 := Lib.hid (Off.rep hb2 Q4.out dq)
  replace P4 : Hid (∀ q ∈ F4, Plain w2 q) := Lib.hid (fun x hx => Off.plain hb2 (P4.out x hx) (dq x hx))
  clear dq
  have dq : ∀ x ∈ F5, x ∉ F3 := fun x hx hm => db1 x (by (try simp only [List.mem_append] at hx ⊢); first | (simp [hx]; done) | (rcases hx with h' | h' <;> simp [h']; done) | (rcases hx with h' | h' | h' <;> simp [h']; done)) hm
  replace Q5 := Lib.hid (Off.rep hb2 Q5.out dq)
  replace P5 : Hid (∀ q ∈ F5, Plain w2 q) := Lib.hid (fun x hx => Off.plain hb2 (P5.out x hx) (dq x hx))
  clear dq
  go_wp2_with fail
  refine (markTapeS_run _ _ x.tapes F4 _ Q4.out dn4 P4.out (by omega) (by omega)).mono ?_
  rintro e w3 ⟨rfl, q4, p4, hb3⟩
  have O3 : Off (F0 ++ (F3 ++ (F4 ++ F5))) w w3 := O2.trans (hb3.sub (fun q hq => by (try simp only [List.mem_append] at hq ⊢); first | (simp [hq]; done) | (rcases hq with h' | h' <;> simp [h']; done) | (rcases hq with h' | h' | h' <;> simp [h']; done)))
  replace kc0 := hb3.cell ns4 kc0
  replace kc1 := hb3.cell ns4 kc1
  replace kc2 := hb3.cell ns4 kc2
  replace kc3 := hb3.cell ns4 kc3
  replace kc4 := hb3.cell ns4 kc4
  replace kc5 := hb3.cell ns4 kc5
  replace kc6 := hb3.cell ns4 kc6
  replace kc7 := hb3.cell ns4 kc7
  replace kc8 := hb3.cell ns4 kc8
  have dq : ∀ x ∈ F0, x ∉ F4 := fun x hx hm => da0 x hx (by (try simp only [List.mem_append] at hm ⊢); first | (simp [hm]; done) | (rcases hm with h' | h' <;> simp [h']; done) | (rcases hm with h' | h' | h' <;> simp [h']; done))
  replace Q0 := Lib.hid (Off.rep hb3 Q0.out dq)
  replace P0 : Hid (∀ q ∈ F0, Plain w3 q) := Lib.hid (fun x hx => Off.plain hb3 (P0.out x hx) (dq x hx))
  clear dq
  have dq : ∀ x ∈ F3, x ∉ F4 := fun x hx hm => da1 x hx (by (try simp only [List.mem_append] at hm ⊢); first | (simp [hm]; done) | (rcases hm with h' | h' <;> simp [h']; done) | (rcases hm with h' | h' | h' <;> simp [h']; done))
  replace Q1 := Lib.hid (Off.rep hb3 Q1.out dq)
  replace P1 : Hid (∀ q ∈ F3, Plain w3 q) := Lib.hid (fun x hx => Off.plain hb3 (P1.out x hx) (dq x hx))
  clear dq
  replace Q4 := Lib.hid q4
  replace P4 := Lib.hid p4
  clear q4 p4
  have dq : ∀ x ∈ F5, x ∉ F4 := fun x hx hm => db4 x (by (try simp only [List.mem_append] at hx ⊢); first | (simp [hx]; done) | (rcases hx with h' | h' <;> simp [h']; done) | (rcases hx with h' | h' | h' <;> simp [h']; done)) hm
  replace Q5 := Lib.hid (Off.rep hb3 Q5.out dq)
  replace P5 : Hid (∀ q ∈ F5, Plain w3 q) := Lib.hid (fun x hx => Off.plain hb3 (P5.out x hx) (dq x hx))
  clear dq
  go_wp2_with fail
  refine (markEntryS_run _ _ x.entries F5 _ Q5.out dn5 P5.out (by omega) (by omega)).mono ?_
  rintro e w4 ⟨rfl, q5, p5, hb4⟩
  have O4 : Off (F0 ++ (F3 ++ (F4 ++ F5))) w w4 := O3.trans (hb4.sub (fun q hq => by (try simp only [List.mem_append] at hq ⊢); first | (simp [hq]; done) | (rcases hq with h' | h' <;> simp [h']; done) | (rcases hq with h' | h' | h' <;> simp [h']; done)))
  replace kc0 := hb4.cell ns5 kc0
  replace kc1 := hb4.cell ns5 kc1
  replace kc2 := hb4.cell ns5 kc2
  replace kc3 := hb4.cell ns5 kc3
  replace kc4 := hb4.cell ns5 kc4
  replace kc5 := hb4.cell ns5 kc5
  replace kc6 := hb4.cell ns5 kc6
  replace kc7 := hb4.cell ns5 kc7
  replace kc8 := hb4.cell ns5 kc8
  have dq : ∀ x ∈ F0, x ∉ F5 := fun x hx hm => da0 x hx (by (try simp only [List.mem_append] at hm ⊢); first | (simp [hm]; done) | (rcases hm with h' | h' <;> simp [h']; done) | (rcases hm with h' | h' | h' <;> simp [h']; done))
  replace Q0 := Lib.hid (Off.rep hb4 Q0.out dq)
  replace P0 : Hid (∀ q ∈ F0, Plain w4 q) := Lib.hid (fun x hx => Off.plain hb4 (P0.out x hx) (dq x hx))
  clear dq
  have dq : ∀ x ∈ F3, x ∉ F5 := fun x hx hm => da1 x hx (by (try simp only [List.mem_append] at hm ⊢); first | (simp [hm]; done) | (rcases hm with h' | h' <;> simp [h']; done) | (rcases hm with h' | h' | h' <;> simp [h']; done))
  replace Q1 := Lib.hid (Off.rep hb4 Q1.out dq)
  replace P1 : Hid (∀ q ∈ F3, Plain w4 q) := Lib.hid (fun x hx => Off.plain hb4 (P1.out x hx) (dq x hx))
  clear dq
  have dq : ∀ x ∈ F4, x ∉ F5 := fun x hx hm => da4 x hx (by (try simp only [List.mem_append] at hm ⊢); first | (simp [hm]; done) | (rcases hm with h' | h' <;> simp [h']; done) | (rcases hm with h' | h' | h' <;> simp [h']; done))
  replace Q4 := Lib.hid (Off.rep hb4 Q4.out dq)
  replace P4 : Hid (∀ q ∈ F4, Plain w4 q) := Lib.hid (fun x hx => Off.plain hb4 (P4.out x hx) (dq x hx))
  clear dq
  replace Q5 := Lib.hid q5
  replace P5 := Lib.hid p5
  clear q5 p5
  go_wp2_with fail
  go_ret
  have e1 : ((x.cnV : Nat) : Int) = ((TNotebook.cnV x.notebook : Nat) : Int) + ((TWorld.cnV x.world : Nat) : Int) + ((TTape.cnL x.tapes : Nat) : Int) + ((TEntry.cnL x.entries : Nat) : Int) := by unfold TEngine.cnV; omega
  refine ⟨ret_int (by omega), ?_, ?_, O4⟩
  · refine rep_agg.2 (repL_of (mk_cons Q0.out (mk_cons Q1.out (mk_cons (mk_sl Q4.out) (mk_cons (mk_sl Q5.out) (mk_cons (mk_int i6) (mk_cons (mk_int i7) (mk_cons (mk_int i8) (mk_nil (w := _))))))))) ?_ ?_)
    · first | rfl | simp only [List.cons_append, List.nil_append, List.append_nil]
    · first | rfl | simp only [List.nil_append, List.append_nil, List.append_assoc]
  · intro q hq
    have hq' : q ∈ F0 ∨ q ∈ F3 ∨ q ∈ F4 ∨ q ∈ F5 := by simp only [List.mem_append] at hq ⊢; (first | exact hq | (simp only [or_assoc]; exact hq) | (simp only [or_assoc] at hq ⊢; exact hq))
    rcases hq' with h | h | h | h
    · exact P0.out q h
    · exact P1.out q h
    · exact P4.out q h
    · exact P5.out q h
set_option maxHeartbeats 4000000 in
set_option maxRecDepth 100000 in
theorem heldEngine_run (w : World) (x : TEngine) (cs : List Value) (F : List Nat) (k : Int) (h : Rep w (x.markV k).d cs F) (h0 : 0 ≤ k) (h1 : k + ((x.cnV : Nat) : Int) ≤ 1099511627776) :
    Calls Tryz.prog 13 #[.agg cs.toArray, .int .i64 k] w fun e w' => e = .returned (.int .i64 (k + ((x.cnV : Nat) : Int))) ∧ Below w.heap.size w w' := by
  obtain ⟨A0, c0, F0, A3, c3, F3, A4, c4, F4, A5, c5, F5, rfl, _, q0, i1, i2, q3, q4, q5, i6, i7, i8⟩ := TEngine.open_ h
  clear h
  have h1' : k + ((TNotebook.cnV x.notebook + TWorld.cnV x.world + TTape.cnL x.tapes + TEntry.cnL x.entries : Nat) : Int) ≤ 1099511627776 := h1
  obtain ⟨w0, hw0⟩ : ∃ w0, w0 = w.alloc (.cells #[.slice A0 (x.markV k).notebook.cells.length c0, .int .i64 (x.markV k).world.clock, .int .i64 (x.markV k).world.seed, .slice A3 (x.markV k).world.files.length c3, .slice A4 (x.markV k).tapes.length c4, .slice A5 (x.markV k).entries.length c5, .int .i64 (x.markV k).next, .int .i64 (x.markV k).limit, .int .i64 (x.markV k).work] 47) := ⟨_, rfl⟩
  have B0 : Below w.heap.size w w0 := hw0 ▸ bnew (Below.refl _ _) _
  have kc0 : w0.cell? ⟨w.heap.size, 0, none⟩ = some (.slice A0 (x.markV k).notebook.cells.length c0) := hw0 ▸ cell_new w _ _ 0 _ rfl
  have kc1 : w0.cell? ⟨w.heap.size, 1, none⟩ = some (.int .i64 (x.markV k).world.clock) := hw0 ▸ cell_new w _ _ 1 _ rfl
  have kc2 : w0.cell? ⟨w.heap.size, 2, none⟩ = some (.int .i64 (x.markV k).world.seed) := hw0 ▸ cell_new w _ _ 2 _ rfl
  have kc3 : w0.cell? ⟨w.heap.size, 3, none⟩ = some (.slice A3 (x.markV k).world.files.length c3) := hw0 ▸ cell_new w _ _ 3 _ rfl
  have kc4 : w0.cell? ⟨w.heap.size, 4, none⟩ = some (.slice A4 (x.markV k).tapes.length c4) := hw0 ▸ cell_new w _ _ 4 _ rfl
  have kc5 : w0.cell? ⟨w.heap.size, 5, none⟩ = some (.slice A5 (x.markV k).entries.length c5) := hw0 ▸ cell_new w _ _ 5 _ rfl
  have kc6 : w0.cell? ⟨w.heap.size, 6, none⟩ = some (.int .i64 (x.markV k).next) := hw0 ▸ cell_new w _ _ 6 _ rfl
  have kc7 : w0.cell? ⟨w.heap.size, 7, none⟩ = some (.int .i64 (x.markV k).limit) := hw0 ▸ cell_new w _ _ 7 _ rfl
  have kc8 : w0.cell? ⟨w.heap.size, 8, none⟩ = some (.int .i64 (x.markV k).work) := hw0 ▸ cell_new w _ _ 8 _ rfl
  have HW := Lib.hid hw0
  clear hw0
  have Q0 : Hid (Rep w0 (TNotebook.markV x.notebook (k)).d [.slice A0 (x.markV k).notebook.cells.length c0] (F0)) := Lib.hid (Rep.below (TNotebook.mk_ (x := TNotebook.markV x.notebook (k)) q0) B0)
  have Q1 : Hid (Rep w0 (TWorld.markV x.world (k + ((TNotebook.cnV x.notebook : Nat) : Int))).d [.int .i64 (x.markV k).world.clock, .int .i64 (x.markV k).world.seed, .slice A3 (x.markV k).world.files.length c3] (F3)) := Lib.hid (Rep.below (TWorld.mk_ (x := TWorld.markV x.world (k + ((TNotebook.cnV x.notebook : Nat) : Int))) i1 i2 q3) B0)
  have Q4 : Hid (SlAt w0 _ ((TTape.markL x.tapes (k + ((TNotebook.cnV x.notebook : Nat) : Int) + ((TWorld.cnV x.world : Nat) : Int))).map TTape.d) F4) := Lib.hid (q4.below B0)
  have Q5 : Hid (SlAt w0 _ ((TEntry.markL x.entries (k + ((TNotebook.cnV x.notebook : Nat) : Int) + ((TWorld.cnV x.world : Nat) : Int) + ((TTape.cnL x.tapes : Nat) : Int))).map TEntry.d) F5) := Lib.hid (q5.below B0)
  clear q0 q3 q4 q5
  have D0 := Below.refl w0.heap.size w0
  go_enter Tryz.func13, Tryz.ntmps13
  go_wp2_with fail
  rw [← HW.out]
  refine (heldNotebook_run _ x.notebook [.slice A0 (x.markV k).notebook.cells.length c0] F0 _ (Rep.below Q0.out D0) (by omega) (by omega)).mono ?_
  rintro e w1 ⟨rfl, hw1⟩
  have D1 := bnext D0 hw1
  have hd1 : decide (k + ((TNotebook.cnV x.notebook : Nat) : Int) < 0) = false := by simp; omega
  replace kc0 := cell_next hw1 kc0
  replace kc1 := cell_next hw1 kc1
  replace kc2 := cell_next hw1 kc2
  replace kc3 := cell_next hw1 kc3
  replace kc4 := cell_next hw1 kc4
  replace kc5 := cell_next hw1 kc5
  replace kc6 := cell_next hw1 kc6
  replace kc7 := cell_next hw1 kc7
  replace kc8 := cell_next hw1 kc8
  go_wp2_with fail
  refine (heldWorld_run _ x.world [.int .i64 (x.markV k).world.clock, .int .i64 (x.markV k).world.seed, .slice A3 (x.markV k).world.files.length c3] F3 _ (Rep.below Q1.out D1) (by omega) (by omega)).mono ?_
  rintro e w2 ⟨rfl, hw2⟩
  have D2 := bnext D1 hw2
  have hd2 : decide (k + ((TNotebook.cnV x.notebook : Nat) : Int) + ((TWorld.cnV x.world : Nat) : Int) < 0) = false := by simp; omega
  replace kc0 := cell_next hw2 kc0
  replace kc1 := cell_next hw2 kc1
  replace kc2 := cell_next hw2 kc2
  replace kc3 := cell_next hw2 kc3
  replace kc4 := cell_next hw2 kc4
  replace kc5 := cell_next hw2 kc5
  replace kc6 := cell_next hw2 kc6
  replace kc7 := cell_next hw2 kc7
  replace kc8 := cell_next hw2 kc8
  go_wp2_with fail
  refine (heldTapeS_run _ _ x.tapes F4 _ (Q4.out.below D2) (by omega) (by omega)).mono ?_
  rintro e w3 ⟨rfl, hw3⟩
  have D3 := bnext D2 hw3
  have hd3 : decide (k + ((TNotebook.cnV x.notebook : Nat) : Int) + ((TWorld.cnV x.world : Nat) : Int) + ((TTape.cnL x.tapes : Nat) : Int) < 0) = false := by simp; omega
  replace kc0 := cell_next hw3 kc0
  replace kc1 := cell_next hw3 kc1
  replace kc2 := cell_next hw3 kc2
  replace kc3 := cell_next hw3 kc3
  replace kc4 := cell_next hw3 kc4
  replace kc5 := cell_next hw3 kc5
  replace kc6 := cell_next hw3 kc6
  replace kc7 := cell_next hw3 kc7
  replace kc8 := cell_next hw3 kc8
  go_wp2_with fail
  refine (heldEntryS_run _ _ x.entries F5 _ (Q5.out.below D3) (by omega) (by omega)).mono ?_
  rintro e w4 ⟨rfl, hw4⟩
  have D4 := bnext D3 hw4
  have hd4 : decide (k + ((TNotebook.cnV x.notebook : Nat) : Int) + ((TWorld.cnV x.world : Nat) : Int) + ((TTape.cnL x.tapes : Nat) : Int) + ((TEntry.cnL x.entries : Nat) : Int) < 0) = false := by simp; omega
  replace kc0 := cell_next hw4 kc0
  replace kc1 := cell_next hw4 kc1
  replace kc2 := cell_next hw4 kc2
  replace kc3 := cell_next hw4 kc3
  replace kc4 := cell_next hw4 kc4
  replace kc5 := cell_next hw4 kc5
  replace kc6 := cell_next hw4 kc6
  replace kc7 := cell_next hw4 kc7
  replace kc8 := cell_next hw4 kc8
  go_wp2_with fail
  go_ret
  have e1 : ((x.cnV : Nat) : Int) = ((TNotebook.cnV x.notebook : Nat) : Int) + ((TWorld.cnV x.world : Nat) : Int) + ((TTape.cnL x.tapes : Nat) : Int) + ((TEntry.cnL x.entries : Nat) : Int) := by unfold TEngine.cnV; omega
  exact ⟨ret_int (by omega), bnext B0 D4⟩
end Go.Proofs.YtbknilpmpjjfpaaGreat
/- The laws' marks written into slices of Edit, and their test. Conditions: the marks are numbers between 0 and 1099511627776. Written by a program of mine. -/
set_option linter.unusedSimpArgs false
set_option linter.unusedVariables false
namespace Go.Proofs.YtbknilpmpjjfpaaGreat
open Go.RowKit
theorem TEdit.wd_ (x : TEdit) : wd x.d = 8 := by simp [TEdit.d, TCell.d, wd, wdL]
theorem TEdit.wds (xs : List TEdit) : ∀ d ∈ xs.map TEdit.d, wd d = 8 := by
  intro d hd
  obtain ⟨x, _, rfl⟩ := List.mem_map.1 hd
  exact x.wd_
theorem TEdit.open_ {w : World} {x : TEdit} {cs : List Value} {F : List Nat} (h : Rep w x.d cs F) :
    cs = [.int .i64 x.kind, .int .i64 x.at_, .int .i64 x.cell.id, .int .i64 x.cell.version, .int .i64 x.cell.kind, .string x.cell.name, .string x.cell.code, .int .i64 x.cell.n] ∧ F = [] ∧ I64 x.kind ∧ I64 x.at_ ∧ I64 x.cell.id ∧ I64 x.cell.version ∧ I64 x.cell.kind ∧ Fits x.cell.name ∧ Fits x.cell.code ∧ I64 x.cell.n := by
  simp only [TEdit.d, TCell.d, rep_agg, repL_cons, repL_nil, rep_int, rep_bool, rep_str, rep_sl, List.length_map] at h
  obtain ⟨_, _, _, _, rfl, rfl, ⟨rfl, rfl, i0⟩, ⟨_, _, _, _, rfl, rfl, ⟨rfl, rfl, i1⟩, ⟨_, _, _, _, rfl, rfl, ⟨_, _, _, _, rfl, rfl, ⟨rfl, rfl, i2⟩, ⟨_, _, _, _, rfl, rfl, ⟨rfl, rfl, i3⟩, ⟨_, _, _, _, rfl, rfl, ⟨rfl, rfl, i4⟩, ⟨_, _, _, _, rfl, rfl, ⟨rfl, rfl, i5⟩, ⟨_, _, _, _, rfl, rfl, ⟨rfl, rfl, i6⟩, ⟨_, _, _, _, rfl, rfl, ⟨rfl, rfl, i7⟩, ⟨rfl, rfl⟩⟩⟩⟩⟩⟩⟩, ⟨rfl, rfl⟩⟩⟩⟩ := h
  exact ⟨rfl, by simp, i0, i1, i2, i3, i4, i5, i6, i7⟩
set_option maxHeartbeats 4000000 in
set_option maxRecDepth 100000 in
theorem markEditS_run (w : World) (v : Value) (xs : List TEdit) (F : List Nat) (k : Int) (h : SlAt w v (xs.map TEdit.d) F) (hn : F.Nodup) (hp : ∀ q ∈ F, Plain w q) (h0 : 0 ≤ k) (h1 : k + ((TEdit.cnL xs : Nat) : Int) ≤ 1099511627776) :
    Calls Tryz.prog 20 #[v, .int .i64 k] w fun e w' => e = .returned (.int .i64 (k + ((TEdit.cnL xs : Nat) : Int))) ∧ SlAt w' v ((TEdit.markL xs k).map TEdit.d) F ∧ (∀ q ∈ F, Plain w' q) ∧ Off F w w' := by
  obtain ⟨A, c, rfl, hc, hcm⟩ := h.form
  rw [List.length_map] at h hc ⊢
  have hP := Lib.hid hp
  have H1 := Lib.hid h1
  clear hp h1
  go_enter Tryz.func20, Tryz.ntmps20
  go_wp2_with fail
  go_loopw [1, 5] (fun kk i wr => ∃ j : Nat, j ≤ xs.length ∧ i = .int .i64 j ∧ kk = .int .i64 (k + ((TEdit.cnL (xs.take j) : Nat) : Int)) ∧ SlAt wr (.slice A xs.length c) ((TEdit.markL (xs.take j) k).map TEdit.d ++ (xs.drop j).map TEdit.d) F ∧ (∀ q ∈ F, Plain wr q) ∧ Off F w wr) (fun _ i _ => xs.length - (intOf i).toNat)
  case atStart => exact ⟨0, Nat.zero_le _, rfl, int_eq (by rw [List.take_zero, TEdit.cnL_eq]; simp [cnS]), by rw [List.take_zero, List.drop_zero, TEdit.markL_eq]; exact h, hP.out, Off.refl _ _⟩
  case round =>
    obtain ⟨j, hj, rfl, rfl, hs, hpr, hoff⟩ := hrel
    by_cases hlt : j < xs.length
    · have ed : xs.drop j = xs[j] :: xs.drop (j + 1) := List.drop_eq_getElem_cons hlt
      rw [ed, List.map_cons] at hs
      obtain ⟨b, off, ys, Fi, rfl, hbF, hbFi, hni, hsub, hr, hlen, hcell, hback⟩ := hs.take_out (W := 8) (by
        intro y hy
        rcases List.mem_append.1 hy with hy | hy
        · exact TEdit.wds _ y hy
        · rw [← List.map_cons] at hy; exact TEdit.wds _ y hy) (by omega) hn
      have el : ((TEdit.markL (xs.take j) k).map TEdit.d).length = j := by rw [List.length_map, TEdit.markL_eq, mkL_length, List.length_take]; omega
      rw [el] at hcell hback
      have e1 : TEdit.cnL (xs.take (j + 1)) = TEdit.cnL (xs.take j) + TEdit.cn xs[j] := by rw [TEdit.cnL_eq, TEdit.cnL_eq]; exact cnS_take_succ xs j hlt
      have e2 : TEdit.cnL (xs.take (j + 1)) ≤ TEdit.cnL xs := by rw [TEdit.cnL_eq, TEdit.cnL_eq]; exact cnS_take_le xs (j + 1)
      have e3 : TEdit.cn xs[j] = 8 := TEdit.cn_eq _
      obtain ⟨kk, hkk⟩ : ∃ kk : Int, kk = k + ((TEdit.cnL (xs.take j) : Nat) : Int) := ⟨_, rfl⟩
      rw [← hkk]
      have k0 : 0 ≤ kk := by omega
      have k1 : kk + 8 ≤ 1099511627776 := by have := H1.out; rw [e3] at e1; omega
      have HE1 := Lib.hid e1
      have HE3 := Lib.hid e3
      have HK := Lib.hid hkk
      have HB := Lib.hid hback
      have HS := Lib.hid hsub
      clear e1 e2 e3 hkk hback hsub ed el hs h hlen
      obtain ⟨rfl, hF, _, _, _, _, _, _, _, _⟩ := TEdit.open_ hr
      clear hr
      subst hF
      have T0 : Trk wr wr b (off + j * 8) (off + j * 8 + 8) _ := Trk.start (hpr b hbF) (fun q hq => hpr q (HS.out q hq))
      have C0 := Lib.hid hcell
      clear hcell hni
      have c0_0 : wr.cell? ⟨b, off + j * 8, none⟩ = _ := C0.out 0 _ rfl
      have c0_1 := C0.out 1 _ rfl
      have c0_2 := C0.out 2 _ rfl
      have c0_3 := C0.out 3 _ rfl
      have c0_4 := C0.out 4 _ rfl
      have c0_5 := C0.out 5 _ rfl
      have c0_6 := C0.out 6 _ rfl
      have c0_7 := C0.out 7 _ rfl
      have z0 := T0.here.free
      go_wp2_with fail
      refine (markText_any _ _ (by omega)).mono ?_
      rintro e w1 ⟨rfl, hb1⟩
      have T1 := Trk.next (Trk.set (Trk.set (Trk.set (Trk.set (Trk.set T0 0 (by omega) _) 1 (by omega) _) 2 (by omega) _) 3 (by omega) _) 4 (by omega) _) hb1
      have C1 := Lib.hid (CellsAt.next (CellsAt.setAt (CellsAt.setAt (CellsAt.setAt (CellsAt.setAt (CellsAt.setAt C0.out 0 (by simp) _) 1 (by simp) _) 2 (by simp) _) 3 (by simp) _) 4 (by simp) _) hb1)
      clear hb1 c0_0 c0_1 c0_2 c0_3 c0_4 c0_5 c0_6 c0_7 z0
      have c1_0 : w1.cell? ⟨b, off + j * 8, none⟩ = _ := C1.out 0 _ rfl
      have c1_1 := C1.out 1 _ rfl
      have c1_2 := C1.out 2 _ rfl
      have c1_3 := C1.out 3 _ rfl
      have c1_4 := C1.out 4 _ rfl
      have c1_5 := C1.out 5 _ rfl
      have c1_6 := C1.out 6 _ rfl
      have c1_7 := C1.out 7 _ rfl
      have z1 := T1.here.free
      go_wp2_with fail
      refine (markText_any _ _ (by omega)).mono ?_
      rintro e w2 ⟨rfl, hb2⟩
      have T2 := Trk.next (Trk.set T1 5 (by omega) _) hb2
      have C2 := Lib.hid (CellsAt.next (CellsAt.setAt C1.out 5 (by simp) _) hb2)
      clear hb2 c1_0 c1_1 c1_2 c1_3 c1_4 c1_5 c1_6 c1_7 z1
      have c2_0 : w2.cell? ⟨b, off + j * 8, none⟩ = _ := C2.out 0 _ rfl
      have c2_1 := C2.out 1 _ rfl
      have c2_2 := C2.out 2 _ rfl
      have c2_3 := C2.out 3 _ rfl
      have c2_4 := C2.out 4 _ rfl
      have c2_5 := C2.out 5 _ rfl
      have c2_6 := C2.out 6 _ rfl
      have c2_7 := C2.out 7 _ rfl
      have z2 := T2.here.free
      go_wp2_with fail
      go_roundw
      case rel =>
        refine ⟨j + 1, by omega, by go_num, int_eq (by have h1 := HE1.out; have h2 := HE3.out; have h3 := HK.out; rw [h2] at h1; omega), ?_, Trk.plains (Trk.set (Trk.set T2 6 (by omega) _) 7 (by omega) _) hpr, hoff.trans (Off.sub (Trk.off (Trk.set (Trk.set T2 6 (by omega) _) 7 (by omega) _)) (fun q hq => by rcases List.mem_cons.1 hq with rfl | hq; exact hbF; exact HS.out q hq))⟩
        have hm : TEdit.markL (xs.take (j + 1)) k = TEdit.markL (xs.take j) k ++ [TEdit.mark xs[j] kk] := by
          rw [TEdit.markL_eq, TEdit.markL_eq, mkL_take_succ xs j k hlt, HK.out, TEdit.cnL_eq]
        rw [hm, List.map_append, List.append_assoc]
        refine HB.out _ (TEdit.d (TEdit.mark xs[j] kk)) _ (by simp) ?_ (CellsAt.setAt (CellsAt.setAt C2.out 6 (by simp) _) 7 (by simp) _) (Trk.set (Trk.set T2 6 (by omega) _) 7 (by omega) _)
        simp only [TEdit.mark_eq, TEdit.d, TCell.d]
        rw [rep_agg]
        exact repL_of (mk_cons (mk_intE (i64_mid (by omega) (by omega)) (by first | rfl | omega)) (mk_cons (mk_intE (i64_mid (by omega) (by omega)) (by first | rfl | omega)) (mk_cons (rep_agg.2 (mk_cons (mk_intE (i64_mid (by omega) (by omega)) (by first | rfl | omega)) (mk_cons (mk_intE (i64_mid (by omega) (by omega)) (by first | rfl | omega)) (mk_cons (mk_intE (i64_mid (by omega) (by omega)) (by first | rfl | omega)) (mk_cons (mk_strE (by omega) (by first | rfl | omega)) (mk_cons (mk_strE (by omega) (by first | rfl | omega)) (mk_cons (mk_intE (i64_mid (by omega) (by omega)) (by first | rfl | omega)) mk_nil))))))) mk_nil))) rfl (by first | rfl | simp only [List.nil_append, List.append_nil, List.append_assoc])
      case measure => simp [intOf]; omega
    · have hj' : j = xs.length := by omega
      subst hj'
      rw [List.take_of_length_le (Nat.le_refl _), List.drop_of_length_le (Nat.le_refl _)] at hs
      rw [List.take_of_length_le (Nat.le_refl _)]
      have HQ := Lib.hid hs
      clear hs
      go_wp2_with fail
      go_ret
      exact ⟨rfl, by have := HQ.out; simpa using this, hpr, hoff⟩
end Go.Proofs.YtbknilpmpjjfpaaGreat
