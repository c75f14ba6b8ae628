/- The laws' marks written into slices of Int, and their test. Conditions: the marks are numbers between 0 and 1099511627776. Written by a program of mine. -/
import Derived.Test.YtopjlbifglacpaaMarkBase
namespace Go.Proofs.Ytopjlbifglacpaa
open Go.RowKit

def intMark (_ : Int) (k : Int) : Int := k
def intCn (_ : Int) : Nat := 1
def intMarkL (xs : List Int) (k : Int) : List Int := mkL intMark intCn xs k
def intCnL (xs : List Int) : Nat := cnS intCn xs
theorem intMarkL_eq (xs : List Int) (k : Int) : intMarkL xs k = mkL intMark intCn xs k := rfl
theorem intCnL_eq (xs : List Int) : intCnL xs = cnS intCn xs := rfl
theorem intCnL_le (xs : List Int) : intCnL xs ≤ 1 * (xs.length + bkL (xs.map D.int)) := cnS_le (fun x => by simp only [intCn]; omega) xs
set_option maxHeartbeats 4000000 in
set_option maxRecDepth 100000 in
theorem markIntS_run (w : World) (v : Value) (xs : List Int) (F : List Nat) (k : Int) (h : SlAt w v (xs.map D.int) F) (hn : F.Nodup) (hp : ∀ q ∈ F, Plain w q) (h0 : 0 ≤ k) (h1 : k + ((intCnL xs : Nat) : Int) ≤ 1099511627776) :
    Calls Try.prog 31 #[v, .int .i64 k] w fun e w' => e = .returned (.int .i64 (k + ((intCnL xs : Nat) : Int))) ∧ SlAt w' v ((intMarkL xs k).map D.int) F ∧ (∀ q ∈ F, Plain w' q) ∧ Off F w w' := by
  obtain ⟨A, c, rfl, hc, hcm⟩ := h.form
  rw [List.length_map] at h hc ⊢
  have hP := Lib.hid hp
  have H1 := Lib.hid h1
  clear hp h1
  go_enter Try.func31, Try.ntmps31
  go_wp2_with fail
  go_loopw [1, 5] (fun kk i wr => ∃ j : Nat, j ≤ xs.length ∧ i = .int .i64 j ∧ kk = .int .i64 (k + ((intCnL (xs.take j) : Nat) : Int)) ∧ SlAt wr (.slice A xs.length c) ((intMarkL (xs.take j) k).map D.int ++ (xs.drop j).map D.int) F ∧ (∀ q ∈ F, Plain wr q) ∧ Off F w wr) (fun _ i _ => xs.length - (intOf i).toNat)
  case atStart => exact ⟨0, Nat.zero_le _, rfl, int_eq (by rw [List.take_zero, intCnL_eq]; simp [cnS]), by rw [List.take_zero, List.drop_zero, intMarkL_eq]; exact h, hP.out, Off.refl _ _⟩
  case round =>
    obtain ⟨j, hj, rfl, rfl, hs, hpr, hoff⟩ := hrel
    by_cases hlt : j < xs.length
    · have ed : xs.drop j = xs[j] :: xs.drop (j + 1) := List.drop_eq_getElem_cons hlt
      rw [ed, List.map_cons] at hs
      obtain ⟨b, off, ys, Fi, rfl, hbF, hbFi, hni, hsub, hr, hlen, hcell, hback⟩ := hs.take_out (W := 1) (by
        intro y hy
        rcases List.mem_append.1 hy with hy | hy
        · exact intWds _ y hy
        · rw [← List.map_cons] at hy; exact intWds _ y hy) (by omega) hn
      have el : ((intMarkL (xs.take j) k).map D.int).length = j := by rw [List.length_map, intMarkL_eq, mkL_length, List.length_take]; omega
      rw [el, Nat.mul_one] at hcell hback
      have e1 : intCnL (xs.take (j + 1)) = intCnL (xs.take j) + intCn xs[j] := by rw [intCnL_eq, intCnL_eq]; exact cnS_take_succ xs j hlt
      have e2 : intCnL (xs.take (j + 1)) ≤ intCnL xs := by rw [intCnL_eq, intCnL_eq]; exact cnS_take_le xs (j + 1)
      have e3 : intCn xs[j] = 1 := rfl
      obtain ⟨kk, hkk⟩ : ∃ kk : Int, kk = k + ((intCnL (xs.take j) : Nat) : Int) := ⟨_, rfl⟩
      rw [← hkk]
      have k0 : 0 ≤ kk := by omega
      have k1 : kk + 1 ≤ 1099511627776 := by have := H1.out; rw [e3] at e1; omega
      have HE1 := Lib.hid e1
      have HE3 := Lib.hid e3
      have HK := Lib.hid hkk
      have HB := Lib.hid hback
      have HS := Lib.hid hsub
      clear e1 e2 e3 hkk hback hsub ed el hs h hlen
      obtain ⟨rfl, hF, _⟩ := rep_int.1 hr
      clear hr
      subst hF
      have T0 : Trk wr wr b (off + j) (off + j + 1) _ := Trk.start (hpr b hbF) (fun q hq => hpr q (HS.out q hq))
      have C0 := Lib.hid hcell
      clear hcell hni
      have c0_0 : wr.cell? ⟨b, off + j, none⟩ = _ := C0.out 0 _ rfl
      have z0 := T0.here.free
      go_wp2_with fail
      go_roundw
      case rel =>
        refine ⟨j + 1, by omega, by go_num, int_eq (by have h1 := HE1.out; have h2 := HE3.out; have h3 := HK.out; rw [h2] at h1; omega), ?_, Trk.plains (Trk.set T0 0 (by omega) _) hpr, hoff.trans (Off.sub (Trk.off (Trk.set T0 0 (by omega) _)) (fun q hq => by rcases List.mem_cons.1 hq with rfl | hq; exact hbF; exact HS.out q hq))⟩
        have hm : intMarkL (xs.take (j + 1)) k = intMarkL (xs.take j) k ++ [intMark xs[j] kk] := by
          rw [intMarkL_eq, intMarkL_eq, mkL_take_succ xs j k hlt, HK.out, intCnL_eq]
        rw [hm, List.map_append, List.append_assoc]
        exact HB.out _ (D.int (intMark xs[j] kk)) _ (by simp) (mk_intE (i64_mid (by omega) (by omega)) (by first | rfl | omega)) (CellsAt.setAt C0.out 0 (by simp) _) (Trk.set T0 0 (by omega) _)
      case measure => simp [intOf]; omega
    · have hj' : j = xs.length := by omega
      subst hj'
      rw [List.take_of_length_le (Nat.le_refl _), List.drop_of_length_le (Nat.le_refl _)] at hs
      rw [List.take_of_length_le (Nat.le_refl _)]
      have HQ := Lib.hid hs
      clear hs
      go_wp2_with fail
      go_ret
      exact ⟨rfl, by have := HQ.out; simpa using this, hpr, hoff⟩

set_option maxHeartbeats 4000000 in
set_option maxRecDepth 100000 in
theorem heldIntS_run (w : World) (v : Value) (xs : List Int) (F : List Nat) (k : Int) (h : SlAt w v ((intMarkL xs k).map D.int) F) (h0 : 0 ≤ k) (h1 : k + ((intCnL xs : Nat) : Int) ≤ 1099511627776) :
    Calls Try.prog 32 #[v, .int .i64 k] w fun e w' => e = .returned (.int .i64 (k + ((intCnL xs : Nat) : Int))) ∧ Below w.heap.size w w' := by
  obtain ⟨A, c, rfl, hc, hcm⟩ := h.form
  have hl : ((intMarkL xs k).map D.int).length = xs.length := by rw [List.length_map, intMarkL_eq, mkL_length]
  rw [hl] at h hc ⊢
  have H1 := Lib.hid h1
  have HS := Lib.hid h
  clear h1 hl h
  go_enter Try.func32, Try.ntmps32
  go_wp2_with fail
  go_loopw [1, 5] (fun kk i wr => ∃ j : Nat, j ≤ xs.length ∧ i = .int .i64 j ∧ kk = .int .i64 (k + ((intCnL (xs.take j) : Nat) : Int)) ∧ Below w.heap.size w wr) (fun _ i _ => xs.length - (intOf i).toNat)
  case atStart => exact ⟨0, Nat.zero_le _, rfl, int_eq (by rw [List.take_zero, intCnL_eq]; simp [cnS]), Below.refl _ _⟩
  case round =>
    obtain ⟨j, hj, rfl, rfl, hb⟩ := hrel
    by_cases hlt : j < xs.length
    · have hs := HS.out.below hb
      obtain ⟨b, off, ys, Fi, rfl, hbl, _, hr, hlen, _, hcell⟩ := hs.at_ (W := 1) (i := j) (by
        rw [intMarkL_eq]; exact intWds _) (by rw [List.length_map, intMarkL_eq, mkL_length]; exact hlt)
      have e0 : ((intMarkL xs k).map D.int)[j]'(by rw [List.length_map, intMarkL_eq, mkL_length]; exact hlt) = D.int (intMark xs[j] (k + ((intCnL (xs.take j) : Nat) : Int))) := by
        rw [List.getElem_map]
        congr 1
        exact (List.getElem_of_eq (intMarkL_eq xs k) _).trans ((mkL_get xs j k hlt).trans (by rw [intCnL_eq]))
      rw [e0] at hr
      have e1 : intCnL (xs.take (j + 1)) = intCnL (xs.take j) + intCn xs[j] := by rw [intCnL_eq, intCnL_eq]; exact cnS_take_succ xs j hlt
      have e2 : intCnL (xs.take (j + 1)) ≤ intCnL xs := by rw [intCnL_eq, intCnL_eq]; exact cnS_take_le xs (j + 1)
      have e3 : intCn xs[j] = 1 := rfl
      obtain ⟨kk, hkk⟩ : ∃ kk : Int, kk = k + ((intCnL (xs.take j) : Nat) : Int) := ⟨_, rfl⟩
      rw [← hkk] at hr ⊢
      have k0 : 0 ≤ kk := by omega
      have k1 : kk + 1 ≤ 1099511627776 := by have := H1.out; rw [e3] at e1; omega
      have HE1 := Lib.hid e1
      have HE3 := Lib.hid e3
      have HK := Lib.hid hkk
      clear e0 e1 e2 e3 hkk hs hlen
      obtain ⟨rfl, _, _⟩ := rep_int.1 hr
      clear hr
      have c0 : wr.cell? ⟨b, off + j, none⟩ = some (.int .i64 (kk)) := (by have h0 := hcell 0 (.int .i64 (kk)) rfl; rwa [Nat.mul_one] at h0)
      clear hcell
      have D0 := Below.refl wr.heap.size wr
      go_wp2_with fail
      go_roundw
      case rel => exact ⟨j + 1, by omega, by go_num, int_eq (by have h1 := HE1.out; have h2 := HE3.out; have h3 := HK.out; rw [h2] at h1; omega), bnext hb D0⟩
      case measure => simp [intOf]; omega
    · have hj' : j = xs.length := by omega
      subst hj'
      rw [List.take_of_length_le (Nat.le_refl _)]
      go_wp2_with fail
      go_ret
      exact ⟨rfl, hb⟩

end Go.Proofs.Ytopjlbifglacpaa
