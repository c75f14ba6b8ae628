/- Comparison of lines that are the same. -/
import Derived.Test.YtopjlbifglacpaaLineC
namespace Go.Proofs.Ytopjlbifglacpaa
open Go.RowKit

set_option maxHeartbeats 400000 in
set_option maxRecDepth 100000 in
theorem eqLineS_same (w : World) (u v : Value) (ls : List Line) (F G : List Nat) (h : SlAt w u (ls.map Line.d) F) (k : SlAt w v (ls.map Line.d) G) :
    Calls Try.prog 16 #[u, v] w fun e w' => e = .returned (.bool true) ∧ Below w.heap.size w w' := by
  obtain ⟨A, c, rfl, hc, hcm⟩ := h.form
  obtain ⟨A', c', rfl, hc', _⟩ := k.form
  rw [List.length_map] at h k hc hc' ⊢
  have hne : ((ls.length : Int) != ls.length) = false := by simp
  go_enter Try.func16, Try.ntmps16
  go_wp2_with fail
  go_loopw [5] (fun i wr => ∃ k : Nat, k ≤ ls.length ∧ i = .int .i64 k ∧ Below w.heap.size w wr) (fun i _ => ls.length - (intOf i).toNat)
  case atStart => exact ⟨0, Nat.zero_le _, rfl, Below.refl _ _⟩
  case round =>
    obtain ⟨i, hi, rfl, hb⟩ := hrel
    by_cases hlt : i < ls.length
    · obtain ⟨b, off, ys, Fi, rfl, hbl, _, hr, hlen, _, hcell⟩ := (show SlAt wr _ _ _ from h.below hb).at_ (i := i) (lineWd ls) (by simpa using hlt)
      obtain ⟨b', off', ys', Fi', rfl, hbl', _, hr', hlen', _, hcell'⟩ := (show SlAt wr _ _ _ from k.below hb).at_ (i := i) (lineWd ls) (by simpa using hlt)
      simp only [List.getElem_map] at hr hr'
      obtain ⟨rfl, _, hI, hS⟩ := Line.rep hr
      obtain ⟨rfl, _, _, _⟩ := Line.rep hr'
      have c0 : wr.cell? ⟨b, off + i * 3, none⟩ = _ := hcell 0 _ rfl
      have c1 := hcell 1 _ rfl
      have c2 := hcell 2 _ rfl
      have d0 : wr.cell? ⟨b', off' + i * 3, none⟩ = _ := hcell' 0 _ rfl
      have d1 := hcell' 1 _ rfl
      have d2 := hcell' 2 _ rfl
      have hi' : (i : Int) < (ls.length : Int) := by omega
      clear hcell hcell' hr hr'
      go_wp2_with fail
      go_still_tail 8, (by kernel_rfl)
      change wpList _ _ _ _ _ wr.drew
      have hdw : Below wr.heap.size wr wr.drew := (Below.refl _ _).drew
      revert hdw
      generalize wr.drew = w2
      intro hdw
      go_wp2_with (go_at_call 62; refine (eqLine_same _ _ _ _).mono ?_; rintro e w3 ⟨rfl, hw3⟩)
      go_roundw
      case rel => exact ⟨i + 1, by omega, by go_num, (hb.trans (hdw.mono hb.size)).trans (hw3.mono (Nat.le_trans hb.size hdw.size))⟩
      case measure => simp [intOf]; omega
    · have hk' : i = ls.length := by omega
      subst hk'
      go_wp2_with fail
      go_ret
      exact ⟨rfl, hb⟩

theorem neqLine (w : World) (a a' : Int) (b b' : Bool) (t t' : ByteArray) :
    (binOp .neq 109 (.agg #[.int .i64 a, .bool b, .string t]) (.agg #[.int .i64 a', .bool b', .string t'])).run Try.prog w = .ok (.bool (!(a == a' && (b == b' && t.toList == t'.toList)))) w := by
  have hS : Try.prog.underlying 109 = some (.struct (Try.prog.fieldsOf 109)) := by kernel_rfl
  have hH : Try.prog.stoodInHeld 109 = false := by kernel_rfl
  rw [run_neq_struct, run_equalIn_agg w _ _ _ _ hS hH]
  simp only [Program.fieldsOf, Try.underlying109]
  simp [go_sem, Op.eqFields]
  by_cases h1 : a = a' <;> by_cases h2 : b = b' <;> by_cases h3 : t.toList = t'.toList <;> simp [h1, h2, h3]

theorem bytes_toList_inj {s t : ByteArray} (h : s.toList = t.toList) : s = t := by
  rw [ByteArray.toList_eq, ByteArray.toList_eq] at h
  obtain ⟨⟨x⟩⟩ := s
  obtain ⟨⟨y⟩⟩ := t
  simp only at h
  rw [h]
theorem neqLine_eq {x y : Line} (h : x = y) (w : World) :
    (binOp .neq 109 (.agg #[.int .i64 x.cell, .bool x.fresh, .string x.text]) (.agg #[.int .i64 y.cell, .bool y.fresh, .string y.text])).run Try.prog w = .ok (.bool false) w := by
  subst h
  rw [neqLine]; simp
theorem neqLine_ne {x y : Line} (h : x ≠ y) (w : World) :
    (binOp .neq 109 (.agg #[.int .i64 x.cell, .bool x.fresh, .string x.text]) (.agg #[.int .i64 y.cell, .bool y.fresh, .string y.text])).run Try.prog w = .ok (.bool true) w := by
  rw [neqLine]
  congr 2
  rw [Bool.not_eq_true', ← Bool.not_eq_true]
  intro hh
  simp only [Bool.and_eq_true, beq_iff_eq] at hh
  apply h
  obtain ⟨a, b, t⟩ := x
  obtain ⟨a', b', t'⟩ := y
  obtain ⟨h1, h2, h3⟩ := hh
  rw [show a = a' from h1, show b = b' from h2, show t = t' from bytes_toList_inj h3]

set_option maxHeartbeats 400000 in
/-- The reference's EqualView: true exactly where the lines are the same. -/
theorem specEqualView_any (w : World) (u v : Value) (ls ms : List Line) (F G : List Nat) (h : SlAt w u (ls.map Line.d) F) (k : SlAt w v (ms.map Line.d) G) :
    Calls Try.prog 13 #[u, v] w fun e w' => ∃ r : Bool, e = .returned (.bool r) ∧ (r = true ↔ ls = ms) ∧ Below w.heap.size w w' := by
  obtain ⟨A, c, rfl, hc, hcm⟩ := h.form
  obtain ⟨A', c', rfl, hc', hcm'⟩ := k.form
  simp only [List.length_map] at h k hc hc' ⊢
  by_cases hlen : ls.length = ms.length
  · have hne : ((ls.length : Int) != ms.length) = false := by simp [hlen]
    have HL := Lib.hid hlen
    clear hlen
    go_enter Try.func13, Try.ntmps13
    go_wp2_with fail
    go_loopw [5] (fun i wr => ∃ k : Nat, k ≤ ls.length ∧ i = .int .i64 k ∧ ls.take k = ms.take k ∧ Below w.heap.size w wr) (fun i _ => ls.length - (intOf i).toNat)
    case atStart => exact ⟨0, Nat.zero_le _, rfl, by simp, Below.refl _ _⟩
    case round =>
      obtain ⟨i, hi, rfl, htk, hb⟩ := hrel
      have HT := Lib.hid htk
      clear htk
      by_cases hlt : i < ls.length
      · have hlt' : i < ms.length := by have := HL.out; omega
        obtain ⟨b, off, ys, Fi, rfl, hbl, _, hr, hlen, _, hcell⟩ := (show SlAt wr _ _ _ from h.below hb).at_ (i := i) (lineWd ls) (by simpa using hlt)
        obtain ⟨b', off', ys', Fi', rfl, hbl', _, hr', hlen', _, hcell'⟩ := (show SlAt wr _ _ _ from k.below hb).at_ (i := i) (lineWd ms) (by simpa using hlt')
        simp only [List.getElem_map] at hr hr'
        obtain ⟨rfl, _, hI, hS⟩ := Line.rep hr
        obtain ⟨rfl, _, _, _⟩ := Line.rep hr'
        have c0 : wr.cell? ⟨b, off + i * 3, none⟩ = _ := hcell 0 _ rfl
        have c1 := hcell 1 _ rfl
        have c2 := hcell 2 _ rfl
        have d0 : wr.cell? ⟨b', off' + i * 3, none⟩ = _ := hcell' 0 _ rfl
        have d1 := hcell' 1 _ rfl
        have d2 := hcell' 2 _ rfl
        have hi1 : (i : Int) < (ls.length : Int) := by omega
        have hi2 : (i : Int) < (ms.length : Int) := by omega
        clear hcell hcell' hr hr' hlen hlen'
        by_cases heq : ls[i] = ms[i]
        · have hq := neqLine_eq heq
          have HE := Lib.hid heq
          clear heq
          go_wp2_with fail
          go_quiet (fail)
          go_wp2_with fail
          go_roundw
          case rel => exact ⟨i + 1, by omega, by go_num, by rw [List.take_succ_eq_append_getElem hlt, List.take_succ_eq_append_getElem hlt', HT.out, HE.out], below_drewN hb _⟩
          case measure => simp [intOf]; omega
        · have hq := neqLine_ne heq
          have HE := Lib.hid heq
          clear heq
          go_wp2_with fail
          go_quiet (fail)
          go_wp2_with fail
          go_ret
          refine ⟨false, rfl, ⟨?_, ?_⟩, below_drewN hb _⟩
          · intro h; cases h
          · intro h; subst h; exact absurd rfl HE.out
      · have hk' : i = ls.length := by omega
        subst hk'
        go_wp2_with fail
        go_ret
        refine ⟨true, rfl, ⟨fun _ => ?_, fun _ => rfl⟩, hb⟩
        have h1 := HT.out
        rw [List.take_of_length_le (Nat.le_refl _), List.take_of_length_le (by have := HL.out; omega)] at h1
        exact h1
  · have hne : ((ls.length : Int) != ms.length) = true := by simp; omega
    go_enter Try.func13, Try.ntmps13
    go_wp2_with fail
    go_ret
    refine ⟨false, rfl, ⟨?_, ?_⟩, Below.refl _ _⟩
    · intro h; cases h
    · intro h; subst h; exact absurd rfl hlen

set_option maxHeartbeats 400000 in
theorem sameLine_any (w : World) (u v : Value) (ls ms : List Line) (F G : List Nat) (h : SlAt w u (ls.map Line.d) F) (k : SlAt w v (ms.map Line.d) G) :
    Calls Try.prog 61 #[u, v] w fun e w' => ∃ r : Bool, e = .returned (.bool r) ∧ (r = true ↔ ls = ms) ∧ Below w.heap.size w w' := by
  obtain ⟨A, c, rfl, hc, hcm⟩ := h.form
  obtain ⟨A', c', rfl, hc', hcm'⟩ := k.form
  simp only [List.length_map] at h k hc hc' ⊢
  by_cases hlen : ls.length = ms.length
  · have hne : ((ls.length : Int) != ms.length) = false := by simp [hlen]
    have HL := Lib.hid hlen
    clear hlen
    go_enter Try.func61, Try.ntmps61
    go_wp2_with fail
    go_loopw [5, 13] (fun _ i wr => ∃ k : Nat, k ≤ ls.length ∧ i = .int .i64 k ∧ ls.take k = ms.take k ∧ Below w.heap.size w wr) (fun _ i _ => ls.length - (intOf i).toNat)
    case atStart => exact ⟨0, Nat.zero_le _, rfl, by simp, Below.refl _ _⟩
    case round =>
      obtain ⟨i, hi, rfl, htk, hb⟩ := hrel
      have HT := Lib.hid htk
      clear htk
      by_cases hlt : i < ls.length
      · have hlt' : i < ms.length := by have := HL.out; omega
        obtain ⟨b, off, ys, Fi, rfl, hbl, _, hr, hlen, _, hcell⟩ := (show SlAt wr _ _ _ from h.below hb).at_ (i := i) (lineWd ls) (by simpa using hlt)
        obtain ⟨b', off', ys', Fi', rfl, hbl', _, hr', hlen', _, hcell'⟩ := (show SlAt wr _ _ _ from k.below hb).at_ (i := i) (lineWd ms) (by simpa using hlt')
        simp only [List.getElem_map] at hr hr'
        obtain ⟨rfl, _, hI, hS⟩ := Line.rep hr
        obtain ⟨rfl, _, _, _⟩ := Line.rep hr'
        have c0 : wr.cell? ⟨b, off + i * 3, none⟩ = _ := hcell 0 _ rfl
        have c1 := hcell 1 _ rfl
        have c2 := hcell 2 _ rfl
        have d0 : wr.cell? ⟨b', off' + i * 3, none⟩ = _ := hcell' 0 _ rfl
        have d1 := hcell' 1 _ rfl
        have d2 := hcell' 2 _ rfl
        have hi1 : (i : Int) < (ls.length : Int) := by omega
        have hi2 : (i : Int) < (ms.length : Int) := by omega
        clear hcell hcell' hr hr' hlen hlen'
        by_cases heq : ls[i] = ms[i]
        · have hq := neqLine_eq heq
          have HE := Lib.hid heq
          clear heq
          go_wp2_with fail
          go_quiet (fail)
          go_wp2_with fail
          go_roundw
          case rel => exact ⟨i + 1, by omega, by go_num, by rw [List.take_succ_eq_append_getElem hlt, List.take_succ_eq_append_getElem hlt', HT.out, HE.out], below_drewN hb _⟩
          case measure => simp [intOf]; omega
        · have hq := neqLine_ne heq
          have HE := Lib.hid heq
          clear heq
          go_wp2_with fail
          go_quiet (fail)
          go_wp2_with fail
          go_ret
          refine ⟨false, rfl, ⟨?_, ?_⟩, below_drewN hb _⟩
          · intro h; cases h
          · intro h; subst h; exact absurd rfl HE.out
      · have hk' : i = ls.length := by omega
        subst hk'
        go_wp2_with fail
        go_ret
        refine ⟨true, rfl, ⟨fun _ => ?_, fun _ => rfl⟩, hb⟩
        have h1 := HT.out
        rw [List.take_of_length_le (Nat.le_refl _), List.take_of_length_le (by have := HL.out; omega)] at h1
        exact h1
  · have hne : ((ls.length : Int) != ms.length) = true := by simp; omega
    go_enter Try.func61, Try.ntmps61
    go_wp2_with fail
    go_ret
    refine ⟨false, rfl, ⟨?_, ?_⟩, Below.refl _ _⟩
    · intro h; cases h
    · intro h; subst h; exact absurd rfl hlen

theorem implEqualView_any (w : World) (u v : Value) (ls ms : List Line) (F G : List Nat) (h : SlAt w u (ls.map Line.d) F) (k : SlAt w v (ms.map Line.d) G) :
    Calls Try.prog 15 #[u, v] w fun e w' => ∃ r : Bool, e = .returned (.bool r) ∧ (r = true ↔ ls = ms) ∧ Below w.heap.size w w' := by
  go_enter Try.func15, Try.ntmps15
  go_wp2_with fail
  refine (sameLine_any _ _ _ ls ms F G h k).mono ?_
  rintro e w1 ⟨r, rfl, hr, hb⟩
  go_wp2_with fail
  go_ret
  exact ⟨r, rfl, hr, hb⟩
end Go.Proofs.Ytopjlbifglacpaa
