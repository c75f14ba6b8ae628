/- Numbers as texts: the reference's digits are those of the library's Itoa. -/
import Derived.Test.YtmiboaogfjgkjaaGreatDoorPkC
import Derived.Lib.ItoaLen
import Derived.Test.YtmiboaogfjgkjaaGreatDoorMd1
import Derived.Test.YtmiboaogfjgkjaaGreatDoorMd3
set_option linter.unusedSimpArgs false
set_option linter.unusedVariables false
namespace Go.Proofs.YtmiboaogfjgkjaaGreatDoor
open Go.RowKit Am
def toB (l : List UInt8) : ByteArray := ⟨l.toArray⟩
theorem toB_app (l m : List UInt8) : toB l ++ toB m = toB (l ++ m) := by
  apply ByteArray.ext
  rw [ByteArray.data_append]
  simp [toB]
theorem toB_size (l : List UInt8) : (toB l).size = l.length := by unfold toB ByteArray.size; simp
theorem cat_ok {s t : ByteArray} (h : s.size + t.size ≤ 1099511627776) : cat? s t = some (s ++ t) := by
  unfold cat?
  rw [if_pos (by omega)]
def idigs (u : Nat) : List UInt8 := if u = 0 then [] else Lib.decDigits u
theorem idigs_step {u : Nat} (h : u ≠ 0) : idigs u = idigs (u / 10) ++ [UInt8.ofNat (48 + u % 10)] := by
  unfold idigs
  rw [if_neg h, Lib.decDigits]
  by_cases g : u < 10
  · rw [dif_pos g, if_pos (by omega), show u % 10 = u by omega]; rfl
  · rw [dif_neg g, if_neg (by omega)]
theorem idigs_loop : ∀ (m : Nat) (x : Int) (l : List UInt8), x.natAbs < 10 ^ m → -9223372036854775808 ≤ x → x ≤ 9223372036854775807 → l.length + m ≤ 10000 → s_FormatInt_u1 (m + 1) x (toB l) = some (toB (idigs x.natAbs ++ l)) := by
  intro m
  induction m with
  | zero =>
    intro x l h0 _ _ _
    have : x = 0 := by simp at h0; exact h0
    subst this
    rw [s_FormatInt_u1]; simp [idigs]
  | succ m ih =>
    intro x l h0 h1 h2 h3
    rw [s_FormatInt_u1]
    by_cases hx : x = 0
    · subst hx; simp [idigs]
    · rw [if_pos (by simpa using hx)]
      have ht : x.tmod 10 = if x < 0 then -((x.natAbs % 10 : Nat) : Int) else ((x.natAbs % 10 : Nat) : Int) := by
        split
        · obtain ⟨n, rfl⟩ : ∃ n : Nat, x = -(n : Int) := ⟨x.natAbs, by omega⟩
          rw [Int.neg_tmod]; simp; rfl
        · obtain ⟨n, rfl⟩ : ∃ n : Nat, x = (n : Int) := ⟨x.natAbs, by omega⟩
          rfl
      have hd : x.natAbs % 10 < 10 := Nat.mod_lt _ (by omega)
      have e1 : IntKind.i64.wrap (x.tmod 10) = x.tmod 10 := w64 (by rw [ht]; split <;> omega) (by rw [ht]; split <;> omega)
      have e2 : (if decide (IntKind.i64.wrap (x.tmod 10) < 0) = true then some (IntKind.i64.wrap (0 - IntKind.i64.wrap (x.tmod 10))) else some (IntKind.i64.wrap (x.tmod 10)) : Option Int) = some ((x.natAbs % 10 : Nat) : Int) := by
        rw [e1, ht]
        by_cases hn : x < 0
        · simp only [if_pos hn]
          by_cases hz : x.natAbs % 10 = 0
          · simp [hz]
          · rw [if_pos (by simp; omega), w64 (by omega) (by omega)]; congr 1; omega
        · simp only [if_neg hn]
          rw [if_neg (by simp; omega)]
      have e3 : IntKind.i64.wrap (48 + ((x.natAbs % 10 : Nat) : Int)) = ((48 + x.natAbs % 10 : Nat) : Int) := by rw [w64 (by omega) (by omega)]; omega
      have e4 : IntKind.u8.wrap ((48 + x.natAbs % 10 : Nat) : Int) = ((48 + x.natAbs % 10 : Nat) : Int) := IntWalk.u8_in _ ⟨by omega, by omega⟩
      have e5 : bStr [((48 + x.natAbs % 10 : Nat) : Int)] = toB [UInt8.ofNat (48 + x.natAbs % 10)] := by
        unfold bStr toB
        simp only [List.foldl_cons, List.foldl_nil, Int.toNat_natCast]
        rfl
      have e6 : (x.tdiv 10).natAbs = x.natAbs / 10 := by rw [Int.natAbs_tdiv]; rfl
      have hq : -9223372036854775808 ≤ x.tdiv 10 ∧ x.tdiv 10 ≤ 9223372036854775807 := by omega
      rw [e2, Option.bind_some, e3, e4, e5, cat_ok (by rw [toB_size, toB_size]; simp; omega), Option.bind_some, toB_app, w64 hq.1 hq.2, ih _ _ (by rw [e6]; rw [Nat.pow_succ] at h0; omega) hq.1 hq.2 (by simp; omega), e6, idigs_step (u := x.natAbs) (by omega)]
      simp
theorem s_int (n : Int) (h0 : -9223372036854775808 ≤ n) (h1 : n ≤ 9223372036854775807) {k : Nat} (hk : 100 < k) : s_FormatInt k n = some (toB (Lib.itoa n)) := by
  obtain ⟨k, rfl⟩ : ∃ j, k = j + 1 := ⟨k - 1, by omega⟩
  unfold s_FormatInt
  by_cases hn : n = 0
  · subst hn
    have : Lib.itoa 0 = [48] := by
      unfold Lib.itoa
      rw [if_neg (by omega), Lib.decDigits, dif_pos (by decide)]; rfl
    rw [if_pos (by simp), this]; rfl
  · rw [if_neg (by simpa using hn)]
    have hp : n.natAbs < 10 ^ 20 := by have : (10 : Nat) ^ 20 = 100000000000000000000 := by decide
                                       omega
    have key : s_FormatInt_u1 (k + 1) n (⟨#[]⟩ : ByteArray) = some (toB (idigs n.natAbs)) := by
      have mono : ∀ (m j : Nat) (x : Int) (acc r : ByteArray), s_FormatInt_u1 m x acc = some r → s_FormatInt_u1 (m + j) x acc = some r := by
        intro m
        induction m with
        | zero => intro j x acc r h; simp [s_FormatInt_u1] at h
        | succ m ih =>
          intro j x acc r h
          rw [show m + 1 + j = (m + j) + 1 by omega, s_FormatInt_u1]
          rw [s_FormatInt_u1] at h
          split at h
          · rename_i c
            rw [if_pos c]
            obtain ⟨a, ha, h⟩ := Option.bind_eq_some_iff.1 h
            obtain ⟨b, hb, h⟩ := Option.bind_eq_some_iff.1 h
            rw [ha, Option.bind_some, hb, Option.bind_some]
            exact ih j _ _ _ h
          · rename_i c
            rw [if_neg c]; exact h
      have h20 := idigs_loop 20 n [] hp h0 h1 (by simp)
      have := mono 21 (k - 20) _ _ _ h20
      rw [show 21 + (k - 20) = k + 1 by omega, List.append_nil] at this
      exact this
    rw [key, Option.bind_some]
    by_cases g : n < 0
    · rw [if_pos (by simpa using g)]
      have hc : cat? (⟨#[45]⟩ : ByteArray) (toB (idigs n.natAbs)) = some (toB (45 :: idigs n.natAbs)) := by
        have hl := Lib.itoa_length_le n h0 h1
        unfold Lib.itoa at hl
        rw [if_pos g] at hl
        have e : (⟨#[45]⟩ : ByteArray) = toB [45] := rfl
        have e2 : idigs n.natAbs = Lib.decDigits n.natAbs := by unfold idigs; rw [if_neg (by omega)]
        rw [e, cat_ok (by rw [toB_size, toB_size, e2]; simp at hl ⊢; omega), toB_app]; rfl
      rw [hc]
      unfold Lib.itoa idigs
      rw [if_pos g, if_neg (by omega)]; rfl
    · rw [if_neg (by simpa using g)]
      unfold Lib.itoa idigs
      rw [if_neg g, if_neg (by omega)]
      congr 3
      omega
theorem i_int (n : Int) : i_FormatInt n = some (toB (Lib.itoa n)) := rfl
end Go.Proofs.YtmiboaogfjgkjaaGreatDoor
