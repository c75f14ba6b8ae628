/- The text that marks a place: it hangs on the number alone. Conditions: the number is between 0 and 1099511627776. -/
import Derived.Test.YtopjlbifglacpaaNew
namespace Go.Proofs.Ytopjlbifglacpaa
open Go.RowKit

/-- The decimal digits, the last ones first gathered. -/
def digs : Nat → Nat → List UInt8 → List UInt8
  | 0, _, acc => acc
  | f + 1, n, acc => if n = 0 then acc else digs f (n / 10) (UInt8.ofNat (48 + n % 10) :: acc)
theorem digs_len : ∀ f n acc, (digs f n acc).length ≤ acc.length + f
  | 0, _, _ => by simp [digs]
  | f + 1, n, acc => by
    unfold digs
    split
    · omega
    · have := digs_len f (n / 10) (UInt8.ofNat (48 + n % 10) :: acc)
      simp only [List.length_cons] at this
      omega
/-- The mark of the number k. -/
def mText (k : Int) : ByteArray := if k ≤ 0 then ⟨#[109, 48]⟩ else ⟨(109 :: digs k.toNat k.toNat []).toArray⟩
theorem mText_fits {k : Int} (h : k ≤ 1099511627776) : Fits (mText k) := by
  unfold mText Fits
  split
  · decide
  · have := digs_len k.toNat k.toNat []
    show (List.toArray _).size ≤ _
    simp only [List.size_toArray, List.length_cons, List.length_nil] at this ⊢
    omega

theorem oneByte (w : World) (m : Int) : (convert 157 9 (.slice (some ⟨w.heap.size, 0, none⟩) 1 1)).run Try.prog (w.alloc (.cells #[.int .u8 m] 5)) = .ok (.string (strOfNums [m])) (w.alloc (.cells #[.int .u8 m] 5)) :=
  run_convert_bytes_arg _ 157 5 Try.underlying157 Try.underlying5 _ 0 1 1 [m] rfl (fun i hi => by
    obtain rfl : i = 0 := by omega
    simp) 9 Try.underlying9
theorem oneByte_cat (r : Nat) (acc : List UInt8) : strOfNums [48 + (r : Int) % 10] ++ ⟨acc.toArray⟩ = ⟨(UInt8.ofNat (48 + r % 10) :: acc).toArray⟩ := by
  have e : (48 + (r : Int) % 10).toNat = 48 + r % 10 := by omega
  apply ByteArray.ext
  rw [ByteArray.data_append]
  simp [strOfNums, e]
theorem mark_cat (acc : List UInt8) : (⟨#[109]⟩ : ByteArray) ++ ⟨acc.toArray⟩ = ⟨(109 :: acc).toArray⟩ := by
  apply ByteArray.ext
  rw [ByteArray.data_append]
  simp

set_option maxHeartbeats 1000000 in
set_option maxRecDepth 100000 in
theorem markText_any (k : Int) (w : World) (h1 : k ≤ 1099511627776) :
    Calls Try.prog 69 #[.int .i64 k] w fun e w' => e = .returned (.string (mText k)) ∧ Below w.heap.size w w' := by
  by_cases h0 : k ≤ 0
  · go_enter Try.func69, Try.ntmps69
    go_wp2_with fail
    go_ret
    exact ⟨by unfold mText; rw [if_pos h0]; rfl, Below.refl _ _⟩
  · have hfin : mText k = ⟨(109 :: digs k.toNat k.toNat []).toArray⟩ := by unfold mText; rw [if_neg h0]
    have HF := Lib.hid hfin
    clear hfin
    obtain ⟨n, rfl⟩ := Int.eq_ofNat_of_zero_le (show 0 ≤ k by omega)
    rw [Int.toNat_natCast] at HF
    have hd : decide ((n : Int) ≤ 0) = false := by simp; omega
    go_enter Try.func69, Try.ntmps69
    go_wp2_with fail
    go_loopw [0, 3] (fun kk out wr => ∃ (r f : Nat) (acc : List UInt8), kk = .int .i64 r ∧ r ≤ f ∧ r ≤ n ∧ out = .string ⟨acc.toArray⟩ ∧ digs f r acc = digs n n [] ∧ acc.length + r ≤ n ∧ Below w.heap.size w wr) (fun kk _ _ => (intOf kk).toNat)
    case atStart => exact ⟨n, n, [], rfl, Nat.le_refl _, Nat.le_refl _, rfl, rfl, by simp, Below.refl _ _⟩
    case round =>
      obtain ⟨r, f, acc, rfl, hrf, hrn, rfl, hdig, hlen, hb⟩ := hrel
      have HD := Lib.hid hdig
      clear hdig
      by_cases hr : r = 0
      · subst hr
        go_wp2_with fail
        go_ret
        refine ⟨?_, hb⟩
        show Ending.returned (.string _) = _
        rw [HF.out, mark_cat, ← HD.out]
        cases f <;> rfl
      · have hr0 : 0 < r := by omega
        have kc := oneByte
        have hz : (strOfNums [48 + (r : Int) % 10]).size = 1 := by rw [strOfNums_size]; rfl
        have hac : (⟨acc.toArray⟩ : ByteArray).size = acc.length := by show acc.toArray.size = _; simp
        go_wp2_with fail
        go_roundw
        case rel =>
          obtain ⟨g, rfl⟩ : ∃ g, f = g + 1 := ⟨f - 1, by omega⟩
          refine ⟨r / 10, g, UInt8.ofNat (48 + r % 10) :: acc, by go_num, by omega, by omega, by rw [oneByte_cat], ?_, by simp only [List.length_cons]; omega, bnew hb _⟩
          rw [← HD.out]
          conv => rhs; unfold digs
          rw [if_neg hr]
        case measure => simp [intOf]; omega
end Go.Proofs.Ytopjlbifglacpaa
