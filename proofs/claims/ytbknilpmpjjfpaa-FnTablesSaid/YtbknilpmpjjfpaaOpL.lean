/- The first error among a function's operands: the program's and the reference's answer. -/
import Derived.Test.YtbknilpmpjjfpaaWhL
import Derived.Test.YtbknilpmpjjfpaaMd1
import Derived.Test.YtbknilpmpjjfpaaMd6
set_option linter.unusedSimpArgs false
set_option linter.unusedVariables false
namespace Go.Proofs.Ytbknilpmpjjfpaa
open Go.RowKit Am
def zeroV : TValue := ⟨0, 0, 0, ⟨#[]⟩, [], [], []⟩
def firstE (b : TValue → Bool) : List TValue → Option TValue
  | [] => none
  | x :: xs => if b x = false then some (errV 4) else if x.kind = 6 then some (errV x.n) else firstE b xs
def kindsE : List TValue → List Int → Option TValue
  | x :: xs, k :: ks => if x.kind = k then kindsE xs ks else some (errV 4)
  | _, _ => none
def chkE (b : TValue → Bool) (xs : List TValue) (ks : List Int) : Option TValue := match firstE b xs with
  | some e => some e
  | none => kindsE xs ks
def outE : Option TValue → TValue × Bool
  | some e => (e, true)
  | none => (zeroV, false)
def endE : Option TValue → Option (Unit ⊕ (TValue × Bool))
  | some e => some (.inr (e, true))
  | none => some (.inl ())
theorem drop_loop {α ε : Type} (xs : List α) (hl : xs.length ≤ 1048576) (R : List α → ε) (u : Nat → Int → ε) (he : ∀ n, u (n + 1) (xs.length : Int) = R []) (hs : ∀ n i (h : i < xs.length), u n ((i + 1 : Nat) : Int) = R (xs.drop (i + 1)) → u (n + 1) (i : Int) = R (xs[i] :: xs.drop (i + 1))) {k : Nat} (hk : xs.length < k) : u k 0 = R xs := by
  have key : ∀ (m n i : Nat), i + m = xs.length → m < n → u n (i : Int) = R (xs.drop i) := by
    intro m
    induction m with
    | zero =>
      intro n i hi hn
      obtain ⟨n, rfl⟩ : ∃ j, n = j + 1 := ⟨n - 1, by omega⟩
      obtain rfl : i = xs.length := by omega
      rw [he, List.drop_length]
    | succ m ih =>
      intro n i hi hn
      obtain ⟨n, rfl⟩ : ∃ j, n = j + 1 := ⟨n - 1, by omega⟩
      have hil : i < xs.length := by omega
      rw [List.drop_eq_getElem_cons hil]
      exact hs n i hil (ih n (i + 1) (by omega) (by omega))
  have := key xs.length k 0 (by omega) hk
  simpa using this
theorem s_first (xs : List TValue) (hl : xs.length ≤ 1048576) (b : TValue → Bool) {k : Nat} (hk : 1048600 < k) (hb : ∀ x ∈ xs, s_IsValidValue k x = some (b x)) : s_l5First k xs = some (outE (firstE b xs)) := by
  unfold s_l5First
  rw [drop_loop xs hl (fun ys => endE (firstE b ys)) (s_l5First_u1 k xs) (fun n => by rw [s_l5First_u1, if_neg (lt_no (Nat.le_refl _))]; rfl) (fun n i h ih => by
    rw [s_l5First_u1, if_pos (lt_yes h), at_in h, Option.bind_some, hb _ (List.getElem_mem h), Option.bind_some, wS i (by omega), ih]
    simp only [firstE, s_ErrorValue, Option.bind_some]
    cases b xs[i] with
    | false => rfl
    | true =>
      by_cases h6 : xs[i].kind = 6
      · simp [h6]; rfl
      · simp [h6]) (by omega)]
  cases firstE b xs <;> rfl
theorem i_first (xs : List TValue) (hl : xs.length ≤ 1048576) (b : TValue → Bool) {k : Nat} (hk : 1048600 < k) (hb : ∀ x ∈ xs, i_IsValidValue k x = some (b x)) (he : ∀ x ∈ xs, b x = true → x.kind = 6 → x = errV x.n) : i_operandError k xs = some (outE (firstE b xs)) := by
  unfold i_operandError
  rw [drop_loop xs hl (fun ys => endE (firstE b ys)) (i_operandError_u1 k xs) (fun n => by rw [i_operandError_u1, if_neg (lt_no (Nat.le_refl _))]; rfl) (fun n i h ih => by
    rw [i_operandError_u1, if_pos (lt_yes h), at_in h, Option.bind_some, hb _ (List.getElem_mem h), Option.bind_some, wS i (by omega), ih]
    simp only [firstE, i_ErrorValue, Option.bind_some]
    cases hx : b xs[i] with
    | false => rfl
    | true =>
      by_cases h6 : xs[i].kind = 6
      · have := he _ (List.getElem_mem h) hx h6
        simp only [h6, decide_true, if_true, Bool.not_true, Bool.false_eq_true, if_false]
        rw [← this]; rfl
      · simp [h6]) (by omega)]
  cases firstE b xs <;> rfl
theorem s_kinds (xs : List TValue) (ks : List Int) (hl : xs.length ≤ 1048576) (hk : xs.length = ks.length) : ∀ k, 1048600 < k → s_l7Check_u1 xs ks k 0 = endE (kindsE xs ks) := by
  intro k hk2
  have := drop_loop (xs.zip ks) (by simp; omega) (fun ys => endE (kindsE (ys.map (·.1)) (ys.map (·.2)))) (s_l7Check_u1 xs ks) (fun n => by rw [s_l7Check_u1, if_neg (lt_no (by simp; omega))]; rfl) (fun n i h ih => by
    have h1 : i < xs.length := by simp at h; omega
    have h2 : i < ks.length := by omega
    rw [s_l7Check_u1, if_pos (lt_yes h1), at_in h1, Option.bind_some, at_in h2, Option.bind_some, wS i (by omega), ih]
    simp only [List.map_cons, kindsE, List.getElem_zip, s_ErrorValue, Option.bind_some]
    by_cases e : xs[i].kind = ks[i]
    · simp [e]
    · simp [e]; rfl) (k := k) (by simp; omega)
  rw [this]
  simp only [List.map_fst_zip (by omega : xs.length ≤ ks.length), List.map_snd_zip (by omega : ks.length ≤ xs.length)]
theorem i_kinds (xs : List TValue) (ks : List Int) (hl : xs.length ≤ 1048576) (hk : xs.length = ks.length) : ∀ k, 1048600 < k → i_kindError_u1 ks xs k 0 = endE (kindsE xs ks) := by
  intro k hk2
  have := drop_loop (xs.zip ks) (by simp; omega) (fun ys => endE (kindsE (ys.map (·.1)) (ys.map (·.2)))) (i_kindError_u1 ks xs) (fun n => by rw [i_kindError_u1, if_neg (lt_no (by simp; omega))]; rfl) (fun n i h ih => by
    have h1 : i < xs.length := by simp at h; omega
    have h2 : i < ks.length := by omega
    rw [i_kindError_u1, if_pos (lt_yes h1), at_in h1, Option.bind_some, at_in h2, Option.bind_some, wS i (by omega), ih]
    simp only [List.map_cons, kindsE, List.getElem_zip, i_ErrorValue, Option.bind_some]
    by_cases e : xs[i].kind = ks[i]
    · simp [e]
    · simp [e]; rfl) (k := k) (by simp; omega)
  rw [this]
  simp only [List.map_fst_zip (by omega : xs.length ≤ ks.length), List.map_snd_zip (by omega : ks.length ≤ xs.length)]
theorem s_check (xs : List TValue) (ks : List Int) (hl : xs.length ≤ 1048576) (hk : xs.length = ks.length) (b : TValue → Bool) {k : Nat} (hk2 : 1048600 < k) (hb : ∀ x ∈ xs, s_IsValidValue k x = some (b x)) : s_l7Check k xs ks = some (outE (chkE b xs ks)) := by
  unfold s_l7Check chkE
  rw [s_first xs hl b hk2 hb, Option.bind_some, s_kinds xs ks hl hk k hk2]
  cases firstE b xs with
  | some e => rfl
  | none => cases kindsE xs ks <;> rfl
theorem i_check (xs : List TValue) (ks : List Int) (hl : xs.length ≤ 1048576) (hk : xs.length = ks.length) (b : TValue → Bool) {k : Nat} (hk2 : 1048600 < k) (hb : ∀ x ∈ xs, i_IsValidValue k x = some (b x)) (he : ∀ x ∈ xs, b x = true → x.kind = 6 → x = errV x.n) : i_kindError k ks xs = some (outE (chkE b xs ks)) := by
  unfold i_kindError chkE
  rw [i_first xs hl b hk2 hb he, Option.bind_some, i_kinds xs ks hl hk k hk2]
  cases firstE b xs with
  | some e => rfl
  | none => cases kindsE xs ks <;> rfl
theorem firstE_err {b : TValue → Bool} : ∀ {xs : List TValue} {e : TValue}, (∀ x ∈ xs, b x = true → x.kind = 6 → 1 ≤ x.n ∧ x.n ≤ 8) → firstE b xs = some e → ∃ n, e = errV n ∧ 1 ≤ n ∧ n ≤ 8
  | [], _, _, h => by simp [firstE] at h
  | x :: xs, e, he, h => by
    simp only [firstE] at h
    split at h
    · exact ⟨4, (Option.some.inj h).symm, by omega, by omega⟩
    · rename_i hb
      split at h
      · rename_i h6
        have := he x (by simp) (by simpa using hb) h6
        exact ⟨x.n, (Option.some.inj h).symm, this.1, this.2⟩
      · exact firstE_err (fun y hy => he y (by simp [hy])) h
theorem kindsE_err : ∀ {xs : List TValue} {ks : List Int} {e : TValue}, kindsE xs ks = some e → e = errV 4
  | [], _, _, h => by simp [kindsE] at h
  | _ :: _, [], _, h => by simp [kindsE] at h
  | x :: xs, k :: ks, e, h => by
    simp only [kindsE] at h
    split at h
    · exact kindsE_err h
    · exact (Option.some.inj h).symm
theorem chkE_err {b : TValue → Bool} {xs : List TValue} {ks : List Int} {e : TValue} (he : ∀ x ∈ xs, b x = true → x.kind = 6 → 1 ≤ x.n ∧ x.n ≤ 8) (h : chkE b xs ks = some e) : ∃ n, e = errV n ∧ 1 ≤ n ∧ n ≤ 8 := by
  unfold chkE at h
  split at h
  · rename_i e' h1
    obtain rfl := Option.some.inj h
    exact firstE_err he h1
  · exact ⟨4, kindsE_err h, by omega, by omega⟩
theorem firstE_none {b : TValue → Bool} : ∀ {xs : List TValue}, firstE b xs = none → ∀ x ∈ xs, b x = true ∧ x.kind ≠ 6
  | [], _ => by simp
  | x :: xs, h => by
    simp only [firstE] at h
    split at h
    · cases h
    · rename_i hb
      split at h
      · cases h
      · rename_i h6
        intro y hy
        rcases List.mem_cons.1 hy with rfl | hy
        · exact ⟨by simpa using hb, h6⟩
        · exact firstE_none h y hy
theorem firstE_no {b : TValue → Bool} : ∀ {xs : List TValue}, (∀ x ∈ xs, b x = true ∧ x.kind ≠ 6) → firstE b xs = none
  | [], _ => rfl
  | x :: xs, h => by
    obtain ⟨h1, h2⟩ := h x (by simp)
    simp only [firstE, h1, h2, if_false, Bool.true_eq_false]
    exact firstE_no fun y hy => h y (by simp [hy])
end Go.Proofs.Ytbknilpmpjjfpaa
