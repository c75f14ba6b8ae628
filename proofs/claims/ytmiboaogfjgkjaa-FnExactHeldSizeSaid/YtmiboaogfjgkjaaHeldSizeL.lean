/- HeldSize: the program's and the reference's answer alike. -/
import Derived.Test.YtmiboaogfjgkjaaSizeL
import Derived.Test.YtmiboaogfjgkjaaMd4
import Derived.Test.YtmiboaogfjgkjaaEq4
set_option linter.unusedSimpArgs false
set_option linter.unusedVariables false
namespace Go.Proofs.Ytmiboaogfjgkjaa
open Go.RowKit Am

theorem TEntry.value_bk (x : TEntry) : x.value.bk ≤ x.bk := by rw [TEntry.bk_eq]; omega
theorem HeldSize_agree (e : TEngine) (_h : DOkL e.c) (b : e.bk ≤ 1048576) : ∃ v, Ev fun k => s_HeldSize k e = some v ∧ i_HeldSize k e = some v := by
  have hb := e.bk_eq
  have l1 := bkS_len (f := TEntry.bk) (xs := e.entries)
  obtain ⟨f, hf⟩ := choose_mem (p := fun (y : TEntry) n => n ≤ y.bk + 1 ∧ Ev fun k => s_SizeOf k y.value = some ((n : Nat) : Int)) e.entries fun y hy => by
    have h1 := bkS_get (f := TEntry.bk) hy
    have h2 := y.value_bk
    obtain ⟨n, h3, h4⟩ := SizeOf_ok y.value (by omega)
    exact ⟨n, by omega, h4⟩
  let g : TEntry → Nat := fun y => if y.has then f y else 0
  have hs : sumBk g e.entries ≤ bkS TEntry.bk e.entries := by
    have := sum_le (f := g) (g := fun y => y.bk + 1) (xs := e.entries) fun y hy => by
      have := (hf y hy).1
      show (if y.has then f y else 0) ≤ _
      split <;> omega
    rw [sum_one] at this
    unfold bkS; omega
  refine ⟨(sumBk g e.entries : Int), ((Ev.all e.entries fun y hy => (hf y hy).2).and (Ev.ge (e.entries.length + 1))).mono ?_⟩
  rintro k ⟨hx, hk⟩
  rw [i_HeldSize_eqv, s_HeldSize]
  have u2 := loopE (fun n (s : Nat) i => s_HeldSize_u1 k e n (s : Int) i) (fun i => sumBk g (e.entries.take i)) (some ((sumBk g e.entries : Nat) : Int)) e.entries.length
      (fun n i hi => by
        have h1 := sum_take_succ g e.entries i hi
        have h2 := sum_take_le g e.entries (i + 1)
        have h3 : g e.entries[i] = if e.entries[i].has then f e.entries[i] else 0 := rfl
        try simp only
        rw [s_HeldSize_u1, if_pos (lt_yes hi), at_in hi, Option.bind_some, hx _ (List.getElem_mem hi), wS i (by omega), h1, h3]
        rw [h1, h3] at h2
        cases hh : e.entries[i].has with
        | true => rw [hh] at h2; simp only [if_true, Option.bind_some] at h2 ⊢; rw [w64 (by omega) (by omega)]; rfl
        | false => simp)
      (fun n => by
        try simp only
        rw [s_HeldSize_u1, if_neg (lt_no (Nat.le_refl _)), List.take_of_length_le (Nat.le_refl _)]) (k := k) (by omega)
  simp only [List.take_zero] at u2
  have e0 : ((sumBk g ([] : List TEntry) : Nat) : Int) = 0 := rfl
  rw [e0] at u2
  rw [u2]; exact ⟨rfl, rfl⟩
end Go.Proofs.Ytmiboaogfjgkjaa
