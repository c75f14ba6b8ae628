/- ApplyDiff: the program's and the reference's answer alike. -/
import Derived.Test.YtmiboaogfjgkjaaTo
import Derived.Test.YtmiboaogfjgkjaaInL
import Derived.Test.YtmiboaogfjgkjaaLs
import Derived.Test.YtmiboaogfjgkjaaMd1
import Derived.Test.YtmiboaogfjgkjaaEq1
set_option linter.unusedSimpArgs false
set_option linter.unusedVariables false
namespace Go.Proofs.Ytmiboaogfjgkjaa
open Go.RowKit Am

/-- All texts of the lines are so short. -/
def lines_short (n : Nat) (xs : List TLine) : Prop := ∀ x ∈ xs, x.text.size ≤ n
theorem lines_bk {n : Nat} : ∀ {xs : List TLine}, lines_short n xs → bkS TLine.bk xs ≤ xs.length + xs.length * n
  | [], _ => by simp [bkS, sumBk]
  | x :: xs, h => by
    have h1 := lines_bk (xs := xs) fun y hy => h y (List.mem_cons_of_mem _ hy)
    have h2 := h x (List.mem_cons_self ..)
    have h3 := x.bk_eq
    unfold bkS sumBk at h1 ⊢
    simp only [List.length_cons, List.map_cons, List.sum_cons, Nat.add_mul, Nat.one_mul]
    omega
theorem ApplyDiff_tot (a : List TLine) (d : TDiff) (ha : a.length ≤ 1048576) (hd : d.changes.length ≤ 1048576) (sa : lines_short 1048576 a) (sd : ∀ c ∈ d.changes, c.line.text.size ≤ 1048576) :
    Tot (fun v => v = a ∨ v.length ≤ 8 ∧ lines_short 1048576 v) fun k => s_ApplyDiff k a d := by
  unfold s_ApplyDiff
  simp only [l1In_eq, Option.bind_some]
  refine .ite (fun _ => .bindApp (by omega) (by simp; omega) (.ret (.inl rfl))) fun c => ?_
  have c : 0 ≤ d.length ∧ d.length ≤ 8 := by simpa using c
  refine .bindMk (by omega) c.1 (by omega) (.bindCpy (by simp; omega) (by omega) ?_)
  refine .bind (p := fun v : List TLine => v.length ≤ 8 ∧ lines_short 1048576 v) ?_ fun v hv => .ret (.inr hv)
  refine Tot.loop (fun k n (s : List TLine × Int) => s_ApplyDiff_u1 d n s.1 s.2) (fun s => (0 ≤ s.2 ∧ s.2 ≤ d.changes.length) ∧ (s.1.length : Int) = d.length ∧ lines_short 1048576 s.1) (fun s => (d.changes.length - s.2).toNat) (s0 := (_, 0)) ⟨⟨by simp, by simp⟩, by simp [over_length]; omega, ?_⟩ ?_
  · intro x hx
    simp only [over, List.mem_append] at hx
    rcases hx with hx | hx
    · exact sa x (List.mem_of_mem_take hx)
    · rw [List.eq_of_mem_replicate (List.mem_of_mem_drop hx)]; exact Nat.zero_le _
  rintro ⟨x, i⟩ ⟨⟨h0, h1⟩, h2, h3⟩
  simp only [s_ApplyDiff_u1, l1In_eq, Option.bind_some] at h0 h1 h2 h3 ⊢
  refine .ite (fun e => ?_) fun e => .ret ⟨by omega, h3⟩
  have e : i < d.changes.length := by simpa using e
  have hw : IntKind.i64.wrap (i + 1) = i + 1 := w64 (by omega) (by omega)
  have hw2 : IntKind.i64.wrap (d.length - 1) = d.length - 1 := w64 (by omega) (by omega)
  rw [hw, hw2]
  refine .bind (p := fun v : List TLine => (v.length : Int) = d.length ∧ lines_short 1048576 v) ?_ fun v hv => .next2 ⟨⟨⟨by simp; omega, by simp; omega⟩, hv⟩, by simp; omega⟩
  refine .bindAt h0 e fun y _ hm => .ite (fun g => ?_) fun g => .ret ⟨h2, h3⟩
  have g : 0 ≤ y.at_ ∧ y.at_ ≤ d.length - 1 := by simpa using g
  refine .bindAt g.1 (by omega) fun z _ _ => .ret ⟨by simp; omega, fun q hq => ?_⟩
  rcases List.mem_or_eq_of_mem_set hq with hq | rfl
  · exact h3 q hq
  · exact sd y hm
theorem ApplyDiff_agree (a : List TLine) (_h : DOk (.sl (a.map TLine.c))) (ba : bkS TLine.bk a ≤ 1048576) (d : TDiff) (_hd : DOkL d.c) (bd : d.bk ≤ 1048576) : ∃ v, bkS TLine.bk v ≤ 1073741824 ∧ Ev fun k => s_ApplyDiff k a d = some v ∧ i_ApplyDiff k a d = some v := by
  have l1 := bkS_len (f := TLine.bk) (xs := a)
  have e := d.bk_eq
  have l2 := bkS_len (f := TChange.bk) (xs := d.changes)
  obtain ⟨v, h1, h2⟩ := ApplyDiff_tot a d (by omega) (by omega) (fun x hx => by have := bkS_get (f := TLine.bk) hx; have := x.bk_eq; omega) (fun c hc => by have := bkS_get (f := TChange.bk) hc; have := c.bk_eq; have := c.line.bk_eq; omega)
  refine ⟨v, ?_, h2.mono fun k h => ?_⟩
  · rcases h1 with rfl | ⟨h1, h3⟩
    · omega
    · have := lines_bk h3
      have := Nat.mul_le_mul_right 1048576 h1
      omega
  rw [i_ApplyDiff_eqv]; exact ⟨h, h⟩
end Go.Proofs.Ytmiboaogfjgkjaa
