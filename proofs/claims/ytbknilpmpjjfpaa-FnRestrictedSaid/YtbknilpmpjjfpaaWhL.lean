/- When a value is valid, and the first error among operands; tables with some of their rows. -/
import Derived.Test.YtbknilpmpjjfpaaSvL
import Derived.Test.YtbknilpmpjjfpaaMd2
import Derived.Test.YtbknilpmpjjfpaaMd4
set_option linter.unusedSimpArgs false
set_option linter.unusedVariables false
namespace Go.Proofs.Ytbknilpmpjjfpaa
open Go.RowKit Am
def errV (e : Int) : TValue := ⟨6, e, 0, ⟨#[]⟩, [], [], []⟩
def tabV (cs : List ByteArray) (rs : List TRow) : TValue := ⟨5, 0, 0, ⟨#[]⟩, [], cs, rs⟩
def tabB (v : TValue) : Bool := decide ((v.list.length : Int) = 0) && decide (v.n = 0) && decide (v.step = 0) && decide (v.text = (⟨#[]⟩ : ByteArray)) && tableOk v
def errB (v : TValue) : Bool := decide ((v.list.length : Int) = 0) && (decide ((v.columns.length : Int) = 0) && decide ((v.rows.length : Int) = 0)) && decide (v.step = 0) && decide (v.text = (⟨#[]⟩ : ByteArray)) && (decide (1 ≤ v.n) && decide (v.n ≤ 8))
theorem valid_ex (v : TValue) (hb : v.bk ≤ 1048576) : ∃ b, (v.kind = 5 → b = tabB v) ∧ (v.kind = 6 → b = errB v) ∧ Ev fun k => s_IsValidValue k v = some b ∧ i_IsValidValue k v = some b := by
  have sm := TValue.small hb
  obtain ⟨b, hbv⟩ := choose_mem v.list (p := fun x (b : Bool) => Ev fun k => s_IsValidValue k x = some b ∧ i_IsValidValue k x = some b) fun y hy => by
    obtain ⟨b, _, h⟩ := valid_same y (by have := TValue.list_bk hy; omega)
    exact ⟨b, h⟩
  obtain ⟨d, hd⟩ := depth_same v hb
  have hall := Ev.all v.list fun x hx => hbv x hx
  have e1 : Ev fun k => s_l3List k v = some (listOk b d v) := ((hall.and (hd.and (Ev.ge 1048700))).pred fun k ⟨h1, h2, h3⟩ => s_list_eq b d v sm.list (by have := sm.list; omega) (fun x hx => (h1 x hx).1) h2.1)
  refine ⟨validCore b d v, fun h5 => ?_, fun h6 => ?_, ((hall.and (hd.and (e1.and (Ev.ge 1048701)))).pred fun k ⟨h1, h2, h3, h4⟩ => ⟨s_valid_eq b d v sm (by omega) fun _ => h3, i_valid_eq b d v sm (by omega) (fun x hx => (h1 x hx).2) h2.2⟩)⟩
  · simp [validCore, h5, tabB]
  · simp [validCore, h6, errB]
theorem tabB_eq {v : TValue} (h5 : v.kind = 5) (h : tabB v = true) : v = tabV v.columns v.rows ∧ tableOk v = true := by
  unfold tabB at h
  simp only [Bool.and_eq_true, decide_eq_true_eq] at h
  obtain ⟨⟨⟨⟨h1, h2⟩, h3⟩, h4⟩, h6⟩ := h
  refine ⟨?_, h6⟩
  obtain ⟨kd, n, st, tx, ls, cs, rs⟩ := v
  simp only at h1 h2 h3 h4 h5
  have e1 : ls = [] := List.eq_nil_of_length_eq_zero (by omega)
  subst e1 h2 h3 h4 h5
  rfl
theorem tab_ok_filter {cs : List ByteArray} {rs : List TRow} (p : TRow → Bool) (h : tableOk (tabV cs rs) = true) : tableOk (tabV cs (rs.filter p)) = true := by
  unfold tableOk tabV at h ⊢
  simp only [Bool.and_eq_true, Bool.not_eq_true', decide_eq_false_iff_not] at h ⊢
  obtain ⟨⟨h1, h2⟩, h3⟩ := h
  refine ⟨⟨h1, ?_⟩, ?_⟩
  · have := List.length_filter_le p rs; omega
  · rw [List.any_eq_false] at h3 ⊢
    exact fun x hx => h3 x (List.mem_filter.1 hx).1
theorem tabB_ok {cs : List ByteArray} {rs : List TRow} (h : tableOk (tabV cs rs) = true) : tabB (tabV cs rs) = true := by
  unfold tabB
  rw [h]; simp [tabV]
theorem bkS_fil {α : Type} (f : α → Nat) (p : α → Bool) : ∀ xs : List α, bkS f (xs.filter p) ≤ bkS f xs
  | [] => Nat.le_refl _
  | x :: xs => by
    have ih := bkS_fil f p xs
    simp only [bkS, sumBk, List.filter_cons] at ih ⊢
    split
    · simp at ih ⊢; omega
    · simp at ih ⊢; omega
theorem tab_bk_fil (cs : List ByteArray) (rs : List TRow) (p : TRow → Bool) : (tabV cs (rs.filter p)).bk ≤ (tabV cs rs).bk := by
  rw [TValue.bk_eq, TValue.bk_eq]
  have := bkS_fil TRow.bk p rs
  simp only [tabV]; omega
theorem errV_bk (e : Int) : (errV e).bk = 0 := by rw [TValue.bk_eq]; simp [errV, bkS, sumBk]; rfl
theorem valid_tab {cs : List ByteArray} {rs : List TRow} (h : tableOk (tabV cs rs) = true) (hb : (tabV cs rs).bk ≤ 1048576) : Ev fun k => s_IsValidValue k (tabV cs rs) = some true ∧ i_IsValidValue k (tabV cs rs) = some true := by
  obtain ⟨b, h5, _, he⟩ := valid_ex _ hb
  rw [h5 rfl, tabB_ok h] at he
  exact he
theorem keepR_loop {α : Type} (xs : List α) (p : α → Bool) (B : α → List α → Option (List α)) (u : Nat → List α → Int → Option (List α)) (hB : ∀ x ∈ xs, ∀ out : List α, out.length ≤ xs.length → B x out = some (if p x then out ++ [x] else out))
    (hu : ∀ n out i, u (n + 1) out i = if (decide (i < (xs.length : Int))) = true then ((at? xs i).bind fun x => B x out).bind fun y => u n y (IntKind.i64.wrap (i + 1)) else some out)
    (hl : xs.length ≤ 1073741824) {k : Nat} (hk : xs.length < k) : u k [] 0 = some (xs.filter p) := by
  have := loopE (fun n (s : List α) i => u n s i) (fun i => (xs.take i).filter p) (some (xs.filter p)) xs.length
    (fun n i hi => by
      have h1 : ((xs.take i).filter p).length ≤ xs.length := Nat.le_trans (List.length_filter_le _ _) (by simp; omega)
      try simp only
      rw [hu, if_pos (lt_yes hi), at_in hi, Option.bind_some, hB _ (List.getElem_mem hi) _ h1, Option.bind_some, wS i (by omega), List.take_succ_eq_append_getElem hi, List.filter_append]
      congr 1
      cases hp : p xs[i] <;> simp [hp])
    (fun n => by rw [hu, if_neg (lt_no (Nat.le_refl _)), List.take_length]) hk
  simpa using this
end Go.Proofs.Ytbknilpmpjjfpaa
