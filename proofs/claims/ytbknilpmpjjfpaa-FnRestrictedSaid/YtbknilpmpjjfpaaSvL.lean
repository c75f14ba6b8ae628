/- A value is equal to itself; a table has its own rows; when a table is valid. -/
import Derived.Test.YtbknilpmpjjfpaaVvL
import Derived.Test.YtbknilpmpjjfpaaCvL
import Derived.Test.YtbknilpmpjjfpaaMd4
import Derived.Test.YtbknilpmpjjfpaaMd6
import Derived.Test.YtbknilpmpjjfpaaMd7
set_option linter.unusedSimpArgs false
set_option linter.unusedVariables false
namespace Go.Proofs.Ytbknilpmpjjfpaa
open Go.RowKit Am
theorem self_loop {ε : Type} (n : Nat) (hl : n ≤ 1048576) (u : Nat → Int → Option ε) (r : Option ε) (hs : ∀ m i : Nat, i < n → u (m + 1) (i : Int) = u m ((i + 1 : Nat) : Int)) (he : ∀ m, u (m + 1) (n : Int) = r) {k : Nat} (hk : n < k) : u k 0 = r := by
  have := loopE (fun m (_ : Unit) i => u m i) (fun _ => ()) r n (fun m i hi => hs m i hi) (fun m => he m) hk
  simpa using this
theorem texts_refl (xs : List ByteArray) (hl : xs.length ≤ 1048576) {k : Nat} (hk : 1048600 < k) : s_l3Texts k xs xs = some true := by
  unfold s_l3Texts
  rw [self_loop xs.length hl (s_l3Texts_u1 xs xs) (some (.inl ())) (fun m i hi => by rw [s_l3Texts_u1, if_pos (lt_yes hi), at_in hi]; simp [wS i (by omega)]) (fun m => by rw [s_l3Texts_u1, if_neg (lt_no (Nat.le_refl _))]) (by omega)]
  simp
theorem ints_refl (xs : List Int) (hl : xs.length ≤ 1048576) {k : Nat} (hk : 1048600 < k) : s_l1Ints k xs xs = some true := by
  unfold s_l1Ints
  rw [self_loop xs.length hl (s_l1Ints_u1 xs xs) (some (.inl ())) (fun m i hi => by rw [s_l1Ints_u1, if_pos (lt_yes hi), at_in hi]; simp [wS i (by omega)]) (fun m => by rw [s_l1Ints_u1, if_neg (lt_no (Nat.le_refl _))]) (by omega)]
  simp
theorem origins_refl (xs : List TOrigin) (hl : xs.length ≤ 1048576) {k : Nat} (hk : 1048600 < k) : s_l3Origins k xs xs = some true := by
  unfold s_l3Origins
  rw [self_loop xs.length hl (s_l3Origins_u1 xs xs) (some (.inl ())) (fun m i hi => by rw [s_l3Origins_u1, if_pos (lt_yes hi), at_in hi]; simp [wS i (by omega)]) (fun m => by rw [s_l3Origins_u1, if_neg (lt_no (Nat.le_refl _))]) (by omega)]
  simp
theorem row_lens {v : TValue} {r : TRow} (hr : r ∈ v.rows) : r.bk ≤ v.bk := by
  rw [TValue.bk_eq v]; have := bkS_get (f := TRow.bk) hr; omega
theorem same_refl : ∀ v : TValue, v.bk ≤ 1048576 → Ev fun k => s_l3Same k v v true = some true := by
  refine TValue.ind fun v ih hb => ?_
  have sm := TValue.small hb
  have hall := Ev.all (p := fun x k => s_l3Same k x x true = some true) v.list fun x hx => ih x hx (by have := TValue.list_bk hx; omega)
  refine (hall.and (Ev.ge 1048701)).pred fun k ⟨h1, h2⟩ => ?_
  have hl := sm.list
  have hr := sm.rows
  have hc := sm.cols
  rw [s_l3Same]
  rw [self_loop v.list.length hl (s_l3Same_u1 (s_l3Same k) v v true) (some (.inl ())) (fun m i hi => by rw [s_l3Same_u1, if_pos (lt_yes hi), at_in hi]; simp [h1 _ (List.getElem_mem hi), wS i (by omega)]) (fun m => by rw [s_l3Same_u1, if_neg (lt_no (Nat.le_refl _))]) (by omega)]
  rw [self_loop v.rows.length hr (s_l3Same_u2 k v v true) (some (.inl ())) (fun m i hi => by
    have hb := row_lens (List.getElem_mem hi)
    have hL := TRow.lensB v.rows[i]
    rw [s_l3Same_u2, if_pos (lt_yes hi), at_in hi]
    simp [ints_refl v.rows[i].cells (by omega) (k := k) (by omega), origins_refl v.rows[i].from_ (by omega) (k := k) (by omega), wS i (by omega)]) (fun m => by rw [s_l3Same_u2, if_neg (lt_no (Nat.le_refl _))]) (by omega)]
  simp [texts_refl v.columns hc (k := k) (by omega)]
theorem equal_refl (v : TValue) (hb : v.bk ≤ 1048576) : Ev fun k => s_EqualValue k v v = some true :=
  (same_refl v hb).mono fun k h => by unfold s_EqualValue; rw [h]; rfl
theorem ints_some (xs ys : List Int) (hl : xs.length ≤ 1048576) {k : Nat} (hk : 1048600 < k) : ∃ b, s_l1Ints k xs ys = some b := by
  unfold s_l1Ints
  exact ⟨_, same_law xs ys (fun x y => decide (x = y)) (fun x y => some (!decide (x = y))) (s_l1Ints_u1 xs ys) (fun _ _ _ _ => rfl) (fun n i => by rw [s_l1Ints_u1]; rfl) (by omega) (by omega)⟩
theorem origins_some (xs ys : List TOrigin) (hl : xs.length ≤ 1048576) {k : Nat} (hk : 1048600 < k) : ∃ b, s_l3Origins k xs ys = some b := by
  unfold s_l3Origins
  exact ⟨_, same_law xs ys (fun x y => decide (x.cell = y.cell) && decide (x.row = y.row)) (fun x y => some (!(decide (x.cell = y.cell) && decide (x.row = y.row)))) (s_l3Origins_u1 xs ys) (fun _ _ _ _ => rfl) (fun n i => by rw [s_l3Origins_u1]; rfl) (by omega) (by omega)⟩
theorem hasRow_mem (t : TValue) (bt : t.bk ≤ 1048576) (r : TRow) (hr : r ∈ t.rows) : Ev fun k => s_HasRow k t r = some true := by
  refine (Ev.ge 1048701).mono fun k hk => ?_
  have sm := TValue.small bt
  have hrl := sm.rows
  have hL := TRow.lensB r
  have hrb := row_lens hr
  have key : ∀ (m n i : Nat), i + m = t.rows.length → m < n → r ∈ t.rows.drop i → s_HasRow_u1 k t r n (i : Int) = some (.inr true) := by
    intro m
    induction m with
    | zero => intro n i hi _ hm; rw [show i = t.rows.length by omega, List.drop_length] at hm; simp at hm
    | succ m ih =>
      intro n i hi hn hm
      obtain ⟨n, rfl⟩ : ∃ j, n = j + 1 := ⟨n - 1, by omega⟩
      have hil : i < t.rows.length := by omega
      have hxb := row_lens (List.getElem_mem hil)
      have hxl := TRow.lensB t.rows[i]
      rw [s_HasRow_u1, if_pos (lt_yes hil), at_in hil, Option.bind_some]
      obtain ⟨b1, e1⟩ := ints_some t.rows[i].cells r.cells (by omega) (k := k) (by omega)
      obtain ⟨b2, e2⟩ := origins_some t.rows[i].from_ r.from_ (by omega) (k := k) (by omega)
      rw [e1, Option.bind_some, e2]
      by_cases hx : t.rows[i] = r
      · rw [hx] at e1 e2
        rw [ints_refl r.cells (by omega) (by omega)] at e1
        rw [origins_refl r.from_ (by omega) (by omega)] at e2
        obtain rfl := Option.some.inj e1
        obtain rfl := Option.some.inj e2
        rfl
      · have hm' : r ∈ t.rows.drop (i + 1) := by
          rw [List.drop_eq_getElem_cons hil] at hm
          rcases List.mem_cons.1 hm with e | e
          · exact absurd e.symm hx
          · exact e
        have := ih n (i + 1) (by omega) (by omega) hm'
        rw [show ((i + 1 : Nat) : Int) = (i : Int) + 1 by omega] at this
        cases b1 <;> cases b2 <;> simp [wS i (by omega), this]
  unfold s_HasRow
  have := key t.rows.length k 0 (by omega) (by omega) (by simpa using hr)
  rw [show ((0 : Nat) : Int) = 0 from rfl] at this
  rw [this]
  rfl
end Go.Proofs.Ytbknilpmpjjfpaa
