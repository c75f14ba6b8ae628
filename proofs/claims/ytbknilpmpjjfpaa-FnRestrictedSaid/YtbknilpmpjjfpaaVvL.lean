/- Valid values: the program's and the reference's answers alike. -/
import Derived.Test.YtbknilpmpjjfpaaNuL
import Derived.Test.YtbknilpmpjjfpaaNmL
import Derived.Test.YtbknilpmpjjfpaaLs
import Derived.Test.YtbknilpmpjjfpaaTxL
import Derived.Test.YtbknilpmpjjfpaaMapL
import Derived.Test.YtbknilpmpjjfpaaMd2
import Derived.Test.YtbknilpmpjjfpaaMd3
import Derived.Test.YtbknilpmpjjfpaaMd4
import Derived.Test.YtbknilpmpjjfpaaMd5
set_option linter.unusedSimpArgs false
set_option linter.unusedVariables false
namespace Go.Proofs.Ytbknilpmpjjfpaa
open Go.RowKit Am
theorem anyI_loop {α ε : Type} (xs : List α) (t : Nat → α → Bool) (u : Nat → Int → Option ε) (yes no : Option ε)
    (hstep : ∀ n j (h : j < xs.length), t j xs[j] = false → u (n + 1) (j : Int) = u n ((j + 1 : Nat) : Int)) (hyes : ∀ n j (h : j < xs.length), t j xs[j] = true → u (n + 1) (j : Int) = yes) (hno : ∀ n, u (n + 1) (xs.length : Int) = no)
    {k : Nat} (hk : xs.length < k) : u k 0 = if anyI t 0 xs = true then yes else no := by
  have key : ∀ (m n i : Nat), i + m = xs.length → m < n → u n (i : Int) = if anyI t i (xs.drop i) = true then yes else no := by
    intro m
    induction m with
    | zero =>
      intro n i hi hn
      obtain ⟨n, rfl⟩ : ∃ j, n = j + 1 := ⟨n - 1, by omega⟩
      obtain rfl : i = xs.length := by omega
      rw [hno, List.drop_length]; rfl
    | succ m ih =>
      intro n i hi hn
      obtain ⟨n, rfl⟩ : ∃ j, n = j + 1 := ⟨n - 1, by omega⟩
      have hil : i < xs.length := by omega
      rw [List.drop_eq_getElem_cons hil]
      have e : anyI t i (xs[i] :: xs.drop (i + 1)) = (t i xs[i] || anyI t (i + 1) (xs.drop (i + 1))) := rfl
      rw [e]
      rcases Bool.eq_false_or_eq_true (t i xs[i]) with ht | ht
      · rw [hyes n i hil ht, ht]; simp
      · rw [hstep n i hil ht, ih n (i + 1) (by omega) (by omega), ht]; simp
  have := key xs.length k 0 (by omega) hk
  simpa using this
theorem any_loopP {α ε : Type} (xs : List α) (t : α → Bool) (u : Nat → Int → Option ε) (yes no : Option ε)
    (hstep : ∀ n j (h : j < xs.length), t xs[j] = false → u (n + 1) (j : Int) = u n ((j + 1 : Nat) : Int)) (hyes : ∀ n j (h : j < xs.length), t xs[j] = true → u (n + 1) (j : Int) = yes) (hno : ∀ n, u (n + 1) (xs.length : Int) = no)
    {k : Nat} (hk : xs.length < k) : u k 0 = if xs.any t = true then yes else no := by
  have h := anyI_loop xs (fun _ => t) u yes no hstep hyes hno hk
  have e : ∀ (ys : List α) i, anyI (fun _ => t) i ys = ys.any t := by
    intro ys
    induction ys with
    | nil => intro i; rfl
    | cons y ys ih => intro i; simp [anyI, ih]
  rw [h, e]
def before (y x : TOrigin) : Bool := decide (y.cell < x.cell) || (decide (y.cell = x.cell) && decide (y.row < x.row))
theorem s_before (y x : TOrigin) : s_l3Before y x = some (before y x) := by
  unfold s_l3Before before
  cases decide (y.cell < x.cell) <;> cases decide (y.cell = x.cell) <;> simp
theorem i_before (y x : TOrigin) : i_originBefore y x = some (before y x) := by
  unfold i_originBefore before
  cases decide (y.cell < x.cell) <;> cases decide (y.cell = x.cell) <;> simp
def ascBad (xs : List TOrigin) (j : Nat) (x : TOrigin) : Bool := decide (x.cell < 0) || decide (x.row < 0) || (decide (0 < j) && !(match xs[j - 1]? with | some y => before y x | none => true))
theorem asc_body (B : TOrigin → TOrigin → Option Bool) (hB : ∀ y x, B y x = some (before y x)) (xs : List TOrigin) (hl : xs.length ≤ 4294967296) (j : Nat) (h : j < xs.length) :
    (if decide (xs[j].cell < 0) = true then some true else if decide (xs[j].row < 0) = true then some true else if decide (0 < (j : Int)) = true then (at? xs (IntKind.i64.wrap ((j : Int) - 1))).bind fun x11 => (B x11 xs[j]).bind fun x12 => some (!x12) else some false) = some (ascBad xs j xs[j]) := by
  unfold ascBad
  by_cases h0 : 0 < j
  · have e : IntKind.i64.wrap ((j : Int) - 1) = ((j - 1 : Nat) : Int) := by rw [w64 (by omega) (by omega)]; omega
    have h1 : j - 1 < xs.length := by omega
    rw [e, at_in h1, List.getElem?_eq_getElem h1]
    cases decide (xs[j].cell < 0) <;> cases decide (xs[j].row < 0) <;> simp [h0, hB]
  · have : j = 0 := by omega
    subst this
    cases decide (xs[0].cell < 0) <;> cases decide (xs[0].row < 0) <;> simp
def ascOk (xs : List TOrigin) : Bool := !anyI (ascBad xs) 0 xs
theorem s_asc (xs : List TOrigin) (hl : xs.length ≤ 4294967296) {k : Nat} (hk : xs.length < k) : s_l3Ascending k xs = some (ascOk xs) := by
  unfold s_l3Ascending ascOk
  rw [any_loopI0 xs (ascBad xs) (fun i x3 => if decide (x3.cell < 0) = true then some true else if decide (x3.row < 0) = true then some true else if decide (0 < i) = true then (at? xs (IntKind.i64.wrap (i - 1))).bind fun x11 => (s_l3Before x11 x3).bind fun x12 => some (!x12) else some false) false () (s_l3Ascending_u1 xs)
    (fun j h => asc_body s_l3Before s_before xs hl j h) (fun n i => by rw [s_l3Ascending_u1]; simp only [Option.bind_assoc]) (by omega) hk]
  cases anyI (ascBad xs) 0 xs <;> rfl
def isNum (n : Int) : Bool := decide (-1000000000 ≤ n) && decide (n ≤ 1000000000)
theorem s_num (n : Int) : s_l3Number n = some (isNum n) := number_eq n
theorem i_num (n : Int) : i_isNumber n = some (isNum n) := number_eq_i n
-- columns
def dupAt (cs : List ByteArray) (j : Nat) (x : ByteArray) : Bool := (cs.take j).any fun y => decide (y = x)
def distinctB (cs : List ByteArray) : Bool := !anyI (dupAt cs) 0 cs
theorem s_has (cs : List ByteArray) (x : ByteArray) (hl : cs.length ≤ 4294967296) {k : Nat} (hk : cs.length < k) : s_l1Has k cs x = some (cs.any fun y => decide (y = x)) := by
  unfold s_l1Has
  rw [any_loop0 cs (fun y => decide (y = x)) (fun y => some (decide (y = x))) true () (s_l1Has_u1 cs x) (fun _ _ => rfl) (fun n i => by rw [s_l1Has_u1]; rfl) (by omega) hk]
  cases cs.any fun y => decide (y = x) <;> rfl
theorem i_index (cs : List ByteArray) (x : ByteArray) (hl : cs.length ≤ 4294967296) {k : Nat} (hk : cs.length < k) : i_IndexOf k cs x = some (find1 (fun y => decide (y = x)) cs) := by
  unfold i_IndexOf find1
  rw [find_loop cs (fun y => decide (y = x)) (i_IndexOf_u1 cs x) (fun i => some (.inr (i : Int))) (some (.inl ()))
    (fun n i h hp => by rw [i_IndexOf_u1, if_pos (lt_yes h), at_in h, Option.bind_some, if_neg (by simpa using hp), wS i (by omega)])
    (fun n i h hp => by rw [i_IndexOf_u1, if_pos (lt_yes h), at_in h, Option.bind_some, if_pos hp])
    (fun n => by rw [i_IndexOf_u1, if_neg (lt_no (Nat.le_refl _))]) hk]
  split <;> rfl
theorem first_at (cs : List ByteArray) (j : Nat) (h : j < cs.length) : decide (find1 (fun y => decide (y = cs[j])) cs = (j : Int)) = !dupAt cs j cs[j] := by
  have hlt : cs.findIdx (fun y => decide (y = cs[j])) < cs.length := List.findIdx_lt_length_of_exists ⟨cs[j], List.getElem_mem h, by simp⟩
  unfold find1 dupAt
  rw [if_pos hlt]
  have hle : cs.findIdx (fun y => decide (y = cs[j])) ≤ j := by
    rcases Nat.lt_or_ge j (cs.findIdx (fun y => decide (y = cs[j]))) with g | g
    · have := List.not_of_lt_findIdx g; simp at this
    · exact g
  cases hd : (cs.take j).any fun y => decide (y = cs[j]) with
  | true =>
    obtain ⟨y, hy, hyx⟩ := List.any_eq_true.1 hd
    obtain ⟨i, hi, rfl⟩ := List.mem_take_iff_getElem.1 hy
    have : cs.findIdx (fun y => decide (y = cs[j])) ≤ i := by
      rcases Nat.lt_or_ge i (cs.findIdx (fun y => decide (y = cs[j]))) with g | g
      · have := List.not_of_lt_findIdx g; simp at this hyx; exact absurd hyx this
      · exact g
    simp; omega
  | false =>
    have : ¬ cs.findIdx (fun y => decide (y = cs[j])) < j := by
      intro g
      have h1 := List.any_eq_false.1 hd (cs[cs.findIdx fun y => decide (y = cs[j])]) (List.mem_take_iff_getElem.2 ⟨_, by omega, rfl⟩)
      have h2 := List.findIdx_getElem (xs := cs) (p := fun y => decide (y = cs[j])) (w := hlt)
      exact h1 h2
    simp; omega
theorem s_distinct (cs : List ByteArray) (hl : cs.length ≤ 4294967296) {k : Nat} (hk : cs.length < k) : s_AllDistinct k cs = some (distinctB cs) := by
  unfold s_AllDistinct distinctB
  have hs : ∀ j : Nat, j < cs.length → sub? cs 0 (j : Int) = some (cs.take j) := fun j h => by
    unfold sub?
    rw [if_pos ⟨by omega, by omega, by omega⟩]; simp
  have hh : ∀ j (h : j < cs.length), s_l1Has k (cs.take j) cs[j] = some (dupAt cs j cs[j]) := fun j h => s_has (cs.take j) cs[j] (by simp; omega) (by simp; omega)
  rw [anyI_loop cs (dupAt cs) (s_AllDistinct_u1 k cs) (some (.inr false)) (some (.inl ()))
    (fun n j h ht => by rw [s_AllDistinct_u1, if_pos (lt_yes h), hs j h, Option.bind_some, at_in h, Option.bind_some, hh j h, Option.bind_some, ht, if_neg (by simp), wS j (by omega)])
    (fun n j h ht => by rw [s_AllDistinct_u1, if_pos (lt_yes h), hs j h, Option.bind_some, at_in h, Option.bind_some, hh j h, Option.bind_some, ht, if_pos rfl])
    (fun n => by rw [s_AllDistinct_u1, if_neg (lt_no (Nat.le_refl _))]) hk]
  cases anyI (dupAt cs) 0 cs <;> rfl
theorem i_distinct (cs : List ByteArray) (hl : cs.length ≤ 4294967296) {k : Nat} (hk : cs.length < k) : i_AllDistinct k cs = some (distinctB cs) := by
  unfold i_AllDistinct distinctB
  rw [anyI_loop cs (dupAt cs) (i_AllDistinct_u1 k cs) (some (.inr false)) (some (.inl ()))
    (fun n j h ht => by rw [i_AllDistinct_u1, if_pos (lt_yes h), at_in h, Option.bind_some, i_index cs _ hl hk, Option.bind_some, first_at cs j h, ht, if_neg (by simp), wS j (by omega)])
    (fun n j h ht => by rw [i_AllDistinct_u1, if_pos (lt_yes h), at_in h, Option.bind_some, i_index cs _ hl hk, Option.bind_some, first_at cs j h, ht]; rfl)
    (fun n => by rw [i_AllDistinct_u1, if_neg (lt_no (Nat.le_refl _))]) hk]
  cases anyI (dupAt cs) 0 cs <;> rfl
def colsOk (cs : List ByteArray) : Bool := !(cs.any fun s => !nameOk s) && (decide (1 ≤ (cs.length : Int)) && decide ((cs.length : Int) ≤ 4)) && distinctB cs
theorem colsOk_eq (cs : List ByteArray) (hl : cs.length ≤ 1048576) (hs : ∀ s ∈ cs, s.size ≤ 1048576) {k : Nat} (hk : 1048600 < k) : s_l3Columns k cs = some (colsOk cs) ∧ i_areColumns k cs = some (colsOk cs) := by
  have hn : ∀ s ∈ cs, s_IsValidName k s = some (nameOk s) ∧ i_IsValidName k s = some (nameOk s) := fun s h => validName s (by have := hs s h; omega) (by have := hs s h; omega) (by omega)
  constructor
  · unfold s_l3Columns colsOk
    rw [any_loop0 cs (fun s => !nameOk s) (fun s => (s_IsValidName k s).bind fun b => some (!b)) false () (s_l3Columns_u1 k cs) (fun s h => by rw [(hn s h).1]; rfl) (fun n i => by rw [s_l3Columns_u1]; simp only [Option.bind_assoc, Option.bind_some]) (by omega) (by omega)]
    simp only [l1In_eq, s_distinct cs (by omega) (show cs.length < k by omega), Option.bind_some]
    cases cs.any fun s => !nameOk s <;> cases decide (1 ≤ (cs.length : Int)) <;> cases decide ((cs.length : Int) ≤ 4) <;> simp
  · unfold i_areColumns colsOk
    rw [any_loop0 cs (fun s => !nameOk s) (fun s => (i_IsValidName k s).bind fun b => some (!b)) false () (i_areColumns_u1 k cs) (fun s h => by rw [(hn s h).2]; rfl) (fun n i => by rw [i_areColumns_u1]; simp only [Option.bind_assoc, Option.bind_some]) (by omega) (by omega)]
    simp only [within_eq, i_distinct cs (by omega) (show cs.length < k by omega), Option.bind_some]
    cases cs.any fun s => !nameOk s <;> cases decide (1 ≤ (cs.length : Int)) <;> cases decide ((cs.length : Int) ≤ 4) <;> simp
-- tables
def rowBad (nc : Nat) (r : TRow) : Bool := !decide ((r.cells.length : Int) = (nc : Int)) || !ascOk r.from_ || r.cells.any fun n => !isNum n
def tableOk (v : TValue) : Bool := colsOk v.columns && !decide (12 < (v.rows.length : Int)) && !v.rows.any (rowBad v.columns.length)
structure Small (v : TValue) : Prop where
  cols : v.columns.length ≤ 1048576
  names : ∀ s ∈ v.columns, s.size ≤ 1048576
  rows : v.rows.length ≤ 1048576
  cells : ∀ r ∈ v.rows, r.cells.length ≤ 1048576 ∧ r.from_.length ≤ 1048576
  list : v.list.length ≤ 1048576
  text : v.text.size ≤ 1048576
theorem TValue.small {v : TValue} (h : v.bk ≤ 1048576) : Small v := by
  have e := v.bk_eq
  have l1 := bkS_len (f := TValue.bk) (xs := v.list)
  have l2 := bkS_len (f := ByteArray.size) (xs := v.columns)
  have l3 := bkS_len (f := TRow.bk) (xs := v.rows)
  refine ⟨by omega, fun s hs => by have := bkS_get (f := ByteArray.size) hs; omega, by omega, fun r hr => ?_, by omega, by omega⟩
  have h1 := bkS_get (f := TRow.bk) hr
  have h2 := r.bk_eq
  have h3 := bkS_len (f := fun _ : Int => 0) (xs := r.cells)
  have h4 := bkS_len (f := fun _ : TOrigin => 0) (xs := r.from_)
  constructor <;> omega
theorem TValue.list_bk {v x : TValue} (h : x ∈ v.list) : x.bk ≤ v.bk := by rw [TValue.bk_eq v]; have := bkS_get (f := TValue.bk) h; omega
theorem tableOk_eq (v : TValue) (h : Small v) {k : Nat} (hk : 1048600 < k) : s_l3Table k v = some (tableOk v) ∧ i_isTable k v = some (tableOk v) := by
  obtain ⟨c1, c2⟩ := colsOk_eq v.columns h.cols h.names hk
  have l := h.rows
  constructor
  · unfold s_l3Table tableOk
    have cells : ∀ r ∈ v.rows, s_l3Table_u2 r k 0 = some (if (r.cells.any fun n => !isNum n) = true then .inr false else .inl ()) := fun r hr =>
      any_loop0 r.cells (fun n => !isNum n) (fun n => (s_l3Number n).bind fun b => some (!b)) false () (s_l3Table_u2 r) (fun n _ => by rw [s_num]; rfl) (fun n i => by rw [s_l3Table_u2]; simp only [Option.bind_assoc, Option.bind_some]) (by have := (h.cells r hr).1; omega) (by have := (h.cells r hr).1; omega)
    have asc : ∀ r ∈ v.rows, s_l3Ascending k r.from_ = some (ascOk r.from_) := fun r hr => s_asc r.from_ (by have := (h.cells r hr).2; omega) (by have := (h.cells r hr).2; omega)
    have hb : ∀ n j (hj : j < v.rows.length), s_l3Table_u1 k v (n + 1) (j : Int) = if rowBad v.columns.length v.rows[j] = true then some (.inr false) else s_l3Table_u1 k v n ((j + 1 : Nat) : Int) := fun n j hj => by
      rw [s_l3Table_u1, if_pos (lt_yes hj), at_in hj, Option.bind_some, asc _ (List.getElem_mem hj), cells _ (List.getElem_mem hj), wS j (by omega)]
      unfold rowBad
      cases decide ((v.rows[j].cells.length : Int) = (v.columns.length : Int)) <;> cases ascOk v.rows[j].from_ <;> cases v.rows[j].cells.any fun n => !isNum n <;> simp
    rw [any_loopP v.rows (rowBad v.columns.length) (s_l3Table_u1 k v) (some (.inr false)) (some (.inl ()))
      (fun n j hj ht => by rw [hb n j hj, ht, if_neg (by simp)]) (fun n j hj ht => by rw [hb n j hj, ht, if_pos rfl]) (fun n => by rw [s_l3Table_u1, if_neg (lt_no (Nat.le_refl _))]) (by omega), c1]
    cases colsOk v.columns <;> cases decide (12 < (v.rows.length : Int)) <;> cases v.rows.any (rowBad v.columns.length) <;> simp
  · unfold i_isTable tableOk
    have cells : ∀ r ∈ v.rows, i_isTable_u2 r k 0 = some (if (r.cells.any fun n => !isNum n) = true then .inr false else .inl ()) := fun r hr =>
      any_loop0 r.cells (fun n => !isNum n) (fun n => (i_isNumber n).bind fun b => some (!b)) false () (i_isTable_u2 r) (fun n _ => by rw [i_num]; rfl) (fun n i => by rw [i_isTable_u2]; simp only [Option.bind_assoc, Option.bind_some]) (by have := (h.cells r hr).1; omega) (by have := (h.cells r hr).1; omega)
    have asc : ∀ r ∈ v.rows, i_isTable_u3 r k 0 = some (if ascOk r.from_ = true then .inl () else .inr false) := fun r hr => by
      have := any_loopI0 r.from_ (ascBad r.from_) (fun i x3 => if decide (x3.cell < 0) = true then some true else if decide (x3.row < 0) = true then some true else if decide (0 < i) = true then (at? r.from_ (IntKind.i64.wrap (i - 1))).bind fun x11 => (i_originBefore x11 x3).bind fun x12 => some (!x12) else some false) false () (i_isTable_u3 r)
        (fun j hj => asc_body i_originBefore i_before r.from_ (by have := (h.cells r hr).2; omega) j hj) (fun n i => by rw [i_isTable_u3]) (by have := (h.cells r hr).2; omega) (k := k) (by have := (h.cells r hr).2; omega)
      rw [this]; unfold ascOk
      cases anyI (ascBad r.from_) 0 r.from_ <;> rfl
    have hb : ∀ n j (hj : j < v.rows.length), i_isTable_u1 k v (n + 1) (j : Int) = if rowBad v.columns.length v.rows[j] = true then some (.inr false) else i_isTable_u1 k v n ((j + 1 : Nat) : Int) := fun n j hj => by
      rw [i_isTable_u1, if_pos (lt_yes hj), at_in hj, Option.bind_some, asc _ (List.getElem_mem hj), cells _ (List.getElem_mem hj), wS j (by omega)]
      unfold rowBad
      cases decide ((v.rows[j].cells.length : Int) = (v.columns.length : Int)) <;> cases ascOk v.rows[j].from_ <;> cases v.rows[j].cells.any fun n => !isNum n <;> simp
    rw [any_loopP v.rows (rowBad v.columns.length) (i_isTable_u1 k v) (some (.inr false)) (some (.inl ()))
      (fun n j hj ht => by rw [hb n j hj, ht, if_neg (by simp)]) (fun n j hj ht => by rw [hb n j hj, ht, if_pos rfl]) (fun n => by rw [i_isTable_u1, if_neg (lt_no (Nat.le_refl _))]) (by omega), c2]
    cases colsOk v.columns <;> cases decide (12 < (v.rows.length : Int)) <;> cases v.rows.any (rowBad v.columns.length) <;> simp
-- the whole tree
theorem fold_loop {α σ : Type} (xs : List α) (F : σ → α → σ) (G : σ → α → Option σ) (z : σ) (u : Nat → σ → Int → Option σ) (hG : ∀ s, ∀ x ∈ xs, G s x = some (F s x))
    (hu : ∀ n s i, u (n + 1) s i = if decide (i < (xs.length : Int)) = true then (at? xs i).bind fun x => (G s x).bind fun y => u n y (IntKind.i64.wrap (i + 1)) else some s) (hl : xs.length ≤ 4294967296) {k : Nat} (hk : xs.length < k) : u k z 0 = some (xs.foldl F z) := by
  have := loopE u (fun i => (xs.take i).foldl F z) (some (xs.foldl F z)) xs.length
    (fun n i hi => by
      rw [hu, if_pos (lt_yes hi), at_in hi, Option.bind_some, hG _ _ (List.getElem_mem hi), Option.bind_some, wS i (by omega), List.take_succ_eq_append_getElem hi, List.foldl_append]
      rfl)
    (fun n => by rw [hu, if_neg (lt_no (Nat.le_refl _)), List.take_length]) hk
  simpa using this
theorem s_max (a b : Int) : s_l1Max a b = some (if b > a then b else a) := by
  unfold s_l1Max
  by_cases h : b < a
  · rw [if_pos (by simpa using h), if_neg (by omega)]
  · rw [if_neg (by simpa using h)]
    split <;> first | rfl | (congr 1; omega)
theorem depth_same : ∀ v : TValue, v.bk ≤ 1048576 → ∃ d, Ev fun k => s_DepthOf k v = some d ∧ i_DepthOf k v = some d := by
  refine TValue.ind fun v ih hb => ?_
  have l := (TValue.small hb).list
  obtain ⟨d, hd⟩ := choose_mem v.list (p := fun x d => Ev fun k => s_DepthOf k x = some d ∧ i_DepthOf k x = some d) fun y hy => ih y hy (by have := TValue.list_bk hy; omega)
  refine ⟨IntKind.i64.wrap (v.list.foldl (fun a x => if d x > a then d x else a) 0 + 1), (((Ev.all v.list hd).and (Ev.ge (v.list.length + 1))).pred ?_)⟩
  rintro k ⟨hx, hk⟩
  constructor
  · rw [s_DepthOf, fold_loop v.list (fun a x => if d x > a then d x else a) (fun s x => (s_DepthOf k x).bind fun y => s_l1Max s y) 0 (s_DepthOf_u1 (s_DepthOf k) v) (fun s x h => by rw [(hx x h).1, Option.bind_some, s_max]) (fun n s i => by rw [s_DepthOf_u1]; simp only [Option.bind_assoc]) (by omega) (by omega)]
    rfl
  · rw [i_DepthOf, fold_loop v.list (fun a x => if d x > a then d x else a) (fun s x => (i_DepthOf k x).bind fun y => some (if y > s then y else s)) 0 (i_DepthOf_u1 (i_DepthOf k) v) (fun s x h => by rw [(hx x h).2, Option.bind_some]) (fun n s i => by rw [i_DepthOf_u1]; simp only [Option.bind_assoc, Option.bind_some]) (by omega) (by omega)]
    rfl
def elOk (x : TValue) : Bool := decide (x.kind = 1) || decide (x.kind = 2) || decide (x.kind = 3)
def listOk (b : TValue → Bool) (d : Int) (v : TValue) : Bool := !(v.list.any fun x => !(elOk x && b x)) && (decide ((v.list.length : Int) ≤ 8) && decide (d ≤ 3))
def textOk (s : ByteArray) : Bool := !(s.data.toList.any badText) && decide ((s.size : Int) ≤ 20)
def validCore (b : TValue → Bool) (d : Int) (v : TValue) : Bool :=
  let L := decide ((v.list.length : Int) = 0)
  let C := decide ((v.columns.length : Int) = 0) && decide ((v.rows.length : Int) = 0)
  let T := decide (v.text = (⟨#[]⟩ : ByteArray))
  let N := decide (v.n = 0)
  let S := decide (v.step = 0)
  if v.kind = 1 then L && C && S && T && isNum v.n
  else if v.kind = 2 then L && C && N && S && textOk v.text
  else if v.kind = 3 then C && N && S && T && listOk b d v
  else if v.kind = 4 then L && C && T && isNum v.n && isNum v.step
  else if v.kind = 5 then L && N && S && T && tableOk v
  else if v.kind = 6 then L && C && S && T && (decide (1 ≤ v.n) && decide (v.n ≤ 8))
  else false
theorem some_pos (n : Nat) : decide (0 < (n : Int)) = !decide ((n : Int) = 0) := by
  cases n with
  | zero => rfl
  | succ n => simp; omega
theorem two_pos (m n : Nat) (hm : m ≤ 1048576) (hn : n ≤ 1048576) : decide (0 < IntKind.i64.wrap ((m : Int) + (n : Int))) = !(decide ((m : Int) = 0) && decide ((n : Int) = 0)) := by
  rw [w64 (by omega) (by omega)]
  cases m with
  | zero => rw [Int.natCast_zero, Int.zero_add, some_pos]; simp
  | succ m =>
    have e1 : decide (0 < (((m + 1 : Nat) : Int)) + (n : Int)) = true := by simp; omega
    have e2 : decide (((m + 1 : Nat) : Int) = 0) = false := by simp; omega
    rw [e1, e2]; rfl
theorem s_list_eq (b : TValue → Bool) (d : Int) (v : TValue) (hl : v.list.length ≤ 1048576) {k : Nat} (hk : v.list.length < k) (hb : ∀ x ∈ v.list, s_IsValidValue k x = some (b x)) (hd : s_DepthOf k v = some d) : s_l3List (k + 1) v = some (listOk b d v) := by
  rw [s_l3List, any_loop0 v.list (fun x => !(elOk x && b x)) (fun x => (s_l3Element x).bind fun x4 => if (!x4) = true then some true else (s_IsValidValue k x).bind fun x5 => some (!x5)) false () (s_l3List_u1 (s_IsValidValue k) v)
    (fun x h => by
      rw [hb x h]
      unfold s_l3Element elOk
      cases decide (x.kind = 1) <;> cases decide (x.kind = 2) <;> cases decide (x.kind = 3) <;> cases b x <;> rfl)
    (fun n i => by rw [s_l3List_u1]; simp only [Option.bind_assoc]) (by omega) (by omega)]
  unfold listOk
  rw [hd]
  cases v.list.any fun x => !(elOk x && b x) <;> cases decide ((v.list.length : Int) ≤ 8) <;> simp
theorem s_valid_eq (b : TValue → Bool) (d : Int) (v : TValue) (sm : Small v) {k : Nat} (hk : 1048700 < k) (hl : v.kind = 3 → s_l3List k v = some (listOk b d v)) : s_IsValidValue (k + 1) v = some (validCore b d v) := by
  have ht := (validText v.text (by have := sm.text; omega) (k := k) (by have := sm.text; omega)).1
  have hT := (tableOk_eq v sm (k := k) (by omega)).1
  have htx : (!(v.text.data.toList.any badText) && decide ((v.text.size : Int) ≤ 20)) = textOk v.text := rfl
  rw [htx] at ht
  rw [s_IsValidValue]
  simp only [s_num, ht, hT, l1In_eq, Option.bind_some, some_pos, two_pos _ _ sm.cols sm.rows]
  unfold validCore
  generalize decide ((v.list.length : Int) = 0) = L
  generalize decide ((v.columns.length : Int) = 0) = C1
  generalize decide ((v.rows.length : Int) = 0) = C2
  generalize decide (v.text = (⟨#[]⟩ : ByteArray)) = T
  generalize decide (v.n = 0) = N
  generalize decide (v.step = 0) = S
  generalize isNum v.n = I
  generalize isNum v.step = J
  generalize textOk v.text = X
  generalize tableOk v = Y
  generalize (decide (1 ≤ v.n) && decide (v.n ≤ 8)) = Z
  by_cases h1 : v.kind = 1
  · simp only [h1]; cases L <;> cases C1 <;> cases C2 <;> cases T <;> cases S <;> rfl
  by_cases h2 : v.kind = 2
  · simp only [h2]; cases L <;> cases C1 <;> cases C2 <;> cases N <;> cases S <;> rfl
  by_cases h3 : v.kind = 3
  · rw [hl h3]
    simp only [h3, Option.bind_some]
    generalize listOk b d v = Q
    cases C1 <;> cases C2 <;> cases T <;> cases N <;> cases S <;> rfl
  by_cases h4 : v.kind = 4
  · simp only [h4]; cases L <;> cases C1 <;> cases C2 <;> cases T <;> cases I <;> cases J <;> rfl
  by_cases h5 : v.kind = 5
  · simp only [h5]; cases L <;> cases T <;> cases N <;> cases S <;> rfl
  by_cases h6 : v.kind = 6
  · simp only [h6]; cases L <;> cases C1 <;> cases C2 <;> cases T <;> cases S <;> rfl
  simp only [h1, h2, h3, h4, h5, h6, decide_false, if_false, Bool.not_false, if_true]
  cases L <;> cases C1 <;> cases C2 <;> cases T <;> cases S <;> rfl
theorem i_valid_eq (b : TValue → Bool) (d : Int) (v : TValue) (sm : Small v) {k : Nat} (hk : 1048700 < k) (hb : ∀ x ∈ v.list, i_IsValidValue k x = some (b x)) (hd : i_DepthOf k v = some d) : i_IsValidValue (k + 1) v = some (validCore b d v) := by
  have ht := (validText v.text (by have := sm.text; omega) (k := k) (by have := sm.text; omega)).2
  have hT := (tableOk_eq v sm (k := k) (by omega)).2
  have htx : (!(v.text.data.toList.any badText) && decide ((v.text.size : Int) ≤ 20)) = textOk v.text := rfl
  rw [htx] at ht
  have hloop := any_loop0 v.list (fun x => !(elOk x && b x)) (fun x14 => if (!decide (x14.kind = 1)) = true then if (!decide (x14.kind = 2)) = true then if (!decide (x14.kind = 3)) = true then some true else (i_IsValidValue k x14).bind fun x16 => some (!x16) else (i_IsValidValue k x14).bind fun x17 => some (!x17) else (i_IsValidValue k x14).bind fun x18 => some (!x18)) false () (i_IsValidValue_u1 (i_IsValidValue k) v)
    (fun x h => by
      rw [hb x h]
      unfold elOk
      cases decide (x.kind = 1) <;> cases decide (x.kind = 2) <;> cases decide (x.kind = 3) <;> cases b x <;> rfl)
    (fun n i => by rw [i_IsValidValue_u1]) (by have := sm.list; omega) (k := k) (by have := sm.list; omega)
  rw [i_IsValidValue]
  simp only [i_num, ht, hT, hd, within_eq, Option.bind_some, hloop]
  unfold validCore listOk
  generalize decide ((v.list.length : Int) = 0) = L
  generalize decide ((v.columns.length : Int) = 0) = C1
  generalize decide ((v.rows.length : Int) = 0) = C2
  generalize decide (v.text = (⟨#[]⟩ : ByteArray)) = T
  generalize decide (v.n = 0) = N
  generalize decide (v.step = 0) = S
  generalize isNum v.n = I
  generalize isNum v.step = J
  generalize textOk v.text = X
  generalize tableOk v = Y
  generalize (decide (1 ≤ v.n) && decide (v.n ≤ 8)) = Z
  generalize (v.list.any fun x => !(elOk x && b x)) = A
  generalize decide ((v.list.length : Int) ≤ 8) = B8
  generalize decide (d ≤ 3) = D3
  by_cases h1 : v.kind = 1
  · simp only [h1]; cases L <;> cases C1 <;> cases C2 <;> cases T <;> cases S <;> rfl
  by_cases h2 : v.kind = 2
  · simp only [h2]; cases L <;> cases C1 <;> cases C2 <;> cases N <;> cases S <;> rfl
  by_cases h3 : v.kind = 3
  · simp only [h3]; cases L <;> cases A <;> cases B8 <;> cases C1 <;> cases C2 <;> cases T <;> cases N <;> cases S <;> rfl
  by_cases h4 : v.kind = 4
  · simp only [h4]; cases L <;> cases C1 <;> cases C2 <;> cases T <;> cases I <;> cases J <;> rfl
  by_cases h5 : v.kind = 5
  · simp only [h5]; cases L <;> cases C1 <;> cases C2 <;> cases T <;> cases N <;> cases S <;> rfl
  by_cases h6 : v.kind = 6
  · simp only [h6]; cases L <;> cases C1 <;> cases C2 <;> cases T <;> cases S <;> rfl
  simp only [h1, h2, h3, h4, h5, h6, decide_false, if_false]
  cases L <;> cases C1 <;> cases C2 <;> rfl
structure VOk (v : TValue) : Prop where
  num : v.kind = 1 → isNum v.n = true
  els : v.kind = 3 → ∀ x ∈ v.list, x.kind = 1 → isNum x.n = true
  tab : v.kind = 5 → tableOk v = true
theorem valid_same : ∀ v : TValue, v.bk ≤ 1048576 → ∃ b : Bool, (b = true → VOk v) ∧ Ev fun k => s_IsValidValue k v = some b ∧ i_IsValidValue k v = some b := by
  refine TValue.ind fun v ih hb => ?_
  have sm := TValue.small hb
  have hl := sm.list
  obtain ⟨b, hbv⟩ := choose_mem v.list (p := fun x (b : Bool) => (b = true → VOk x) ∧ Ev fun k => s_IsValidValue k x = some b ∧ i_IsValidValue k x = some b) fun y hy => ih y hy (by have := TValue.list_bk hy; omega)
  obtain ⟨d, hd⟩ := depth_same v hb
  have hall := Ev.all v.list fun x hx => (hbv x hx).2
  have e1 : Ev fun k => s_l3List k v = some (listOk b d v) := ((hall.and (hd.and (Ev.ge 1048700))).pred fun k ⟨h1, h2, h3⟩ => s_list_eq b d v hl (by omega) (fun x hx => (h1 x hx).1) h2.1)
  refine ⟨validCore b d v, fun hv => ?_, ((hall.and (hd.and (e1.and (Ev.ge 1048701)))).pred fun k ⟨h1, h2, h3, h4⟩ => ⟨s_valid_eq b d v sm (by omega) fun _ => h3, i_valid_eq b d v sm (by omega) (fun x hx => (h1 x hx).2) h2.2⟩)⟩
  unfold validCore at hv
  refine ⟨fun hk => ?_, fun hk x hx hk1 => ?_, fun hk => ?_⟩
  · simp only [hk] at hv
    simp only [if_true, Bool.and_eq_true] at hv
    exact hv.2
  · simp only [hk] at hv
    simp [listOk] at hv
    exact ((hbv x hx).1 (hv.2.1 x hx).2).num hk1
  · simp only [hk] at hv
    simp at hv
    exact hv.2
end Go.Proofs.Ytbknilpmpjjfpaa
