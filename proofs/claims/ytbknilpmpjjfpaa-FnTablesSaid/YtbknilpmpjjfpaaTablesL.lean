/- FnTables: the rows that WhereEqual picks out of a drawn table: the mirrored law answers true. -/
import Derived.Test.YtbknilpmpjjfpaaOpL
import Derived.Test.YtbknilpmpjjfpaaTbL
import Derived.Test.YtbknilpmpjjfpaaLaFnTables
import Derived.Test.YtbknilpmpjjfpaaMd5
import Derived.Test.YtbknilpmpjjfpaaMd6
import Derived.Test.YtbknilpmpjjfpaaMd7
set_option linter.unusedSimpArgs false
set_option linter.unusedVariables false
namespace Go.Proofs.Ytbknilpmpjjfpaa
open Go.RowKit Am
def cellT (i : Int) (r : TRow) : Int := r.cells.getD i.toNat 0
theorem at_cellT {i : Int} {r : TRow} (h0 : 0 ≤ i) (h1 : i < r.cells.length) : at? r.cells i = some (cellT i r) := by
  unfold at? cellT
  rw [if_pos h0, List.getD_eq_getElem?_getD, List.getElem?_eq_getElem (by omega)]; rfl
theorem rowT_ok {v : TValue} (ht : tableOk v = true) {r : TRow} (hr : r ∈ v.rows) : (r.cells.length : Int) = v.columns.length := by
  unfold tableOk at ht
  simp only [Bool.and_eq_true, Bool.not_eq_true'] at ht
  have := List.any_eq_false.1 ht.2 r hr
  unfold rowBad at this
  simp only [Bool.or_eq_true, not_or, Bool.not_eq_true', Bool.not_eq_true, List.any_eq_false, Bool.not_eq_false'] at this
  simpa using this.1.1
def colT (v : TValue) (x : ByteArray) : Int := find1 (fun y => decide (y = x)) v.columns
def isT (i n : Int) (r : TRow) : Bool := decide (cellT i r = n)
theorem where_rows (n t : TValue) (i : Int) (h0 : 0 ≤ i) (hc : ∀ r ∈ t.rows, i < r.cells.length) (hb : t.bk ≤ 1048576) {k : Nat} (hk : 1048700 < k) :
    s_WhereEqual_u1 n t i k [] 0 = some (t.rows.filter (isT i n.n)) ∧ i_WhereEqual_u1 n t i k [] 0 = some (t.rows.filter (isT i n.n)) := by
  have hl := (TValue.small hb).rows
  have hr : ∀ x ∈ t.rows, x.bk ≤ 1073741824 := fun x hx => by have := row_lens hx; omega
  constructor
  · refine keepR_loop t.rows (isT i n.n) (fun x out => (at? x.cells i).bind fun y => if decide (y = n.n) = true then (s_l3Row x).bind fun z => (app? 48 out [z]).bind fun w => some w else some out) (s_WhereEqual_u1 n t i) (fun x hx out ho => ?_) (fun n' out j => by rw [s_WhereEqual_u1]) (by omega) (by omega)
    rw [at_cellT h0 (hc x hx), Option.bind_some, s_rowCopy x (hr x hx), Option.bind_some, app_big (by simp; omega) (by omega)]
    unfold isT
    cases decide (cellT i x = n.n) <;> rfl
  · refine keepR_loop t.rows (isT i n.n) (fun x out => (at? x.cells i).bind fun y => if decide (y = n.n) = true then (i_copyRow x).bind fun z => (app? 48 out [z]).bind fun w => some w else some out) (i_WhereEqual_u1 n t i) (fun x hx out ho => ?_) (fun n' out j => by rw [i_WhereEqual_u1]) (by omega) (by omega)
    rw [at_cellT h0 (hc x hx), Option.bind_some, i_rowCopy x (hr x hx), Option.bind_some, app_big (by simp; omega) (by omega)]
    unfold isT
    cases decide (cellT i x = n.n) <;> rfl
theorem s_col (v : TValue) (hb : v.bk ≤ 1048576) (x : ByteArray) {k : Nat} (hk : 1048700 < k) : s_ColumnIndex k v x = some (colT v x) := by
  have hcl := (TValue.small hb).cols
  unfold s_ColumnIndex; rw [s_index _ _ (by omega) (by omega)]; rfl
theorem i_col (v : TValue) (hb : v.bk ≤ 1048576) (x : ByteArray) {k : Nat} (hk : 1048700 < k) : i_ColumnIndex k v x = some (colT v x) := by
  have hcl := (TValue.small hb).cols
  unfold i_ColumnIndex; rw [i_index _ _ (by omega) (by omega)]; rfl
def whereV (b : TValue → Bool) (a n t : TValue) : TValue := match chkE b [a, n, t] [2, 1, 5] with
  | some e => e
  | none => if colT t a.text < 0 then errV 7 else tabV t.columns (t.rows.filter (isT (colT t a.text) n.n))
theorem chk_table {b : TValue → Bool} {a n t : TValue} (h : chkE b [a, n, t] [2, 1, 5] = none) : (b a = true ∧ a.kind = 2) ∧ (b n = true ∧ n.kind = 1) ∧ b t = true ∧ t.kind = 5 := by
  unfold chkE at h
  split at h
  · cases h
  · rename_i h1
    have := firstE_none h1
    have ha := this a (by simp)
    have hn := this n (by simp)
    have ht := this t (by simp)
    simp only [kindsE] at h
    split at h
    · split at h
      · split at h
        · exact ⟨⟨ha.1, by assumption⟩, ⟨hn.1, by assumption⟩, ht.1, by assumption⟩
        · cases h
      · cases h
    · cases h
theorem chk_none {b : TValue → Bool} {a n t : TValue} (ha : b a = true ∧ a.kind = 2) (hn : b n = true ∧ n.kind = 1) (ht : b t = true ∧ t.kind = 5) : chkE b [a, n, t] [2, 1, 5] = none := by
  unfold chkE
  rw [firstE_no (xs := [a, n, t]) (by
    intro x hx
    simp only [List.mem_cons, List.not_mem_nil, or_false] at hx
    rcases hx with rfl | rfl | rfl
    · exact ⟨ha.1, by omega⟩
    · exact ⟨hn.1, by omega⟩
    · exact ⟨ht.1, by omega⟩)]
  simp [kindsE, ha.2, hn.2, ht.2]
structure Val (b : TValue → Bool) (k : Nat) (x : TValue) : Prop where
  s : s_IsValidValue k x = some (b x)
  i : i_IsValidValue k x = some (b x)
  tab : x.kind = 5 → b x = tabB x
  err : x.kind = 6 → b x = errB x
theorem where_eq (b : TValue → Bool) (a n t : TValue) (hb : t.bk ≤ 1048576) {k : Nat} (hk : 1048701 ≤ k) (va : Val b k a) (vn : Val b k n) (vt : Val b k t) : s_WhereEqual k a n t = some (whereV b a n t) ∧ i_WhereEqual k a n t = some (whereV b a n t) := by
  have hs : ∀ x ∈ [a, n, t], Val b k x := by
    intro x hx
    simp only [List.mem_cons, List.not_mem_nil, or_false] at hx
    rcases hx with rfl | rfl | rfl <;> assumption
  have he : ∀ x ∈ [a, n, t], b x = true → x.kind = 6 → x = errV x.n := fun x hx h1 h6 => (errB_eq h6 (((hs x hx).err h6).symm.trans h1)).1
  have c1 := s_check [a, n, t] [2, 1, 5] (by simp) rfl b (k := k) (by omega) fun x hx => (hs x hx).s
  have c2 := i_check [a, n, t] [2, 1, 5] (by simp) rfl b (k := k) (by omega) (fun x hx => (hs x hx).i) he
  unfold s_WhereEqual i_WhereEqual whereV
  rw [c1, c2, Option.bind_some, Option.bind_some]
  cases hc : chkE b [a, n, t] [2, 1, 5] with
  | some e => exact ⟨rfl, rfl⟩
  | none =>
    obtain ⟨ha, hn, ht, h5⟩ := chk_table hc
    obtain ⟨hteq, hok⟩ := tabB_eq h5 ((vt.tab h5).symm.trans ht)
    simp only [outE, Bool.false_eq_true, if_false]
    rw [s_col t hb a.text (by omega), i_col t hb a.text (by omega), Option.bind_some, Option.bind_some]
    by_cases hneg : colT t a.text < 0
    · simp [hneg, s_ErrorValue, i_ErrorValue, errV]
    · have h0 : 0 ≤ colT t a.text := by omega
      have hlt := (find1_bd (fun z => decide (z = a.text)) t.columns).2
      change colT t a.text < _ at hlt
      have hcl := (TValue.small hb).cols
      obtain ⟨r1, r2⟩ := where_rows n t (colT t a.text) h0 (fun r hr => by have := rowT_ok hok hr; omega) hb (k := k) (by omega)
      simp only [hneg, decide_false, Bool.false_eq_true, if_false]
      rw [app_big (by simp; omega) (by omega), Option.bind_some, Option.bind_some, r1, r2]
      simp [tabV]
theorem draw_where (a : List Int) (ha : a.length ≤ 1048576) : Tot (fun r : TValue × TValue × TValue => r.1.bk ≤ 1048576 ∧ r.2.1.bk ≤ 1048576 ∧ r.2.2.bk ≤ 1048576) fun k => s_DrawWhereEqual k a := by
  unfold s_DrawWhereEqual
  refine .bind (new_tot a ha) fun c hc => .bind (below_tot 4 hc) fun x hx => ?_
  unfold s_NumberValue
  simp only [Option.bind_some]
  refine .bind (p := fun r : List Int × Int × Int × Int × Int × Int × ByteArray × List TValue × List ByteArray × List TRow => (TValue.mk r.2.2.2.1 r.2.2.2.2.1 r.2.2.2.2.2.1 r.2.2.2.2.2.2.1 r.2.2.2.2.2.2.2.1 r.2.2.2.2.2.2.2.2.1 r.2.2.2.2.2.2.2.2.2).bk ≤ 40000 ∧ Cu ⟨r.1, r.2.1, r.2.2.1⟩) ?_ fun r hr => ?_
  · refine .bind (once_tot 12 hx.2) fun u hu => .ite (fun _ => .bind (bent_tot hu) fun t ht => .ret ⟨by rcases t with ⟨⟨_, _, _, _, _, _, _⟩, _⟩; exact ht.1, ht.2⟩) fun _ => .ret ⟨?_, hu⟩
    simp only
    rw [atom_bk]; exact Nat.zero_le _
  · obtain ⟨a1, a2, a3, a4, a5, a6, a7, a8, a9, a10⟩ := r
    obtain ⟨h1, h2⟩ := hr
    refine .bind (p := Vb 40000) ?_ fun v hv => .bind (small7_tot hv.2) fun t ht => .ret ⟨?_, ?_, ?_⟩
    · unfold s_l7Name
      refine .bind (once_tot 16 h2) fun u hu => .ite (fun _ => .bind (bent_tot hu) fun t ht => .ret ⟨ht.1, ht.2⟩) fun _ => .bind (pick_tot _ hu (by simp)) fun s hs => ?_
      unfold s_TextValue
      simp only [Option.bind_some]
      refine .ret ⟨?_, hs.2⟩
      simp only
      rw [atom_bk]
      have := hs.1
      simp only [List.mem_cons, List.not_mem_nil, or_false] at this
      rcases this with e | e | e | e | e | e | e | e | e <;> rw [e] <;> decide
    · have := hv.1; simp only; omega
    · simp only at h1 ⊢; omega
    · have := ht.1; simp only; omega
theorem pick_loop (k : Nat) (x2 : TValue × TValue × TValue) (v : TValue) (i : Int) (h0 : 0 ≤ i) (hl : v.rows.length ≤ 1048576) (hv : ∀ r ∈ v.rows, i < r.cells.length ∧ cellT i r = x2.2.1.n ∧ s_HasRow k x2.2.2 r = some true) (hk : 1048701 ≤ k) : w_FnTables_u1 k x2 v i k 0 = some (.inl ()) :=
  self_loop v.rows.length hl (w_FnTables_u1 k x2 v i) (some (.inl ())) (fun m j hj => by
    obtain ⟨h1, h2, h3⟩ := hv _ (List.getElem_mem hj)
    rw [w_FnTables_u1, if_pos (lt_yes hj), at_in hj, Option.bind_some, at_cellT h0 h1, Option.bind_some, h2, h3]
    simp [wS j (by omega)]) (fun m => by rw [w_FnTables_u1, if_neg (lt_no (Nat.le_refl _))]) (by omega)
theorem FnTables_law (a : List Int) (_h : DOk (.sl (a.map uC))) : ∃ k, w_FnTables k a = some true := by
  by_cases hb : 1048576 < (a.length : Int)
  · exact ⟨0, by unfold w_FnTables w_big; simp [hb]⟩
  obtain ⟨⟨x, n, t⟩, ⟨bx, bn, bt⟩, hd⟩ := draw_where a (by omega)
  simp only at bx bn bt
  have hval : ∀ v : TValue, v.bk ≤ 1048576 → ∃ c : Bool, (v.kind = 5 → c = tabB v) ∧ (v.kind = 6 → c = errB v) ∧ Ev fun k => s_IsValidValue k v = some c ∧ i_IsValidValue k v = some c := fun v hv => valid_ex v hv
  classical
  let b : TValue → Bool := fun v => if h : v.bk ≤ 1048576 then (hval v h).choose else false
  have hB : ∀ v : TValue, v.bk ≤ 1048576 → Ev fun k => Val b k v := fun v hv => by
    obtain ⟨h1, h2, h3⟩ := (hval v hv).choose_spec
    refine h3.mono fun k hk => ⟨?_, ?_, ?_, ?_⟩ <;> simp only [b, hv, dite_true] <;> first | exact hk.1 | exact hk.2 | exact h1 | exact h2
  -- the answer
  have hw : (∃ e, whereV b x n t = errV e ∧ 1 ≤ e ∧ e ≤ 8) ∨ ((b x = true ∧ x.kind = 2) ∧ (b n = true ∧ n.kind = 1) ∧ t = tabV t.columns t.rows ∧ tableOk t = true ∧ 0 ≤ colT t x.text ∧ whereV b x n t = tabV t.columns (t.rows.filter (isT (colT t x.text) n.n))) := by
    obtain ⟨k, va, vn, vt⟩ := Ev.get (((hB x bx).and (hB n bn)).and (hB t bt) |>.mono fun k h => (⟨h.1.1, h.1.2, h.2⟩ : Val b k x ∧ Val b k n ∧ Val b k t))
    have hs : ∀ y ∈ [x, n, t], Val b k y := by
      intro y hy
      simp only [List.mem_cons, List.not_mem_nil, or_false] at hy
      rcases hy with rfl | rfl | rfl <;> assumption
    unfold whereV
    cases hc : chkE b [x, n, t] [2, 1, 5] with
    | some e =>
      left
      exact chkE_err (fun y hy h1 h6 => (errB_eq h6 (((hs y hy).err h6).symm.trans h1)).2) hc
    | none =>
      obtain ⟨h1, h2, h3, h5⟩ := chk_table hc
      obtain ⟨q1, q2⟩ := tabB_eq h5 ((vt.tab h5).symm.trans h3)
      by_cases hneg : colT t x.text < 0
      · left; exact ⟨7, by simp [hneg], by omega, by omega⟩
      · right; exact ⟨h1, h2, q1, q2, by omega, by simp [hneg]⟩
  rcases hw with ⟨e, he, h1, h8⟩ | ⟨hx, hn, ht, hok, h0, he⟩
  · have hrefl := equal_refl (errV e) (by rw [errV_bk]; omega)
    refine Ev.get (((hd.and (((hB x bx).and (hB n bn)).and (hB t bt))).and ((hrefl.and (valid_err h1 h8)).and (Ev.ge 1048701))).mono ?_)
    rintro k ⟨⟨d, ⟨va, vn⟩, vt⟩, ⟨hr, hv⟩, hk⟩
    obtain ⟨w1, w2⟩ := where_eq b x n t bt hk va vn vt
    rw [he] at w1 w2
    unfold w_FnTables w_big
    simp only [hb, decide_false, Option.bind_some, d, w1, w2, hr, hv.1]
    simp [errV]
  · have hlt := (find1_bd (fun z => decide (z = x.text)) t.columns).2
    change colT t x.text < _ at hlt
    have hok' : tableOk (tabV t.columns t.rows) = true := by rw [← ht]; exact hok
    have hokW := tab_ok_filter (isT (colT t x.text) n.n) hok'
    have hbW : (tabV t.columns (t.rows.filter (isT (colT t x.text) n.n))).bk ≤ 1048576 := by
      have := tab_bk_fil t.columns t.rows (isT (colT t x.text) n.n)
      rw [← ht] at this; omega
    have hrefl := equal_refl _ hbW
    have hval2 := valid_tab hokW hbW
    have hrows := Ev.all (p := fun r k => s_HasRow k t r = some true) (t.rows.filter (isT (colT t x.text) n.n)) fun r hr => hasRow_mem t bt r (List.mem_filter.1 hr).1
    refine Ev.get (((hd.and (((hB x bx).and (hB n bn)).and (hB t bt))).and (((hrefl.and hval2).and (hrows.and (hB _ hbW))).and (Ev.ge 1048701))).mono ?_)
    rintro k ⟨⟨d, ⟨va, vn⟩, vt⟩, ⟨⟨hr, hv⟩, hR, vW⟩, hk⟩
    obtain ⟨w1, w2⟩ := where_eq b x n t bt hk va vn vt
    obtain ⟨_, w3⟩ := where_eq b x n _ hbW hk va vn vW
    have hcW : colT (tabV t.columns (t.rows.filter (isT (colT t x.text) n.n))) x.text = colT t x.text := rfl
    have hw3 : whereV b x n (tabV t.columns (t.rows.filter (isT (colT t x.text) n.n))) = tabV t.columns (t.rows.filter (isT (colT t x.text) n.n)) := by
      have hbv : b (tabV t.columns (t.rows.filter (isT (colT t x.text) n.n))) = true := by rw [vW.tab rfl]; exact tabB_ok hokW
      unfold whereV
      rw [chk_none hx hn ⟨hbv, rfl⟩]
      simp only [hcW]
      rw [if_neg (by omega)]
      simp [tabV, List.filter_filter]
    rw [he] at w1 w2
    rw [hw3] at w3
    have hp := pick_loop k (x, n, t) (tabV t.columns (t.rows.filter (isT (colT t x.text) n.n))) (colT t x.text) h0 (TValue.small hbW).rows (fun r hr => by
      have hm := List.mem_filter.1 hr
      refine ⟨?_, by simpa [isT] using hm.2, hR r hr⟩
      have := rowT_ok hok hm.1; omega) hk
    have hci := i_col t bt x.text (k := k) (by omega)
    unfold w_FnTables w_big
    simp only [hb, decide_false, Option.bind_some, d, w1, w2, hr, hv.1, hci, hp, w3]
    simp [tabV]
end Go.Proofs.Ytbknilpmpjjfpaa
