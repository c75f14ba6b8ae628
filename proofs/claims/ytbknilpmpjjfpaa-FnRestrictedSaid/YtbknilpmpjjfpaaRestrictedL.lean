/- FnRestricted: a drawn table with the rows whose origins are kept: the mirrored law answers true. -/
import Derived.Test.YtbknilpmpjjfpaaWhL
import Derived.Test.YtbknilpmpjjfpaaTbL
import Derived.Test.YtbknilpmpjjfpaaLaFnRestricted
import Derived.Test.YtbknilpmpjjfpaaMd1
import Derived.Test.YtbknilpmpjjfpaaMd3
import Derived.Test.YtbknilpmpjjfpaaMd7
import Derived.Test.YtbknilpmpjjfpaaMd8
import Derived.Test.YtbknilpmpjjfpaaMd9
set_option linter.unusedSimpArgs false
set_option linter.unusedVariables false
namespace Go.Proofs.Ytbknilpmpjjfpaa
open Go.RowKit Am
def isO (x o : TOrigin) : Bool := decide (o.cell = x.cell) && decide (o.row = x.row)
def hasO (xs : List TOrigin) (x : TOrigin) : Bool := xs.any (isO x)
def benB (xs : List TOrigin) (r : TRow) : Bool := r.from_.all (hasO xs)
theorem s_hasO (xs : List TOrigin) (x : TOrigin) (hl : xs.length ≤ 16777216) {k : Nat} (hk : 16777300 < k) : s_l8Has k xs x = some (hasO xs x) := by
  unfold s_l8Has hasO
  rw [any_loop0 xs (isO x) (fun o => some (decide (o.cell = x.cell) && decide (o.row = x.row))) true () (s_l8Has_u1 xs x) (fun _ _ => rfl) (fun n i => by rw [s_l8Has_u1]; rfl) (by omega) (by omega)]
  cases xs.any (isO x) <;> rfl
theorem i_hasO (xs : List TOrigin) (x : TOrigin) (hl : xs.length ≤ 16777216) {k : Nat} (hk : 16777300 < k) : i_hasOrigin k xs x = some (hasO xs x) := by
  unfold i_hasOrigin hasO
  rw [any_loop0 xs (isO x) (fun o => some (decide (o.cell = x.cell) && decide (o.row = x.row))) true () (i_hasOrigin_u1 xs x) (fun _ _ => rfl) (fun n i => by rw [i_hasOrigin_u1]; rfl) (by omega) (by omega)]
  cases xs.any (isO x) <;> rfl
theorem s_ben (r : TRow) (xs : List TOrigin) (hr : r.from_.length ≤ 1048576) (hl : xs.length ≤ 16777216) {k : Nat} (hk : 16777300 < k) : s_l8Beneath k r.from_ xs = some (benB xs r) := by
  unfold s_l8Beneath benB
  rw [any_loop0 r.from_ (fun o => !hasO xs o) (fun o => (s_l8Has k xs o).bind fun b => some (!b)) false () (s_l8Beneath_u1 k r.from_ xs) (fun o _ => by rw [s_hasO xs o hl hk]; rfl) (fun n i => by rw [s_l8Beneath_u1]; simp only [Option.bind_assoc, Option.bind_some]) (by omega) (by omega)]
  have : (r.from_.any fun o => !hasO xs o) = !r.from_.all (hasO xs) := by rw [List.all_eq_not_any_not]; simp
  rw [this]
  cases r.from_.all (hasO xs) <;> rfl
theorem fold_all {α : Type} (p : α → Bool) : ∀ (xs : List α) (b : Bool), xs.foldl (fun s x => if s = true then p x else false) b = (b && xs.all p)
  | [], b => by simp
  | x :: xs, b => by
    rw [List.foldl_cons, fold_all p xs]
    cases b <;> simp
theorem i_ben (r : TRow) (xs : List TOrigin) (hr : r.from_.length ≤ 1048576) (hl : xs.length ≤ 16777216) {k : Nat} (hk : 16777300 < k) : i_RestrictTable_u2 k xs r k true 0 = some (benB xs r) := by
  rw [fold_loop r.from_ (fun s o => if s = true then hasO xs o else false) (fun s o => if s = true then (i_hasOrigin k xs o).bind fun b => some b else some false) true (i_RestrictTable_u2 k xs r)
    (fun s o _ => by rw [i_hasO xs o hl hk]; cases s <;> rfl) (fun n s i => by rw [i_RestrictTable_u2]; simp only [Option.bind_assoc]) (by omega) (by omega), fold_all]
  unfold benB; simp
theorem rest_rows (t : TValue) (xs : List TOrigin) (hb : t.bk ≤ 1048576) (hl : xs.length ≤ 16777216) {k : Nat} (hk : 16777300 < k) :
    s_RestrictTable_u1 k t xs k [] 0 = some (t.rows.filter (benB xs)) ∧ i_RestrictTable_u1 k t xs k [] 0 = some (t.rows.filter (benB xs)) := by
  have hrl := (TValue.small hb).rows
  have hr : ∀ x ∈ t.rows, x.bk ≤ 1048576 := fun x hx => by have := row_lens hx; omega
  constructor
  · refine keepR_loop t.rows (benB xs) (fun x out => (s_l8Beneath k x.from_ xs).bind fun y => if y = true then (s_l3Row x).bind fun z => (app? 48 out [z]).bind fun w => some w else some out) (s_RestrictTable_u1 k t xs) (fun x hx out ho => ?_) (fun n' out j => by rw [s_RestrictTable_u1]) (by omega) (by omega)
    have h1 := hr x hx
    have h2 := TRow.lensB x
    rw [s_ben x xs (by omega) hl hk, Option.bind_some, s_rowCopy x (by omega), Option.bind_some, app_big (by simp; omega) (by omega)]
    cases benB xs x <;> rfl
  · refine keepR_loop t.rows (benB xs) (fun x out => (i_RestrictTable_u2 k xs x k true 0).bind fun y => if y = true then (i_copyRow x).bind fun z => (app? 48 out [z]).bind fun w => some w else some out) (i_RestrictTable_u1 k t xs) (fun x hx out ho => ?_) (fun n' out j => by rw [i_RestrictTable_u1]) (by omega) (by omega)
    have h1 := hr x hx
    have h2 := TRow.lensB x
    rw [i_ben x xs (by omega) hl hk, Option.bind_some, i_rowCopy x (by omega), Option.bind_some, app_big (by simp; omega) (by omega)]
    cases benB xs x <;> rfl
theorem rest_tab {cs : List ByteArray} {rs : List TRow} (hok : tableOk (tabV cs rs) = true) (hb : (tabV cs rs).bk ≤ 1048576) (xs : List TOrigin) (hl : xs.length ≤ 16777216) :
    Ev fun k => s_RestrictTable k (tabV cs rs) xs = some (tabV cs (rs.filter (benB xs))) ∧ i_RestrictTable k (tabV cs rs) xs = some (tabV cs (rs.filter (benB xs))) := by
  refine (((valid_tab hok hb).and (i_valueCopy (tabV cs rs) (by omega))).and (Ev.ge 16777301)).mono fun k ⟨⟨⟨v1, v2⟩, hc⟩, hk⟩ => ?_
  have hcl := (TValue.small hb).cols
  simp only [tabV] at hcl
  obtain ⟨r1, r2⟩ := rest_rows (tabV cs rs) xs hb hl (k := k) (by omega)
  constructor
  · unfold s_RestrictTable
    simp only [v1, r1, Option.bind_some]
    simp only [tabV, decide_true, Bool.not_true, Bool.false_eq_true, if_false, Option.bind_some]
    rw [app_big (by simp; omega) (by omega), Option.bind_some]
    simp
  · unfold i_RestrictTable
    rw [hc]
    simp only [v2, r2, Option.bind_some]
    simp [tabV]
theorem rest_not (t : TValue) (hb : t.bk ≤ 1048576) (xs : List TOrigin) {b : Bool} (hv : Ev fun k => s_IsValidValue k t = some b ∧ i_IsValidValue k t = some b) (hn : ¬ (t.kind = 5 ∧ b = true)) :
    Ev fun k => s_RestrictTable k t xs = some t ∧ i_RestrictTable k t xs = some t := by
  refine (hv.and ((s_valueCopy t (by omega)).and (i_valueCopy t (by omega)))).mono fun k ⟨⟨v1, v2⟩, c1, c2⟩ => ?_
  unfold s_RestrictTable i_RestrictTable
  rw [c1, c2]
  by_cases h5 : t.kind = 5
  · have : b = false := by cases b; rfl; exact absurd ⟨h5, rfl⟩ hn
    subst this
    simp [v1, v2, h5]
  · simp [h5]
-- origins
theorem hasO_mem {xs : List TOrigin} {x : TOrigin} (h : x ∈ xs) : hasO xs x = true := List.any_eq_true.2 ⟨x, h, by simp [isO]⟩
theorem eq_of_isO {x o : TOrigin} (h : isO x o = true) : o = x := by
  simp only [isO, Bool.and_eq_true, decide_eq_true_eq] at h
  obtain ⟨a, b⟩ := o; obtain ⟨c, d⟩ := x
  simp only at h
  obtain ⟨rfl, rfl⟩ := h; rfl
theorem put_tot (xs : List TOrigin) (o : TOrigin) (hl : xs.length ≤ 1073741824) : Tot (fun u : List TOrigin => (o ∈ u ∧ ∀ x ∈ xs, x ∈ u) ∧ u.length ≤ xs.length + 1) fun k => s_l8Put k xs o := by
  unfold s_l8Put
  refine .bind (p := fun s : List TOrigin × Bool => (∀ x ∈ xs, x ∈ s.1) ∧ (s.2 = true → o ∈ s.1) ∧ (s.2 = false → s.1.length ≤ xs.length) ∧ s.1.length ≤ xs.length + 1) ?_ fun s hs => ?_
  · refine Tot.loop (fun _ n (s : List TOrigin × Bool × Int) => s_l8Put_u1 xs o n s.1 s.2.1 s.2.2) (fun s => 0 ≤ s.2.2 ∧ s.2.2 ≤ xs.length ∧ (∀ x ∈ xs.take s.2.2.toNat, x ∈ s.1) ∧ (s.2.1 = true → o ∈ s.1) ∧ (s.2.1 = false → (s.1.length : Int) ≤ s.2.2) ∧ (s.1.length : Int) ≤ s.2.2 + 1) (fun s => (xs.length - s.2.2).toNat) (s0 := ([], false, 0)) ⟨by simp, by simp, by simp, by simp, by simp, by simp⟩ ?_
    rintro ⟨out, dn, j⟩ ⟨g1, g2, g3, g4, g5, g6⟩
    simp only at g1 g2 g3 g4 g5 g6
    simp only [s_l8Put_u1]
    refine .ite (fun e => ?_) fun e => .ret ⟨fun x hx => g3 x (by
      have e : ¬ j < xs.length := by simpa using e
      rw [List.take_of_length_le (by omega)]; exact hx), g4, fun h => by have := g5 h; simp only; omega, by simp only; omega⟩
    have e : j < xs.length := by simpa using e
    have hj : j.toNat < xs.length := by omega
    have ha : at? xs j = some xs[j.toNat] := by
      unfold at?
      rw [if_pos g1, List.getElem?_eq_getElem hj]
    simp only [ha, Option.bind_some, s_before]
    have hw : IntKind.i64.wrap (j + 1) = j + 1 := w64 (by omega) (by omega)
    rw [hw]
    have hnx : (j + 1).toNat = j.toNat + 1 := by omega
    refine .bind (p := fun b : Bool => (b = true → dn = true ∨ xs[j.toNat] = o) ∧ (b = false → dn = false)) (.ite (fun q => .ret ⟨fun _ => .inr (eq_of_isO q), fun h => by cases h⟩) fun _ => .ret ⟨fun h => .inl h, fun h => h⟩) fun b hb => ?_
    refine .bind (p := fun s : List TOrigin × Bool => (∀ x ∈ out, x ∈ s.1) ∧ (s.2 = true → o ∈ s.1 ∨ xs[j.toNat] = o) ∧ (s.2 = false → (s.1.length : Int) ≤ j) ∧ (s.1.length : Int) ≤ j + 1) ?_ fun s hs => ?_
    · refine .bind (p := fun c : Bool => c = true → b = false) (.ite (fun q => .ret fun _ => by simpa using q) fun _ => .ret fun h => by cases h) fun c hc => .ite (fun q => ?_) fun q => ?_
      · have hd := g5 (hb.2 (hc q))
        exact .bindApp (by omega) (by simp; omega) (.ret ⟨fun x hx => by simp [hx], fun _ => .inl (by simp), fun h => (by cases h), by simp; omega⟩)
      · refine .ret ⟨fun x hx => hx, fun h => ?_, fun h => g5 (hb.2 h), g6⟩
        rcases hb.1 h with h | h
        · exact .inl (g4 h)
        · exact .inr h
    · obtain ⟨s1, s2⟩ := s
      obtain ⟨h1, h2, h3, h4⟩ := hs
      simp only at h1 h2 h3 h4
      refine .bindApp (by omega) (by simp; omega) ?_
      refine TotL.next (s := (s1 ++ [xs[j.toNat]], s2, j + 1)) ⟨⟨by simp only; omega, by simp only; omega, fun x hx => ?_, fun h => ?_, fun h => ?_, ?_⟩, by simp only; omega⟩
      · simp only at hx
        rw [hnx, List.take_succ_eq_append_getElem hj] at hx
        rcases List.mem_append.1 hx with hx | hx
        · exact List.mem_append.2 (.inl (h1 x (g3 x hx)))
        · exact List.mem_append.2 (.inr hx)
      · rcases h2 h with h | h
        · exact List.mem_append.2 (.inl h)
        · rw [← h]; simp
      · have := h3 h; simp; omega
      · simp; omega
  · obtain ⟨s1, s2⟩ := s
    obtain ⟨h1, h2, h3, h4⟩ := hs
    simp only at h1 h2 h3 h4
    refine .bind (p := fun u : List TOrigin => (o ∈ u ∧ ∀ x ∈ xs, x ∈ u) ∧ u.length ≤ xs.length + 1) (.ite (fun q => ?_) fun q => .ret ⟨⟨h2 (by simpa using q), h1⟩, h4⟩) fun u hu => .ret hu
    have q : s2 = false := by simpa using q
    have := h3 q
    exact .bindApp (by omega) (by simp; omega) (.ret ⟨⟨by simp, fun x hx => List.mem_append.2 (.inl (h1 x hx))⟩, by simp; omega⟩)
theorem put_all (xs ys : List TOrigin) (hl : xs.length + ys.length ≤ 1073741824) {V : Nat → Nat → List TOrigin → Int → Option (List TOrigin)} (hV : ∀ k n out j, V k (n + 1) out j = if (decide (j < (xs.length : Int))) then (at? xs j).bind fun x => (s_l8Put k out x).bind fun y => V k n y (IntKind.i64.wrap (j + 1)) else some out) :
    Tot (fun u : List TOrigin => ((∀ x ∈ xs, x ∈ u) ∧ ∀ y ∈ ys, y ∈ u) ∧ u.length ≤ ys.length + xs.length) fun k => V k k ys 0 := by
  refine Tot.loop (fun k n (s : List TOrigin × Int) => V k n s.1 s.2) (fun s => 0 ≤ s.2 ∧ s.2 ≤ xs.length ∧ (∀ x ∈ xs.take s.2.toNat, x ∈ s.1) ∧ (∀ y ∈ ys, y ∈ s.1) ∧ (s.1.length : Int) ≤ ys.length + s.2) (fun s => (xs.length - s.2).toNat) (s0 := (ys, 0)) ⟨by simp, by simp, by simp, by simp, by simp⟩ ?_
  rintro ⟨out, j⟩ ⟨g1, g2, g3, g4, g5⟩
  simp only at g1 g2 g3 g4 g5
  simp only [hV]
  refine .ite (fun e => ?_) fun e => .ret ⟨⟨fun x hx => g3 x (by
    have e : ¬ j < xs.length := by simpa using e
    rw [List.take_of_length_le (by omega)]; exact hx), g4⟩, by omega⟩
  have e : j < xs.length := by simpa using e
  have hj : j.toNat < xs.length := by omega
  have ha : at? xs j = some xs[j.toNat] := by
    unfold at?
    rw [if_pos g1, List.getElem?_eq_getElem hj]
  simp only [ha, Option.bind_some]
  have hw : IntKind.i64.wrap (j + 1) = j + 1 := w64 (by omega) (by omega)
  rw [hw]
  have hnx : (j + 1).toNat = j.toNat + 1 := by omega
  refine .bind (put_tot out xs[j.toNat] (by omega)) fun u hu => ?_
  obtain ⟨⟨u1, u2⟩, u3⟩ := hu
  refine TotL.next (s := (u, j + 1)) ⟨⟨by simp only; omega, by simp only; omega, fun x hx => ?_, fun y hy => u2 y (g4 y hy), by simp only; omega⟩, by simp only; omega⟩
  simp only at hx
  rw [hnx, List.take_succ_eq_append_getElem hj] at hx
  rcases List.mem_append.1 hx with hx | hx
  · exact u2 x (g3 x hx)
  · simp only [List.mem_singleton] at hx; rw [hx]; exact u1
theorem union_tot (xs ys : List TOrigin) (hl : xs.length + ys.length ≤ 536870912) : Tot (fun u : List TOrigin => ((∀ x ∈ xs, x ∈ u) ∧ ∀ y ∈ ys, y ∈ u) ∧ u.length ≤ xs.length + ys.length) fun k => s_UnionOrigins k xs ys := by
  unfold s_UnionOrigins
  refine .bind (put_all xs [] (by simp; omega) (V := fun k n => s_UnionOrigins_u1 k xs n) (fun k n out j => by rw [s_UnionOrigins_u1])) fun u hu => ?_
  have h2 := hu.2
  simp only [List.length_nil, Nat.zero_add] at h2
  refine .bind (put_all ys u (by omega) (V := fun k n => s_UnionOrigins_u2 k ys n) (fun k n out j => by rw [s_UnionOrigins_u2])) fun v hv => .ret ⟨⟨fun x hx => hv.1.2 x (hu.1.1 x hx), hv.1.1⟩, ?_⟩
  have := hv.2; omega
theorem origins_tot (t : TValue) (hb : t.bk ≤ 1048576) (hr : t.rows.length ≤ 12) : Tot (fun u : List TOrigin => (∀ r ∈ t.rows, benB u r = true) ∧ u.length ≤ 16777216) fun k => s_OriginsOf k t := by
  unfold s_OriginsOf
  refine .bind ?_ fun u hu => .ret hu
  have hlen : ∀ r ∈ t.rows, r.from_.length ≤ 1048576 := fun r hr => by have := row_lens hr; have := TRow.lensB r; omega
  refine Tot.loop (fun k n (s : List TOrigin × Int) => s_OriginsOf_u1 k t n s.1 s.2) (fun s => 0 ≤ s.2 ∧ s.2 ≤ t.rows.length ∧ (∀ r ∈ t.rows.take s.2.toNat, ∀ o ∈ r.from_, o ∈ s.1) ∧ (s.1.length : Int) ≤ s.2 * 1048576) (fun s => (t.rows.length - s.2).toNat) (s0 := ([], 0)) ⟨by simp, by simp, by simp, by simp⟩ ?_
  rintro ⟨out, j⟩ ⟨g1, g2, g3, g4⟩
  simp only at g1 g2 g3 g4
  simp only [s_OriginsOf_u1]
  refine .ite (fun e => ?_) fun e => .ret ⟨fun r hr => ?_, by omega⟩
  · have e : j < t.rows.length := by simpa using e
    have hj : j.toNat < t.rows.length := by omega
    have ha : at? t.rows j = some t.rows[j.toNat] := by
      unfold at?
      rw [if_pos g1, List.getElem?_eq_getElem hj]
    simp only [ha, Option.bind_some]
    have hw : IntKind.i64.wrap (j + 1) = j + 1 := w64 (by omega) (by omega)
    rw [hw]
    have hnx : (j + 1).toNat = j.toNat + 1 := by omega
    have hf := hlen _ (List.getElem_mem hj)
    refine .bind (union_tot out t.rows[j.toNat].from_ (by omega)) fun u hu => ?_
    obtain ⟨⟨u1, u2⟩, u3⟩ := hu
    refine TotL.next (s := (u, j + 1)) ⟨⟨by simp only; omega, by simp only; omega, fun r hr o ho => ?_, by simp only; omega⟩, by simp only; omega⟩
    simp only at hr
    rw [hnx, List.take_succ_eq_append_getElem hj] at hr
    rcases List.mem_append.1 hr with hr | hr
    · exact u1 o (g3 r hr o ho)
    · simp only [List.mem_singleton] at hr; rw [hr] at ho; exact u2 o ho
  · have e : ¬ j < t.rows.length := by simpa using e
    rw [List.take_of_length_le (by omega)] at g3
    unfold benB
    rw [List.all_eq_true]
    exact fun o ho => hasO_mem (g3 r hr o ho)
-- what is drawn
theorem source_tot (c : Int) (t : TValue) (hb : t.bk ≤ 1000) : Tot (fun v : TValue => v.bk ≤ 1048000) fun k => s_SourceTable k c t := by
  unfold s_SourceTable
  obtain ⟨b, _, hv⟩ := valid_same t (by omega)
  refine .bind (p := fun _ => True) (.ite (fun _ => .ret trivial) fun _ => .bind (p := fun _ => True) ⟨b, trivial, hv.mono fun k h => h.1⟩ fun b _ => .ite (fun _ => .ret trivial) fun _ => .ret trivial) fun x _ => .ite (fun _ => ?_) fun _ => ?_
  · unfold s_ErrorValue
    simp only [Option.bind_some]
    exact .ret (by have := errV_bk 4; unfold errV at this; omega)
  · refine .bind (p := fun v => v = t) ⟨t, rfl, s_valueCopy t (by omega)⟩ fun v hv => ?_
    subst hv
    have hbk := v.bk_eq
    have hrl := bkS_len (f := TRow.bk) (xs := v.rows)
    refine .bind (p := fun rs : List TRow => rs.length ≤ 1000 ∧ ∀ r ∈ rs, r.bk ≤ 1001) ?_ fun rs hr => .ret ?_
    · refine Tot.loop (fun k n (s : List TRow × Int) => s_SourceTable_u1 c n s.1 s.2) (fun s => 0 ≤ s.2 ∧ s.2 ≤ 1000 ∧ s.1.length ≤ 1000 ∧ ∀ r ∈ s.1, r.cells.length ≤ 1000 ∧ r.bk ≤ 1001) (fun s => (1000 - s.2).toNat) (s0 := (v.rows, 0)) ⟨by simp, by simp, by simp only; omega, fun r hr => by have := bkS_get (f := TRow.bk) (xs := v.rows) hr; have := cells_bk r; omega⟩ ?_
      rintro ⟨rs, j⟩ ⟨g1, g2, g3, g4⟩
      simp only at g1 g2 g3 g4
      simp only [s_SourceTable_u1]
      refine .ite (fun e => ?_) fun e => .ret ⟨g3, fun r hr => (g4 r hr).2⟩
      have e : j < rs.length := by simpa using e
      have hw : IntKind.i64.wrap (j + 1) = j + 1 := w64 (by omega) (by omega)
      rw [hw]
      refine .bindAt g1 e fun r _ hm => TotL.next (s := (rs.set j.toNat (TRow.mk r.cells [(TOrigin.mk c j)]), j + 1)) ⟨⟨by simp only; omega, by simp only; omega, by simp; omega, fun q hq => ?_⟩, by simp only; omega⟩
      rcases List.mem_or_eq_of_mem_set hq with hq | rfl
      · exact g4 q hq
      · have h1 := g4 r hm
        rw [TRow.bk_eq]
        simp only [bkS_0]
        simp; omega
    · rw [TValue.bk_eq]
      have h1 := bkS_le hr.2
      have h2 : rs.length * (1001 + 1) ≤ 1000 * 1002 := Nat.mul_le_mul_right _ hr.1
      simp only; omega
theorem source8_tot {c : Tl1Cur} (h : Cu c) (n : Int) : Tot (Vb 1048000) fun k => s_l8Source k c n := by
  unfold s_l8Source
  refine .bind (table_tot h) fun v hv => ?_
  have hv1 := hv.1
  have hM : ∀ m ∈ v.1.rows.map TRow.bk, m ≤ 100000 := fun m hm => by
    obtain ⟨r, hr, rfl⟩ := List.mem_map.1 hm
    have := v.1.bk_eq
    have := bkS_get (f := TRow.bk) hr
    omega
  have hl : (v.1.rows.map TRow.bk).length ≤ 1000000 := by
    have := v.1.bk_eq
    have := bkS_len (f := TRow.bk) (xs := v.1.rows)
    simp; omega
  refine .bind (p := fun r : List TRow × List Int × Int × Int => Cu ⟨r.2.1, r.2.2.1, r.2.2.2⟩ ∧ r.1.map TRow.bk = v.1.rows.map TRow.bk)
    (rows_of (V := s_l8Source_u1) (U := fun x => s_l8Source_u2 x) (fun b i h rows => (rows, b, i, h)) _ hl (fun _ _ _ _ g1 g2 => ⟨g1, g2⟩) (fun k n b i h rows x => by rw [s_l8Source_u1])
      (fun x b i h rows h0 h1 g1 g2 => in_row (fun c => (s_l1Below c 4).bind fun y => some (true, y.1, y.2)) _ hM
        (fun n b i h rows y => by
          rw [s_l8Source_u2]
          simp [Option.bind_assoc])
        (fun c hc => .bind (below_tot 4 hc) fun y hy => .ret hy.2) h0 h1 g1 g2) hv.2 rfl) fun r hr => ?_
  obtain ⟨rows, b, i, g⟩ := r
  refine .bind (source_tot n _ (by rw [tab_bk hr.2]; exact hv1)) fun u hu => .ret ⟨hu, hr.1⟩
theorem some_tot {c : Tl1Cur} (h : Cu c) : Tot (fun r : List TOrigin × Tl1Cur => r.1.length ≤ 6) fun k => s_l8Some k c := by
  unfold s_l8Some
  refine .bind (below_tot 6 h) fun v hv => ?_
  have v1 := hv.1.2.1 (by omega)
  refine .bind (p := fun r : List TOrigin × List Int × Int × Int => r.1.length ≤ 6) ?_ fun r hr => .ret hr
  refine Tot.loop (fun k n (s : List Int × Int × Int × List TOrigin × Int) => s_l8Some_u1 v n s.1 s.2.1 s.2.2.1 s.2.2.2.1 s.2.2.2.2) (fun s => Cu ⟨s.1, s.2.1, s.2.2.1⟩ ∧ (s.2.2.2.1.length : Int) = s.2.2.2.2 ∧ s.2.2.2.2 ≤ 6) (fun s => (6 - s.2.2.2.2).toNat) (s0 := (_, _, _, _, 0)) ⟨hv.2, by simp, by simp⟩ ?_
  rintro ⟨b, i, g, out, j⟩ ⟨g1, g2, g3⟩
  simp only at g1 g2 g3
  simp only [s_l8Some_u1]
  refine .ite (fun e => ?_) fun e => .ret (by show out.length ≤ 6; omega)
  have e : j < v.1 := by simpa using e
  have hw : IntKind.i64.wrap (j + 1) = j + 1 := w64 (by omega) (by omega)
  rw [hw]
  refine .bind (below_tot 3 g1) fun x hx => .bind (below_tot 4 hx.2) fun y hy => .bindApp (by omega) (by simp; omega) ?_
  exact TotL.next (s := (y.2.b, y.2.i, y.2.h, out ++ [_], j + 1)) ⟨⟨hy.2, by simp; omega, by simp only; omega⟩, by simp only; omega⟩
theorem draw_rest (a : List Int) (ha : a.length ≤ 1048576) : Tot (fun r : TValue × List TOrigin => r.1.bk ≤ 1048576 ∧ r.2.length ≤ 6) fun k => s_DrawRestrictTable k a := by
  unfold s_DrawRestrictTable
  refine .bind (new_tot a ha) fun c hc => .bind (small7_tot hc) fun v hv => ?_
  refine .bind (p := fun r : List Int × Int × Int × Int × Int × Int × ByteArray × List TValue × List ByteArray × List TRow => (TValue.mk r.2.2.2.1 r.2.2.2.2.1 r.2.2.2.2.2.1 r.2.2.2.2.2.2.1 r.2.2.2.2.2.2.2.1 r.2.2.2.2.2.2.2.2.1 r.2.2.2.2.2.2.2.2.2).bk ≤ 1048000 ∧ Cu ⟨r.1, r.2.1, r.2.2.1⟩) ?_ fun r hr => ?_
  · refine .bind (once_tot 2 hv.2) fun u hu => .ite (fun _ => .bind (source8_tot hu 1) fun t ht => .ret ⟨by rcases t with ⟨⟨_, _, _, _, _, _, _⟩, _⟩; exact ht.1, ht.2⟩) fun _ => .ret ⟨?_, hu⟩
    have h1 := hv.1
    rcases v with ⟨⟨_, _, _, _, _, _, _⟩, _⟩
    simp only at h1 ⊢
    omega
  · obtain ⟨a1, a2, a3, a4, a5, a6, a7, a8, a9, a10⟩ := r
    obtain ⟨h1, h2⟩ := hr
    exact .bind (some_tot h2) fun s hs => .ret ⟨by simp only at h1 ⊢; omega, hs⟩
theorem has_loop (k : Nat) (x2 : TValue × List TOrigin) (v : TValue) (hl : v.rows.length ≤ 1048576) (hv : ∀ r ∈ v.rows, s_HasRow k x2.1 r = some true) (hk : 1048701 ≤ k) : w_FnRestricted_u1 k x2 v k 0 = some (.inl ()) :=
  self_loop v.rows.length hl (w_FnRestricted_u1 k x2 v) (some (.inl ())) (fun m j hj => by
    have h3 := hv _ (List.getElem_mem hj)
    rw [w_FnRestricted_u1, if_pos (lt_yes hj), at_in hj, Option.bind_some, h3]
    simp [wS j (by omega)]) (fun m => by rw [w_FnRestricted_u1, if_neg (lt_no (Nat.le_refl _))]) (by omega)
theorem FnRestricted_law (a : List Int) (_h : DOk (.sl (a.map uC))) : ∃ k, w_FnRestricted k a = some true := by
  by_cases hb : 1048576 < (a.length : Int)
  · exact ⟨0, by unfold w_FnRestricted w_big; simp [hb]⟩
  obtain ⟨⟨t, xs⟩, ⟨bt, bx⟩, hd⟩ := draw_rest a (by omega)
  simp only at bt bx
  obtain ⟨b, h5, _, hv⟩ := valid_ex t bt
  by_cases hn : t.kind = 5 ∧ b = true
  · obtain ⟨ht, hok⟩ := tabB_eq hn.1 ((h5 hn.1).symm.trans hn.2)
    revert ht
    generalize t.columns = cs
    generalize t.rows = rs
    rintro rfl
    have hbW := tab_bk_fil cs rs (benB xs)
    have hokW := tab_ok_filter (benB xs) hok
    have hr12 : rs.length ≤ 12 := by
      have := hok
      unfold tableOk at this
      simp only [Bool.and_eq_true, Bool.not_eq_true', decide_eq_false_iff_not] at this
      have := this.1.2
      simp only [tabV] at this; omega
    obtain ⟨u, ⟨hu, lu⟩, eu⟩ := origins_tot (tabV cs rs) bt hr12
    have e1 := rest_tab hok bt xs (by omega)
    have e2 := rest_tab hokW (by omega) xs (by omega)
    have e3 := rest_tab hok bt u (by omega)
    have f1 : (rs.filter (benB xs)).filter (benB xs) = rs.filter (benB xs) := by simp [List.filter_filter]
    have f2 : rs.filter (benB u) = rs := List.filter_eq_self.2 fun r hr => hu r hr
    rw [f1] at e2
    rw [f2] at e3
    have r1 := equal_refl _ bt
    have r2 := equal_refl _ (show (tabV cs (rs.filter (benB xs))).bk ≤ 1048576 by omega)
    have hrows := Ev.all (p := fun r k => s_HasRow k (tabV cs rs) r = some true) (rs.filter (benB xs)) fun r hr => hasRow_mem (tabV cs rs) bt r (List.mem_filter.1 hr).1
    refine Ev.get (((hd.and (hv.and eu)).and (((e1.and (e2.and e3)).and (r1.and r2)).and (hrows.and (Ev.ge 1048701)))).mono ?_)
    rintro k ⟨⟨d, ⟨v1, _⟩, o1⟩, ⟨⟨⟨s1, i1⟩, ⟨_, i2⟩, _, i3⟩, q1, q2⟩, hR, hk⟩
    rw [hn.2] at v1
    have hp := has_loop k (tabV cs rs, xs) (tabV cs (rs.filter (benB xs))) (TValue.small (show (tabV cs (rs.filter (benB xs))).bk ≤ 1048576 by omega)).rows hR hk
    unfold w_FnRestricted w_big
    simp only [hb, decide_false, Option.bind_some, d, s1, i1, q2, i2, v1, hp, o1, i3, q1]
    simp [tabV]
  · have e1 := rest_not t bt xs hv hn
    have r1 := equal_refl t bt
    refine Ev.get (((hd.and hv).and ((e1.and r1).and (Ev.ge 1048701))).mono ?_)
    rintro k ⟨⟨d, v1, _⟩, ⟨⟨s1, i1⟩, q1⟩, hk⟩
    unfold w_FnRestricted w_big
    simp only [hb, decide_false, Option.bind_some, d, s1, i1, q1, v1]
    cases b with
    | false => simp
    | true =>
      have : t.kind ≠ 5 := fun h => hn ⟨h, rfl⟩
      simp [this]
end Go.Proofs.Ytbknilpmpjjfpaa
