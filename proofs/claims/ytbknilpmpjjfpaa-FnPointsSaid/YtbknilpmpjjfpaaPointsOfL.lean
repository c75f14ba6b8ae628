/- PointsOf: the program's answer is the reference's. -/
import Derived.Test.YtbknilpmpjjfpaaBarsOfL
import Derived.Test.YtbknilpmpjjfpaaMd2
import Derived.Test.YtbknilpmpjjfpaaMd3
import Derived.Test.YtbknilpmpjjfpaaMd4
import Derived.Test.YtbknilpmpjjfpaaMd5
set_option linter.unusedSimpArgs false
set_option linter.unusedVariables false
namespace Go.Proofs.Ytbknilpmpjjfpaa
open Go.RowKit Am
def cellOf (i : Int) (r : TRow) : Int := r.cells.getD i.toNat 0
theorem at_cell {i : Int} {r : TRow} (h0 : 0 ≤ i) (h1 : i < r.cells.length) : at? r.cells i = some (cellOf i r) := by
  have hl : i.toNat < r.cells.length := by omega
  unfold at? cellOf
  rw [if_pos h0, List.getElem?_eq_getElem hl, List.getD_eq_getElem?_getD, List.getElem?_eq_getElem hl]; rfl
def colOf (v : TValue) (i : Int) : List Int := v.rows.map (cellOf i)
def loC (v : TValue) (i : Int) : Int := loOf (colOf v i) ((colOf v i).headD 0)
def hiC (v : TValue) (i : Int) : Int := hiOf (colOf v i) ((colOf v i).headD 0)
theorem fold_ends (i : Int) : ∀ (rs : List TRow) (a c : Int), rs.foldl (fun (s : Int × Int) r => (if cellOf i r < s.1 then cellOf i r else s.1, if cellOf i r > s.2 then cellOf i r else s.2)) (a, c) = (loOf (rs.map (cellOf i)) a, hiOf (rs.map (cellOf i)) c)
  | [], a, c => rfl
  | r :: rs, a, c => by
    simp only [List.foldl_cons, fold_ends i rs, List.map_cons, loOf, hiOf]
theorem first_row {v : TValue} (hr : v.rows ≠ []) : ∃ r rs, v.rows = r :: rs ∧ at? v.rows 0 = some r := by
  cases e : v.rows with
  | nil => exact absurd e hr
  | cons r rs => exact ⟨r, rs, rfl, rfl⟩
theorem s_span (v : TValue) (i : Int) (h0 : 0 ≤ i) (hc : ∀ r ∈ v.rows, i < r.cells.length) (hr : v.rows ≠ []) (hl : v.rows.length ≤ 1048576) {k : Nat} (hk : 1048700 < k) : s_l34Span k v i = some (loC v i, hiC v i) := by
  obtain ⟨r, rs, e, e0⟩ := first_row hr
  have hm : r ∈ v.rows := by rw [e]; simp
  have key := fold_loop v.rows (fun (s : Int × Int) r => (if cellOf i r < s.1 then cellOf i r else s.1, if cellOf i r > s.2 then cellOf i r else s.2)) (fun s r => (at? r.cells i).bind fun x => (s_l1Min s.1 x).bind fun a => (s_l1Max s.2 x).bind fun b => some (a, b)) (cellOf i r, cellOf i r) (fun n s j => s_l34Span_u1 v i n s.1 s.2 j)
    (fun s x hx => by rw [at_cell h0 (hc x hx), Option.bind_some, s_min, Option.bind_some, s_max, Option.bind_some]) (fun n s j => by
      try simp only
      rw [s_l34Span_u1]; simp only [Option.bind_assoc, Option.bind_some]) (by omega) (k := k) (by omega)
  simp only at key
  unfold s_l34Span
  rw [e0, Option.bind_some, at_cell h0 (hc r hm), Option.bind_some, key, fold_ends]
  have : (colOf v i).headD 0 = cellOf i r := by unfold colOf; rw [e]; rfl
  unfold loC hiC
  rw [this]; rfl
theorem i_span (v : TValue) (i : Int) (h0 : 0 ≤ i) (hc : ∀ r ∈ v.rows, i < r.cells.length) (hr : v.rows ≠ []) (hl : v.rows.length ≤ 1048576) {k : Nat} (hk : 1048700 < k) : i_columnRange k v i = some (loC v i, hiC v i) := by
  obtain ⟨r, rs, e, e0⟩ := first_row hr
  have hm : r ∈ v.rows := by rw [e]; simp
  have key := fold_loop v.rows (fun (s : Int × Int) r => (if cellOf i r < s.1 then cellOf i r else s.1, if cellOf i r > s.2 then cellOf i r else s.2)) (fun s r => (at? r.cells i).bind fun x => some (if x < s.1 then x else s.1, if x > s.2 then x else s.2)) (cellOf i r, cellOf i r) (fun n s j => i_columnRange_u1 v i n s.1 s.2 j)
    (fun s x hx => by rw [at_cell h0 (hc x hx), Option.bind_some]) (fun n s j => by
      try simp only
      rw [i_columnRange_u1]; simp only [Option.bind_assoc, Option.bind_some]) (by omega) (k := k) (by omega)
  simp only at key
  unfold i_columnRange
  rw [e0, Option.bind_some, at_cell h0 (hc r hm), Option.bind_some, key, fold_ends]
  have : (colOf v i).headD 0 = cellOf i r := by unfold colOf; rw [e]; rfl
  unfold loC hiC
  rw [this]; rfl
theorem s_scale_eq (x lo hi m : Int) (h1 : -2000000000 ≤ lo ∧ lo ≤ 2000000000) (h2 : -2000000000 ≤ hi ∧ hi ≤ 2000000000) : s_l34Scale x lo hi m = some (partV (IntKind.i64.wrap (x - lo)) m (IntKind.i64.wrap (hi - lo)) 0) := by
  unfold s_l34Scale partV nz?
  have e : IntKind.i64.wrap (hi - lo) = hi - lo := w64 (by omega) (by omega)
  rw [e]
  by_cases hh : hi = lo
  · rw [if_pos (by simpa using hh), if_pos (by omega)]
  · rw [if_neg (by simpa using hh), if_neg (show ¬ hi - lo = 0 by omega)]
    simp only [show hi - lo ≠ 0 by omega, ne_eq, not_false_eq_true, if_true, Option.bind_some]
def pointV (v : TValue) (i j w h : Int) (r : TRow) : TMark :=
  ⟨partV (IntKind.i64.wrap (cellOf i r - loC v i)) w (IntKind.i64.wrap (hiC v i - loC v i)) 0, partV (IntKind.i64.wrap (hiC v j - cellOf j r)) h (IntKind.i64.wrap (hiC v j - loC v j)) 0, 0, 0⟩
theorem colC_bd (v : TValue) (i : Int) (hn : ∀ r ∈ v.rows, -1000000000 ≤ cellOf i r ∧ cellOf i r ≤ 1000000000) : (-1000000000 ≤ loC v i ∧ loC v i ≤ 1000000000) ∧ (-1000000000 ≤ hiC v i ∧ hiC v i ≤ 1000000000) := by
  have h1 : ∀ x ∈ colOf v i, -1000000000 ≤ x ∧ x ≤ 1000000000 := fun x hx => by
    obtain ⟨r, hr, rfl⟩ := List.mem_map.1 hx
    exact hn r hr
  have h2 : -1000000000 ≤ (colOf v i).headD 0 ∧ (colOf v i).headD 0 ≤ 1000000000 := by
    cases e : colOf v i with
    | nil => simp
    | cons x xs => exact h1 x (by rw [e]; simp)
  exact ⟨lo_bd _ _ _ h2.1 h2.2 h1, hi_bd _ _ _ h2.1 h2.2 h1⟩
theorem points_loops (v : TValue) (i j w h : Int) (hi : 0 ≤ i) (hj : 0 ≤ j) (ci : ∀ r ∈ v.rows, i < r.cells.length) (cj : ∀ r ∈ v.rows, j < r.cells.length) (ni : ∀ r ∈ v.rows, -1000000000 ≤ cellOf i r ∧ cellOf i r ≤ 1000000000) (nj : ∀ r ∈ v.rows, -1000000000 ≤ cellOf j r ∧ cellOf j r ≤ 1000000000) (hl : v.rows.length ≤ 1048576) {k : Nat} (hk : 1048700 < k) :
    s_PointsOf_u1 k v w h i j k [] 0 = some (v.rows.map (pointV v i j w h)) ∧ i_PointsOf_u1 k v i j w h k [] 0 = some (v.rows.map (pointV v i j w h)) := by
  have bi := colC_bd v i ni
  have bj := colC_bd v j nj
  have em : (v.rows.mapIdx fun (n : Nat) r => (fun (_ : Int) r => pointV v i j w h r) (n : Int) r) = v.rows.map (pointV v i j w h) := by
    apply List.ext_getElem <;> simp
  have ne : ∀ (n : Nat), n < v.rows.length → v.rows ≠ [] := fun n hn e => by rw [e] at hn; simp at hn
  constructor
  · have := mapI_loop 32 (by omega) v.rows (fun _ r => pointV v i j w h r) (fun _ x12 => (s_l34Span k v i).bind fun x11 =>
      (at? x12.cells i).bind fun x13 =>
      (s_l34Scale x13 x11.1 x11.2 w).bind fun x14 =>
      (s_l34Span k v j).bind fun x15 =>
      (at? x12.cells j).bind fun x16 =>
      (s_l34Scale (IntKind.i64.wrap (x15.2 - x16)) 0 (IntKind.i64.wrap (x15.2 - x15.1)) h).bind fun x17 => some (TMark.mk x14 x17 0 0)) (s_PointsOf_u1 k v w h i j)
      (fun n hn => by
        have hm := List.getElem_mem hn
        have b1 := nj _ hm
        have e1 : IntKind.i64.wrap (hiC v j - loC v j) = hiC v j - loC v j := w64 (by omega) (by omega)
        have e2 : IntKind.i64.wrap (hiC v j - cellOf j v.rows[n]) = hiC v j - cellOf j v.rows[n] := w64 (by omega) (by omega)
        simp only [s_span v i hi ci (ne n hn) hl hk, s_span v j hj cj (ne n hn) hl hk, at_cell hi (ci _ hm), at_cell hj (cj _ hm), Option.bind_some]
        rw [s_scale_eq _ _ _ _ (by omega) (by omega), Option.bind_some, e1, s_scale_eq _ _ _ _ (by omega) (by omega), Option.bind_some]
        have e3 : IntKind.i64.wrap (IntKind.i64.wrap (hiC v j - cellOf j v.rows[n]) - 0) = IntKind.i64.wrap (hiC v j - cellOf j v.rows[n]) := by rw [e2, Int.sub_zero, ← e2, e2]; exact e2
        have e4 : IntKind.i64.wrap (hiC v j - loC v j - 0) = IntKind.i64.wrap (hiC v j - loC v j) := by rw [Int.sub_zero]
        rw [e3, e4]; rfl)
      (fun n out q => by
        rw [s_PointsOf_u1]
        split
        · cases hq : at? v.rows q with
          | none =>
            cases hs : s_l34Span k v i <;> rfl
          | some r =>
            cases hs : s_l34Span k v i with
            | none => rfl
            | some p => simp only [Option.bind_some, Option.bind_assoc]
        · rfl) (by omega) (k := k) (by omega)
    rw [this, em]
  · have := mapI_loop 32 (by omega) v.rows (fun _ r => pointV v i j w h r) (fun _ x9 => (i_columnRange k v i).bind fun x10 =>
      (i_columnRange k v j).bind fun x11 =>
      (at? x9.cells i).bind fun x12 =>
      (i_part (IntKind.i64.wrap (x12 - x10.1)) w (IntKind.i64.wrap (x10.2 - x10.1)) 0).bind fun x13 =>
      (at? x9.cells j).bind fun x14 =>
      (i_part (IntKind.i64.wrap (x11.2 - x14)) h (IntKind.i64.wrap (x11.2 - x11.1)) 0).bind fun x15 => some (TMark.mk x13 x15 0 0)) (i_PointsOf_u1 k v i j w h)
      (fun n hn => by
        have hm := List.getElem_mem hn
        simp only [i_span v i hi ci (ne n hn) hl hk, i_span v j hj cj (ne n hn) hl hk, at_cell hi (ci _ hm), at_cell hj (cj _ hm), i_part_eq, Option.bind_some]
        rfl)
      (fun n out q => by rw [i_PointsOf_u1]; simp only [Option.bind_assoc, Option.bind_some]) (by omega) (k := k) (by omega)
    rw [this, em]
theorem row_ok {v : TValue} (ht : tableOk v = true) {r : TRow} (hr : r ∈ v.rows) : (r.cells.length : Int) = v.columns.length ∧ ∀ n ∈ r.cells, -1000000000 ≤ n ∧ n ≤ 1000000000 := by
  unfold tableOk at ht
  simp only [Bool.and_eq_true, Bool.not_eq_true'] at ht
  have := List.any_eq_false.1 ht.2 r hr
  unfold rowBad at this
  simp only [Bool.or_eq_true, not_or, Bool.not_eq_true', Bool.not_eq_true, List.any_eq_false, Bool.not_eq_false'] at this
  refine ⟨by simpa using this.1.1, fun n hn => isNum_bd ?_⟩
  have := this.2 n hn
  simpa using this
theorem cell_bd {i : Int} {r : TRow} (h : ∀ n ∈ r.cells, -1000000000 ≤ n ∧ n ≤ 1000000000) (h0 : 0 ≤ i) (h1 : i < r.cells.length) : -1000000000 ≤ cellOf i r ∧ cellOf i r ≤ 1000000000 := by
  have hl : i.toNat < r.cells.length := by omega
  unfold cellOf
  rw [List.getD_eq_getElem?_getD, List.getElem?_eq_getElem hl]
  exact h _ (List.getElem_mem hl)
def cidx (v : TValue) (x : ByteArray) : Int := find1 (fun y => decide (y = x)) v.columns
theorem PointsOf_agreeV (v : TValue) (hb : v.bk ≤ 1048576) (x y : ByteArray) (w h : Int) :
    ∃ r : TScene × Bool, ((r = (⟨w, h, v.rows.map (pointV v (cidx v x) (cidx v y) w h)⟩, true) ∧ canvas w h = true ∧ 0 ≤ cidx v x ∧ 0 ≤ cidx v y ∧ tableOk v = true) ∨ r = (⟨0, 0, []⟩, false)) ∧ Ev fun k => s_PointsOf k v x y w h = some r ∧ i_PointsOf k v x y w h = some r := by
  have sm := TValue.small hb
  have hrl := sm.rows
  have hcl := sm.cols
  obtain ⟨b, hok, hev⟩ := valid_same v hb
  have bx := find1_bd (fun z => decide (z = x)) v.columns
  have bY := find1_bd (fun z => decide (z = y)) v.columns
  change -1 ≤ cidx v x ∧ cidx v x < _ at bx
  change -1 ≤ cidx v y ∧ cidx v y < _ at bY
  have eS : ∀ k, 1048701 ≤ k → ∀ z, s_ColumnIndex k v z = some (cidx v z) := fun k hk z => by unfold s_ColumnIndex; rw [s_index _ _ (by omega) (by omega)]; rfl
  have eI : ∀ k, 1048701 ≤ k → ∀ z, i_ColumnIndex k v z = some (cidx v z) := fun k hk z => by unfold i_ColumnIndex; rw [i_index _ _ (by omega) (by omega)]; rfl
  by_cases hv : v.kind = 5 ∧ b = true ∧ canvas w h = true ∧ 0 ≤ cidx v x ∧ 0 ≤ cidx v y
  · obtain ⟨h5, rfl, hc, hx0, hy0⟩ := hv
    have ht := (hok rfl).tab h5
    have ci : ∀ r ∈ v.rows, cidx v x < r.cells.length := fun r hr => by have := (row_ok ht hr).1; omega
    have cj : ∀ r ∈ v.rows, cidx v y < r.cells.length := fun r hr => by have := (row_ok ht hr).1; omega
    refine ⟨(⟨w, h, v.rows.map (pointV v (cidx v x) (cidx v y) w h)⟩, true), .inl ⟨rfl, hc, hx0, hy0, ht⟩, (hev.and (Ev.ge 1048701)).mono fun k ⟨⟨e1, e2⟩, hk⟩ => ?_⟩
    have hp := points_loops v (cidx v x) (cidx v y) w h hx0 hy0 ci cj (fun r hr => cell_bd (row_ok ht hr).2 hx0 (ci r hr)) (fun r hr => cell_bd (row_ok ht hr).2 hy0 (cj r hr)) hrl (k := k) (by omega)
    have d1 : decide (cidx v x < 0) = false := by simpa using hx0
    have d2 : decide (cidx v y < 0) = false := by simpa using hy0
    have hc' : (decide (1 ≤ w) && decide (w ≤ 1000)) = true ∧ (decide (1 ≤ h) && decide (h ≤ 1000)) = true := by simpa [canvas] using hc
    constructor
    · unfold s_PointsOf
      simp only [eS k hk, Option.bind_some, e1, l1In_eq, h5, hc'.1, hc'.2, d1, d2, hp.1]
      rfl
    · unfold i_PointsOf
      simp only [eI k hk, Option.bind_some, e2, i_canvas, h5, hc, d1, d2, hp.2]
      rfl
  · refine ⟨(⟨0, 0, []⟩, false), .inr rfl, (hev.and (Ev.ge 1048701)).mono fun k ⟨⟨e1, e2⟩, hk⟩ => ⟨?_, ?_⟩⟩
    · unfold s_PointsOf
      simp only [eS k hk, Option.bind_some, e1, l1In_eq]
      by_cases h5 : v.kind = 5
      · have hcb : ¬ (b = true ∧ canvas w h = true ∧ decide (cidx v x < 0) = false ∧ decide (cidx v y < 0) = false) := fun hh => hv ⟨h5, hh.1, hh.2.1, by simpa using hh.2.2.1, by simpa using hh.2.2.2⟩
        simp only [h5]
        unfold canvas at hcb
        revert hcb
        cases b <;> cases (decide (1 ≤ w) && decide (w ≤ 1000)) <;> cases (decide (1 ≤ h) && decide (h ≤ 1000)) <;> cases decide (cidx v x < 0) <;> cases decide (cidx v y < 0) <;> simp
      · simp [h5]
    · unfold i_PointsOf
      simp only [eI k hk, Option.bind_some, e2, i_canvas]
      by_cases h5 : v.kind = 5
      · have hcb : ¬ (b = true ∧ canvas w h = true ∧ decide (cidx v x < 0) = false ∧ decide (cidx v y < 0) = false) := fun hh => hv ⟨h5, hh.1, hh.2.1, by simpa using hh.2.2.1, by simpa using hh.2.2.2⟩
        simp only [h5]
        revert hcb
        cases b <;> cases canvas w h <;> cases decide (cidx v x < 0) <;> cases decide (cidx v y < 0) <;> simp
      · simp [h5]
end Go.Proofs.Ytbknilpmpjjfpaa
