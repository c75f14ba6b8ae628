/- A table with small cells: its drawing gives an answer, and the table is no greater than the one drawn first. -/
import Derived.Test.YtbknilpmpjjfpaaDvL
import Derived.Test.YtbknilpmpjjfpaaMd1
import Derived.Test.YtbknilpmpjjfpaaMd5
set_option linter.unusedSimpArgs false
set_option linter.unusedVariables false
namespace Go.Proofs.Ytbknilpmpjjfpaa
open Go.RowKit Am
theorem set_same {α : Type} {l : List α} {i : Nat} {a : α} (h : l[i]? = some a) : l.set i a = l := by
  apply List.ext_getElem?
  intro j
  rw [List.getElem?_set]
  by_cases e : i = j
  · subst e; rw [if_pos rfl, if_pos (List.getElem?_eq_some_iff.1 h).1, h]
  · simp [e]
theorem row_set {rows : List TRow} {i : Nat} {r : TRow} (h : rows[i]? = some r) (j : Nat) (x : Int) : (rows.set i ⟨r.cells.set j x, r.from_⟩).map TRow.bk = rows.map TRow.bk := by
  rw [List.map_set, show (TRow.mk (r.cells.set j x) r.from_).bk = r.bk by rw [TRow.bk_eq, TRow.bk_eq]; simp only [bkS_0, List.length_set]]
  exact set_same (by simp [h])
theorem cells_bk (r : TRow) : r.cells.length ≤ r.bk := by rw [TRow.bk_eq]; simp only [bkS_0]; omega
theorem in_row {U : Nat → List Int → Int → Int → List TRow → Int → Option (List Int × Int × Int × List TRow)} {x : Int} (G : Tl1Cur → Option (Bool × Int × Tl1Cur)) (M : List Nat) (hM : ∀ m ∈ M, m ≤ 100000)
    (hU : ∀ n b i h rows y, U (n + 1) b i h rows y = (at? rows x).bind fun r => if (decide (y < (r.cells.length : Int))) then ((G ⟨b, i, h⟩).bind fun g => if g.1 then (at? r.cells y).bind fun _ => some (g.2.2.b, g.2.2.i, g.2.2.h, rows.set x.toNat (TRow.mk (r.cells.set y.toNat g.2.1) r.from_)) else some (g.2.2.b, g.2.2.i, g.2.2.h, rows)).bind fun s => U n s.1 s.2.1 s.2.2.1 s.2.2.2 (IntKind.i64.wrap (y + 1)) else some (b, i, h, rows))
    (hG : ∀ c, Cu c → Tot (fun r : Bool × Int × Tl1Cur => Cu r.2.2) fun _ => G c) (hx0 : 0 ≤ x) (hx1 : x < M.length) {b : List Int} {i h : Int} {rows : List TRow} (hc : Cu ⟨b, i, h⟩) (hr : rows.map TRow.bk = M) :
    Tot (fun r : List Int × Int × Int × List TRow => Cu ⟨r.1, r.2.1, r.2.2.1⟩ ∧ r.2.2.2.map TRow.bk = M) fun k => U k b i h rows 0 := by
  refine Tot.loop (fun _ n (s : List Int × Int × Int × List TRow × Int) => U n s.1 s.2.1 s.2.2.1 s.2.2.2.1 s.2.2.2.2) (fun s => Cu ⟨s.1, s.2.1, s.2.2.1⟩ ∧ s.2.2.2.1.map TRow.bk = M ∧ 0 ≤ s.2.2.2.2 ∧ s.2.2.2.2 ≤ 100000) (fun s => (100000 - s.2.2.2.2).toNat) (s0 := (b, i, h, rows, 0)) ⟨hc, hr, by simp, by simp⟩ ?_
  rintro ⟨b, i, h, rows, y⟩ ⟨g1, g2, g3, g4⟩
  simp only at g1 g2 g3 g4
  simp only [hU]
  have hlen : rows.length = M.length := by rw [← g2, List.length_map]
  refine .bindAt hx0 (by rw [hlen]; exact hx1) fun r hr hm => .ite (fun e => ?_) fun e => .ret ⟨g1, g2⟩
  have e : y < r.cells.length := by simpa using e
  have hb : r.bk ≤ 100000 := hM _ (by rw [← g2]; exact List.mem_map.2 ⟨r, hm, rfl⟩)
  have := cells_bk r
  have hw : IntKind.i64.wrap (y + 1) = y + 1 := w64 (by omega) (by omega)
  rw [hw]
  refine .bind (p := fun s : List Int × Int × Int × List TRow => Cu ⟨s.1, s.2.1, s.2.2.1⟩ ∧ s.2.2.2.map TRow.bk = M) ?_ fun s hs => TotL.next (s := (s.1, s.2.1, s.2.2.1, s.2.2.2, y + 1)) ⟨⟨hs.1, hs.2, by simp only; omega, by simp only; omega⟩, by simp only; omega⟩
  refine .bind (hG _ g1) fun g hg => .ite (fun _ => .bindAt g3 e fun _ _ _ => .ret ⟨hg, ?_⟩) fun _ => .ret ⟨hg, g2⟩
  simp only
  rw [row_set hr]; exact g2
theorem rows_of {E : Type} {V : Nat → Nat → List Int → Int → Int → List TRow → Int → Option E} {U : Int → Nat → List Int → Int → Int → List TRow → Int → Option (List Int × Int × Int × List TRow)} (f : List Int → Int → Int → List TRow → E) (M : List Nat) (hl : M.length ≤ 1000000) {p : E → Prop} (hp : ∀ b i h rows, Cu ⟨b, i, h⟩ → rows.map TRow.bk = M → p (f b i h rows))
    (hV : ∀ k n b i h rows x, V k (n + 1) b i h rows x = if (decide (x < (rows.length : Int))) then (U x k b i h rows 0).bind fun s => V k n s.1 s.2.1 s.2.2.1 s.2.2.2 (IntKind.i64.wrap (x + 1)) else some (f b i h rows))
    (hU : ∀ (x : Int) (b : List Int) (i h : Int) (rows : List TRow), 0 ≤ x → x < M.length → Cu ⟨b, i, h⟩ → rows.map TRow.bk = M → Tot (fun r : List Int × Int × Int × List TRow => Cu ⟨r.1, r.2.1, r.2.2.1⟩ ∧ r.2.2.2.map TRow.bk = M) fun k => U x k b i h rows 0)
    {b : List Int} {i h : Int} {rows : List TRow} (hc : Cu ⟨b, i, h⟩) (hr : rows.map TRow.bk = M) : Tot p fun k => V k k b i h rows 0 := by
  refine Tot.loop (fun k n (s : List Int × Int × Int × List TRow × Int) => V k n s.1 s.2.1 s.2.2.1 s.2.2.2.1 s.2.2.2.2) (fun s => Cu ⟨s.1, s.2.1, s.2.2.1⟩ ∧ s.2.2.2.1.map TRow.bk = M ∧ 0 ≤ s.2.2.2.2 ∧ s.2.2.2.2 ≤ M.length) (fun s => (M.length - s.2.2.2.2).toNat) (s0 := (b, i, h, rows, 0)) ⟨hc, hr, by simp, by simp⟩ ?_
  rintro ⟨b, i, h, rows, x⟩ ⟨g1, g2, g3, g4⟩
  simp only at g1 g2 g3 g4
  simp only [hV]
  have hlen : rows.length = M.length := by rw [← g2, List.length_map]
  refine .ite (fun e => ?_) fun _ => .ret (hp _ _ _ _ g1 g2)
  have e : x < rows.length := by simpa using e
  have hw : IntKind.i64.wrap (x + 1) = x + 1 := w64 (by omega) (by omega)
  rw [hw]
  refine .bind (hU x b i h rows g3 (by omega) g1 g2) fun s hs => TotL.next (s := (s.1, s.2.1, s.2.2.1, s.2.2.2, x + 1)) ⟨⟨hs.1, hs.2, by simp only; omega, by simp only; omega⟩, by simp only; omega⟩
theorem bkS_map {α : Type} {f : α → Nat} {xs ys : List α} (h : xs.map f = ys.map f) : bkS f xs = bkS f ys := by
  have hl : xs.length = ys.length := by simpa using congrArg List.length h
  unfold bkS sumBk
  rw [h, hl]
theorem tab_bk {v : TValue} {rows : List TRow} (h : rows.map TRow.bk = v.rows.map TRow.bk) : (TValue.mk v.kind v.n v.step v.text v.list v.columns rows).bk = v.bk := by
  rw [TValue.bk_eq, TValue.bk_eq, bkS_map h]
theorem small7_tot {c : Tl1Cur} (h : Cu c) : Tot (Vb 40000) fun k => s_l7Table k c := by
  unfold s_l7Table
  refine .bind (table_tot h) fun v hv => ?_
  have hv1 := hv.1
  have hM : ∀ m ∈ v.1.rows.map TRow.bk, m ≤ 100000 := fun m hm => by
    obtain ⟨r, hr, rfl⟩ := List.mem_map.1 hm
    have := v.1.bk_eq
    have := bkS_get (f := TRow.bk) hr
    omega
  have hl : (v.1.rows.map TRow.bk).length ≤ 1000000 := by
    have := v.1.bk_eq
    have := bkS_len (f := TRow.bk) (xs := v.1.rows)
    simp; omega
  refine .bind (p := fun r : List Int × Int × Int × List TRow => Cu ⟨r.1, r.2.1, r.2.2.1⟩ ∧ r.2.2.2.map TRow.bk = v.1.rows.map TRow.bk)
    (rows_of (V := s_l7Table_u1) (U := fun x => s_l7Table_u2 x) (fun b i h rows => (b, i, h, rows)) _ hl (fun _ _ _ _ g1 g2 => ⟨g1, g2⟩) (fun k n b i h rows x => by rw [s_l7Table_u1])
      (fun x b i h rows h0 h1 g1 g2 => in_row (fun c => (s_l1Once c 8).bind fun z => if (!z.1) = true then (s_l1Below z.2 4).bind fun y => some (true, y.1, y.2) else some (false, 0, z.2)) _ hM
        (fun n b i h rows y => by
          rw [s_l7Table_u2]
          refine congrArg _ (funext fun r => ?_)
          split
          · simp only [Option.bind_assoc]
            refine congrArg _ (funext fun z => ?_)
            cases z.1 <;> simp [Option.bind_assoc]
          · rfl)
        (fun c hc => .bind (once_tot 8 hc) fun z hz => .ite (fun _ => .bind (below_tot 4 hz) fun y hy => .ret hy.2) fun _ => .ret hz) h0 h1 g1 g2) hv.2 rfl) fun r hr => ?_
  obtain ⟨b, i, g, rows⟩ := r
  refine .bind (once_tot 12 hr.1) fun u hu => .ite (fun _ => .bind (bent_tot hu) fun t ht => .ret ⟨ht.1, ht.2⟩) fun _ => .ret ⟨?_, hu⟩
  simp only
  rw [tab_bk hr.2]; omega
end Go.Proofs.Ytbknilpmpjjfpaa
