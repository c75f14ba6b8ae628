/- Marks written into what one call has made: lists marked element by element, and the worlds between. -/
import Derived.Test.YtopjlbifglacpaaMarkText
namespace Go.Proofs.Ytopjlbifglacpaa
open Go.RowKit

/-- Marks over a list: each element is marked behind the marks of those before it. -/
def mkL {α : Type} (mk : α → Int → α) (cn : α → Nat) : List α → Int → List α
  | [], _ => []
  | x :: xs, k => mk x k :: mkL mk cn xs (k + cn x)
def cnS {α : Type} (cn : α → Nat) : List α → Nat
  | [] => 0
  | x :: xs => cn x + cnS cn xs
section
variable {α : Type} {mk : α → Int → α} {cn : α → Nat}
theorem mkL_length : ∀ (xs : List α) (k : Int), (mkL mk cn xs k).length = xs.length
  | [], _ => rfl
  | x :: xs, k => by simp only [mkL, List.length_cons, mkL_length xs]
theorem cnS_append : ∀ (xs ys : List α), cnS cn (xs ++ ys) = cnS cn xs + cnS cn ys
  | [], ys => by simp [cnS]
  | x :: xs, ys => by simp only [List.cons_append, cnS, cnS_append xs]; omega
theorem mkL_append : ∀ (xs ys : List α) (k : Int), mkL mk cn (xs ++ ys) k = mkL mk cn xs k ++ mkL mk cn ys (k + cnS cn xs)
  | [], ys, k => by simp [mkL, cnS]
  | x :: xs, ys, k => by
    simp only [List.cons_append, mkL, cnS, mkL_append xs]
    rw [show k + ((cn x + cnS cn xs : Nat) : Int) = k + cn x + cnS cn xs from by omega]
theorem cnS_take_succ (xs : List α) (i : Nat) (h : i < xs.length) : cnS cn (xs.take (i + 1)) = cnS cn (xs.take i) + cn xs[i] := by
  rw [List.take_succ_eq_append_getElem h, cnS_append]; simp [cnS]
theorem cnS_take_le (xs : List α) (i : Nat) : cnS cn (xs.take i) ≤ cnS cn xs := by
  have h := cnS_append (cn := cn) (xs.take i) (xs.drop i)
  rw [List.take_append_drop] at h; omega
theorem mkL_take_succ (xs : List α) (i : Nat) (k : Int) (h : i < xs.length) : mkL mk cn (xs.take (i + 1)) k = mkL mk cn (xs.take i) k ++ [mk xs[i] (k + cnS cn (xs.take i))] := by
  rw [List.take_succ_eq_append_getElem h, mkL_append]; rfl
theorem mkL_get (xs : List α) (i : Nat) (k : Int) (h : i < xs.length) : (mkL mk cn xs k)[i]'(by rw [mkL_length]; exact h) = mk xs[i] (k + cnS cn (xs.take i)) := by
  have e : xs = xs.take i ++ xs[i] :: xs.drop (i + 1) := by rw [List.getElem_cons_drop, List.take_append_drop]
  have h1 : mkL mk cn xs k = mkL mk cn (xs.take i) k ++ (mk xs[i] (k + cnS cn (xs.take i)) :: mkL mk cn (xs.drop (i + 1)) (k + cnS cn (xs.take i) + cn xs[i])) := by
    conv => lhs; rw [e]
    rw [mkL_append]; rfl
  have hl : (mkL mk cn (xs.take i) k).length = i := by rw [mkL_length, List.length_take]; omega
  have h2 : (mkL mk cn xs k)[i]? = some (mk xs[i] (k + cnS cn (xs.take i))) := by
    rw [h1, List.getElem?_append_right (by omega), hl]; simp
  have h3 := List.getElem?_eq_getElem (l := mkL mk cn xs k) (i := i) (by rw [mkL_length]; exact h)
  rw [h3] at h2
  exact Option.some.inj h2
end

/-- Only blocks of F, and new ones, differ. -/
structure Off (F : List Nat) (w w' : World) : Prop where
  os : w'.os = w.os
  tape : w'.tape = w.tape
  output : w'.output = w.output
  size : w.heap.size ≤ w'.heap.size
  block : ∀ b, b < w.heap.size → b ∉ F → w'.heap[b]? = w.heap[b]?

section
variable {F G : List Nat} {w w' w1 : World}
theorem Off.refl (F : List Nat) (w : World) : Off F w w := ⟨rfl, rfl, rfl, Nat.le_refl _, fun _ _ _ => rfl⟩
theorem Off.trans (h : Off F w w') (k : Off F w' w1) : Off F w w1 :=
  ⟨k.os.trans h.os, k.tape.trans h.tape, k.output.trans h.output, Nat.le_trans h.size k.size, fun b hb hF => (k.block b (Nat.lt_of_lt_of_le hb h.size) hF).trans (h.block b hb hF)⟩
theorem Off.sub (h : Off F w w') (hs : ∀ b ∈ F, b ∈ G) : Off G w w' := ⟨h.os, h.tape, h.output, h.size, fun b hb hG => h.block b hb fun hF => hG (hs b hF)⟩
theorem Off.of_below (h : Below w.heap.size w w') : Off F w w' := ⟨h.os, h.tape, h.output, h.size, fun b hb _ => h.block b hb⟩
theorem Off.set (w : World) {p : Addr} (hp : p.block ∈ F) (u : Value) : Off F w (w.setCell p u) :=
  ⟨rfl, rfl, rfl, by rw [size_set]; exact Nat.le_refl _, fun b _ hF => Below.heap_setCell _ _ _ _ (fun e => hF (e ▸ hp))⟩
theorem Off.below {B : Nat} (h : Off F w w') (hB : B ≤ w.heap.size) (hF : ∀ b ∈ F, B ≤ b) : Below B w w' :=
  ⟨h.os, h.tape, h.output, h.size, fun b hb => h.block b (by omega) fun hm => by have := hF b hm; omega⟩
theorem Off.cell (h : Off F w w') {b o : Nat} {u : Value} (hF : b ∉ F) (hc : w.cell? ⟨b, o, none⟩ = some u) : w'.cell? ⟨b, o, none⟩ = some u :=
  (World.cell?_of_block (w := w) (w' := w') (a := ⟨b, o, none⟩) (h.block b (World.block_lt_of_cell? w _ hc) hF)).trans hc
theorem Off.same (h : Off F w w') (hG : ∀ b ∈ G, b < w.heap.size) (hd : ∀ b ∈ G, b ∉ F) : Same w w' G := ⟨h.size, fun b hb => h.block b (hG b hb) (hd b hb)⟩
theorem Off.rep {d : D} {cs : List Value} (h : Off F w w') (k : Rep w d cs G) (hd : ∀ b ∈ G, b ∉ F) : Rep w' d cs G := k.keep (h.same k.lt hd)
theorem Off.plain (h : Off F w w') {b : Nat} (k : Plain w b) (hF : b ∉ F) : Plain w' b := by
  obtain ⟨cur, t, e⟩ := k
  exact ⟨cur, t, (h.block b (Array.getElem?_eq_some_iff.1 e).1 hF).trans e⟩
theorem Plain.set {b : Nat} (k : Plain w b) (p : Addr) (u : Value) : Plain (w.setCell p u) b := by
  obtain ⟨cur, t, e⟩ := k
  by_cases hb : b = p.block
  · subst hb
    by_cases hs : p.spot.isSome = true
    · exact ⟨cur, t, by simp [World.setCell, Array.getElem?_modify, e, hs]⟩
    · exact ⟨cur.setIfInBounds p.off u, t, by simp [World.setCell, Array.getElem?_modify, e, hs]⟩
  · exact ⟨cur, t, (Below.heap_setCell _ _ _ _ hb).trans e⟩
theorem Plain.next {b : Nat} (k : Plain w b) (h : Below w.heap.size w w') : Plain w' b := by
  obtain ⟨cur, t, e⟩ := k
  exact ⟨cur, t, (h.block b (Array.getElem?_eq_some_iff.1 e).1).trans e⟩
theorem Plain.free {b : Nat} (k : Plain w b) (o : Nat) : w.frozen? ⟨b, o, none⟩ = false := by
  obtain ⟨cur, t, e⟩ := k
  exact frozen_of_row w b o cur t e
end

/-- While one element is marked: wr the world at its start, b the slice's block, lo .. hi the element's places, Fi the blocks that it goes through. -/
structure Trk (wr W : World) (b lo hi : Nat) (Fi : List Nat) : Prop where
  off : Off (b :: Fi) wr W
  out : ∀ o, (o < lo ∨ hi ≤ o) → W.cell? ⟨b, o, none⟩ = wr.cell? ⟨b, o, none⟩
  here : Plain W b
  inner : ∀ q ∈ Fi, Plain W q
section
variable {wr W W1 : World} {b lo hi : Nat} {Fi : List Nat}
theorem Trk.start (h : Plain wr b) (k : ∀ q ∈ Fi, Plain wr q) : Trk wr wr b lo hi Fi := ⟨Off.refl _ _, fun _ _ => rfl, h, k⟩
theorem Trk.set (h : Trk wr W b lo hi Fi) (j : Nat) (hj : lo + j < hi) (u : Value) : Trk wr (W.setCell ⟨b, lo + j, none⟩ u) b lo hi Fi :=
  ⟨h.off.trans (Off.set W (by simp) u), fun o ho => (World.cell?_setCell_other W ⟨b, lo + j, none⟩ ⟨b, o, none⟩ u (fun e => by injection e with _ e; omega)).trans (h.out o ho), h.here.set _ _, fun q hq => (h.inner q hq).set _ _⟩
theorem Trk.next (h : Trk wr W b lo hi Fi) (hb : Below W.heap.size W W1) : Trk wr W1 b lo hi Fi :=
  ⟨h.off.trans (Off.of_below hb), fun o ho => (hb.cell (p := ⟨b, o, none⟩) h.here.lt).trans (h.out o ho), h.here.next hb, fun q hq => (h.inner q hq).next hb⟩
theorem Trk.step {G : List Nat} (h : Trk wr W b lo hi Fi) (k : Off G W W1) (hG : ∀ q ∈ G, q ∈ Fi) (hbG : b ∉ G) (hp : ∀ q ∈ G, Plain W1 q) : Trk wr W1 b lo hi Fi := by
  refine ⟨h.off.trans (k.sub fun q hq => List.mem_cons_of_mem _ (hG q hq)), fun o ho => ?_, k.plain h.here hbG, fun q hq => ?_⟩
  · exact (World.cell?_of_block (w := W) (w' := W1) (a := ⟨b, o, none⟩) (k.block b h.here.lt hbG)).trans (h.out o ho)
  · by_cases hm : q ∈ G
    · exact hp q hm
    · exact k.plain (h.inner q hq) hm
theorem CellsAt.setAt {ys : List Value} (h : CellsAt W b lo ys) (j : Nat) (hj : j < ys.length) (u : Value) : CellsAt (W.setCell ⟨b, lo + j, none⟩ u) b lo (ys.set j u) := by
  intro i v hv
  by_cases e : i = j
  · subst e
    rw [List.getElem?_set_self hj] at hv
    obtain rfl := Option.some.inj hv
    have h0 := h i _ (List.getElem?_eq_getElem hj)
    exact World.cell?_setCell_same W ⟨b, lo + i, none⟩ _ h0
  · rw [List.getElem?_set_ne (fun h => e h.symm)] at hv
    rw [World.cell?_setCell_other _ _ _ _ (fun e' => by injection e' with _ e'; omega)]
    exact h i v hv
theorem CellsAt.next {ys : List Value} (h : CellsAt W b lo ys) (hb : Below W.heap.size W W1) : CellsAt W1 b lo ys := fun j u hu => cell_next hb (h j u hu)
theorem CellsAt.step {G : List Nat} {ys : List Value} (h : CellsAt W b lo ys) (k : Off G W W1) (hb : b ∉ G) : CellsAt W1 b lo ys := fun j u hu => k.cell hb (h j u hu)
end

/-- One element taken out of a slice, and put back marked. -/
theorem SlAt.take_out {w : World} {A : Option Addr} {n c W : Nat} {ds es : List D} {x : D} {F : List Nat} (h : SlAt w (.slice A n c) (ds ++ x :: es) F) (hW : ∀ d ∈ ds ++ x :: es, wd d = W) (hW0 : 0 < W) (hn : F.Nodup) :
    ∃ b off ys Fi, A = some ⟨b, off, none⟩ ∧ b ∈ F ∧ b ∉ Fi ∧ Fi.Nodup ∧ (∀ q ∈ Fi, q ∈ F) ∧ Rep w x ys Fi ∧ ys.length = W ∧ CellsAt w b (off + ds.length * W) ys ∧
      ∀ (w' : World) (x' : D) (ys' : List Value), ys'.length = W → Rep w' x' ys' Fi → CellsAt w' b (off + ds.length * W) ys' → Trk w w' b (off + ds.length * W) (off + ds.length * W + W) Fi →
        SlAt w' (.slice A n c) (ds ++ x' :: es) F := by
  have h' := h
  unfold SlAt at h'
  unfold Rep at h'
  obtain ⟨A', c', e1, e2, e3, e4⟩ := h'
  have ea : A = A' ∧ n = (ds ++ x :: es).length ∧ c = c' := by
    injection e1 with e1 _; injection e1 with a1 a2 a3; exact ⟨a1, a2, a3⟩
  obtain ⟨rfl, rfl, rfl⟩ := ea
  rcases e4 with ⟨e4, _⟩ | ⟨b, off, xs, Fs, rfl, hb, rfl, hc, hr⟩
  · simp at e4
  obtain ⟨c1, c2, F1, F2, rfl, rfl, r1, r2⟩ := RepL.split hr
  simp only [RepL] at r2
  obtain ⟨c3, c4, F3, F4, rfl, rfl, r3, r4⟩ := r2
  have hnd := List.nodup_cons.1 hn
  have l1 : c1.length = ds.length * W := by rw [r1.len, wdL_uniform (W := W) _ (fun d hd => hW d (by simp [hd]))]
  have l3 : c3.length = W := by rw [r3.len]; exact hW x (by simp)
  have hn2 := List.nodup_append.1 hnd.2
  have hn3 := List.nodup_append.1 hn2.2.1
  refine ⟨b, off, c3, F3, rfl, by simp, fun hm => hnd.1 (by simp [hm]), hn3.1, fun q hq => by simp [hq], r3, l3, ?_, ?_⟩
  · intro j u hu
    have := hc (ds.length * W + j) u (by rw [List.getElem?_append_right (by omega), List.getElem?_append_left (by rw [l1]; have := (List.getElem?_eq_some_iff.1 hu).1; omega), l1, show ds.length * W + j - ds.length * W = j from by omega]; exact hu)
    rwa [Nat.add_assoc]
  · intro w' x' ys' hl hx' hys ht
    have keep1 : Same w w' F1 := ⟨ht.off.size, fun q hq => ht.off.block q (r1.lt q hq) (fun hm => by
      rcases List.mem_cons.1 hm with rfl | hm
      · exact hnd.1 (by simp [hq])
      · exact hn2.2.2 q hq q (by simp [hm]) rfl)⟩
    have keep4 : Same w w' F4 := ⟨ht.off.size, fun q hq => ht.off.block q (r4.lt q hq) (fun hm => by
      rcases List.mem_cons.1 hm with rfl | hm
      · exact hnd.1 (by simp [hq])
      · exact hn3.2.2 q hm q hq rfl)⟩
    unfold SlAt
    unfold Rep
    refine ⟨some ⟨b, off, none⟩, c, by simp, by simpa using e2, e3, .inr ⟨b, off, c1 ++ (ys' ++ c4), F1 ++ (F3 ++ F4), rfl, Nat.lt_of_lt_of_le hb ht.off.size, rfl, ?_, ?_⟩⟩
    · intro j u hu
      by_cases hj1 : j < ds.length * W
      · rw [List.getElem?_append_left (by omega)] at hu
        rw [ht.out (off + j) (by left; omega)]
        exact hc j u (by rw [List.getElem?_append_left (by omega)]; exact hu)
      · by_cases hj2 : j < ds.length * W + W
        · rw [List.getElem?_append_right (by omega), List.getElem?_append_left (by omega), l1] at hu
          have := hys (j - ds.length * W) u hu
          rwa [show off + ds.length * W + (j - ds.length * W) = off + j from by omega] at this
        · rw [List.getElem?_append_right (by omega), List.getElem?_append_right (by omega), l1, hl] at hu
          rw [ht.out (off + j) (by right; omega)]
          exact hc j u (by rw [List.getElem?_append_right (by omega), List.getElem?_append_right (by omega), l1, l3]; exact hu)
    · exact (r1.keep keep1).append (by simp only [RepL]; exact ⟨ys', c4, F3, F4, rfl, rfl, hx', r4.keep keep4⟩)

theorem mk_intE {w : World} {a b : Int} (h : I64 b) (e : a = b) : Rep w (.int a) [.int .i64 b] [] := by subst e; exact mk_int h
theorem mk_boolE {w : World} {a b : Bool} (e : a = b) : Rep w (.bool a) [.bool b] [] := by subst e; exact mk_bool
theorem mk_strE {w : World} {k k' : Int} (h : k' ≤ 1099511627776) (e : k = k') : Rep w (.str (mText k)) [.string (mText k')] [] := by subst e; exact mk_str (mText_fits h)
theorem mk_slE {w : World} {A : Option Addr} {n c : Nat} {es es' : List D} {F : List Nat} (h : SlAt w (.slice A n c) es F) (e : es' = es) : Rep w (.sl es') [.slice A n c] F := by subst e; exact h
theorem i64_mid {k : Int} (h0 : 0 ≤ k) (h1 : k ≤ 1099511627776) : I64 k := by unfold I64; omega
theorem Trk.plains {wr W : World} {b lo hi : Nat} {Fi F : List Nat} (h : Trk wr W b lo hi Fi) (hp : ∀ q ∈ F, Plain wr q) : ∀ q ∈ F, Plain W q := by
  intro q hq
  by_cases e : q = b
  · subst e; exact h.here
  by_cases hm : q ∈ Fi
  · exact h.inner q hm
  · exact h.off.plain (hp q hq) (fun hm' => by rcases List.mem_cons.1 hm' with rfl | hm'; exact e rfl; exact hm hm')
theorem nodup_two {F G : List Nat} (h : (F ++ G).Nodup) : (∀ q ∈ F, q ∉ G) ∧ (∀ q ∈ G, q ∉ F) ∧ F.Nodup ∧ G.Nodup := by
  have h := List.nodup_append.1 h
  exact ⟨fun q hq hm => h.2.2 q hq q hm rfl, fun q hq hm => h.2.2 q hm q hq rfl, h.1, h.2.1⟩
theorem int_eq {a b : Int} (h : a = b) : Value.int .i64 a = .int .i64 b := by rw [h]
theorem rep_cs {w : World} {d : D} {cs cs' : List Value} {F : List Nat} (h : Rep w d cs F) (e : cs = cs') : Rep w d cs' F := e ▸ h
theorem slAt_n {w : World} {A : Option Addr} {n n' c : Nat} {es : List D} {F : List Nat} (h : SlAt w (.slice A n c) es F) (e : n' = n) : SlAt w (.slice A n' c) es F := e ▸ h
theorem plains_next {w w' : World} {F : List Nat} (h : ∀ q ∈ F, Plain w q) (hb : Below w.heap.size w w') : ∀ q ∈ F, Plain w' q := fun q hq => (h q hq).next hb
theorem notin_new {w w' : World} {G : List Nat} {b : Nat} (f : Fr w.heap.size w' G) (hb : b < w.heap.size) : b ∉ G := fun hm => by have := (f.2 b hm).1; omega
theorem apart_new {w w' : World} {F G : List Nat} (h : ∀ q ∈ F, Plain w q) (f : Fr w.heap.size w' G) : ∀ q ∈ F, q ∉ G := fun q h1 h2 => by have := (h q h1).lt; have := (f.2 q h2).1; omega
theorem low_new {a w w' : World} {G : List Nat} (f : Fr w.heap.size w' G) (hs : a.heap.size ≤ w.heap.size) : ∀ q ∈ G, a.heap.size ≤ q := fun q hq => Nat.le_trans hs (f.2 q hq).1
theorem cnS_le {α : Type} {cn : α → Nat} {d : α → D} {C : Nat} (h : ∀ x, cn x ≤ C * (1 + bk (d x))) : ∀ xs : List α, cnS cn xs ≤ C * (xs.length + bkL (xs.map d))
  | [] => by simp [cnS]
  | x :: xs => by
    have h1 := h x
    have h2 := cnS_le h xs
    simp only [cnS, List.length_cons, List.map_cons, bkL]
    rw [show xs.length + 1 + (bk (d x) + bkL (xs.map d)) = (1 + bk (d x)) + (xs.length + bkL (xs.map d)) from by omega, Nat.mul_add]
    omega
end Go.Proofs.Ytopjlbifglacpaa
