/- Values that are drawn: there is an answer, and it is small. -/
import Derived.Test.YtbknilpmpjjfpaaDrL
import Derived.Test.YtbknilpmpjjfpaaLs
import Derived.Test.YtbknilpmpjjfpaaMd0
import Derived.Test.YtbknilpmpjjfpaaMd1
set_option linter.unusedSimpArgs false
set_option linter.unusedVariables false
namespace Go.Proofs.Ytbknilpmpjjfpaa
open Go.RowKit Am
theorem bkS_le {α : Type} {f : α → Nat} {B : Nat} : ∀ {xs : List α}, (∀ x ∈ xs, f x ≤ B) → bkS f xs ≤ xs.length * (B + 1)
  | [], _ => by simp [bkS, sumBk]
  | x :: xs, h => by
    have h1 := bkS_le (f := f) (B := B) (xs := xs) fun y hy => h y (List.mem_cons_of_mem _ hy)
    have h2 := h x (List.mem_cons_self ..)
    unfold bkS sumBk at h1 ⊢
    simp only [List.length_cons, List.map_cons, List.sum_cons, Nat.add_mul, Nat.one_mul] at h1 ⊢
    omega
theorem num_tot {c : Tl1Cur} (h : Cu c) : Tot (fun r : Int × Tl1Cur => Cu r.2) fun _ => s_l3Num c := by
  unfold s_l3Num
  refine .bind (once_tot 12 h) fun v hv => .ite (fun _ => ?_) fun _ => ?_
  · exact .bind (pickInt_tot _ hv (by simp)) fun u hu => .ret hu.2
  · exact .bind (below_tot 12 hv) fun u hu => .ret hu.2
def Vb (B : Nat) (r : TValue × Tl1Cur) : Prop := r.1.bk ≤ B ∧ Cu r.2
theorem text_tot {c : Tl1Cur} (h : Cu c) : Tot (fun r : ByteArray × Tl1Cur => r.1.size ≤ 20 ∧ Cu r.2) fun _ => s_l3Text c := by
  unfold s_l3Text
  refine .bind (pick_tot _ h (by simp)) fun v hv => .ret ⟨?_, hv.2⟩
  have := hv.1
  simp only [List.mem_cons, List.not_mem_nil, or_false] at this
  rcases this with e | e | e | e | e | e | e <;> rw [e] <;> decide
theorem atom_bk (k n s : Int) (t : ByteArray) : (TValue.mk k n s t [] [] []).bk = t.size := by rw [TValue.bk_eq]; simp [bkS, sumBk]
theorem list_bk (k n s : Int) (xs : List TValue) : (TValue.mk k n s ⟨#[]⟩ xs [] []).bk = bkS TValue.bk xs := by
  rw [TValue.bk_eq]; simp [bkS, sumBk]
  rfl
theorem draw_loop {x1 : Int × Tl1Cur} {B : Nat} {m : Nat} (hm : m ≤ 4096) (h0 : x1.1 ≤ m) (h1 : Cu x1.2) (G : Nat → Tl1Cur → Option (TValue × Tl1Cur)) (hG : ∀ c, Cu c → Tot (Vb B) fun k => G k c)
    (U : Nat → Nat → List Int → Int → Int → List TValue → Int → Option (List TValue × List Int × Int × Int))
    (hu : ∀ k n b i g out j, U k (n + 1) b i g out j = if decide (j < x1.1) = true then (G k ⟨b, i, g⟩).bind fun y => (app? 112 out [y.1]).bind fun z => U k n y.2.b y.2.i y.2.h z (IntKind.i64.wrap (j + 1)) else some (out, b, i, g)) :
    Tot (fun r : List TValue × List Int × Int × Int => (r.1.length ≤ m ∧ ∀ x ∈ r.1, x.bk ≤ B) ∧ Cu ⟨r.2.1, r.2.2.1, r.2.2.2⟩) fun k => U k k x1.2.b x1.2.i x1.2.h [] 0 := by
  refine Tot.loop (fun k n (s : List Int × Int × Int × List TValue × Int) => U k n s.1 s.2.1 s.2.2.1 s.2.2.2.1 s.2.2.2.2) (fun s => Cu ⟨s.1, s.2.1, s.2.2.1⟩ ∧ (s.2.2.2.1.length : Int) = s.2.2.2.2 ∧ (s.2.2.2.2 ≤ m) ∧ ∀ x ∈ s.2.2.2.1, x.bk ≤ B) (fun s => (m - s.2.2.2.2).toNat) (s0 := (_, _, _, _, 0)) ⟨h1, by simp, by simp, by simp⟩ ?_
  rintro ⟨b, i, g, out, j⟩ ⟨g1, g2, g3, g4⟩
  simp only at g1 g2 g3 g4
  simp only [hu]
  refine .ite (fun e => ?_) fun e => .ret ⟨⟨by simp only; omega, g4⟩, g1⟩
  have e : j < x1.1 := by simpa using e
  have hw : IntKind.i64.wrap (j + 1) = j + 1 := w64 (by omega) (by omega)
  rw [hw]
  refine .bind (hG _ g1) fun y hy => .bindApp (by omega) (by simp; omega) ?_
  refine TotL.next (s := (y.2.b, y.2.i, y.2.h, out ++ [y.1], j + 1)) ⟨⟨hy.2, by simp; omega, by simp only; omega, fun x hx => ?_⟩, by simp only; omega⟩
  simp only [List.mem_append, List.mem_singleton] at hx
  rcases hx with hx | rfl
  · exact g4 x hx
  · exact hy.1
theorem numbers_tot {c : Tl1Cur} (h : Cu c) : Tot (Vb 16) fun k => s_l3Numbers k c := by
  unfold s_l3Numbers
  refine .bind (below_tot 9 h) fun v hv => ?_
  have := draw_loop (x1 := v) (B := 0) (m := 9) (by omega) (by have := hv.1.2.1 (by omega); omega) hv.2 (fun _ c => (s_l3Num c).bind fun x => (s_NumberValue x.1).bind fun y => some (y, x.2))
    (fun c hc => .bind (num_tot hc) fun x hx => ⟨(⟨1, x.1, 0, ⟨#[]⟩, [], [], []⟩, x.2), ⟨by rw [atom_bk]; decide, hx⟩, Ev.of fun _ => rfl⟩) (fun k n => s_l3Numbers_u1 v n)
    (fun k n b i g out j => by rw [s_l3Numbers_u1]; simp only [Option.bind_assoc, Option.bind_some])
  refine .bind this fun r hr => ?_
  obtain ⟨xs, b, i, g⟩ := r
  refine .ret ⟨?_, hr.2⟩
  rw [list_bk]
  have := bkS_le hr.1.2
  have := hr.1.1
  simp only at *
  omega
theorem elem_tot (d : Int) (L : Nat) (hL : 1 < d → ∀ c, Cu c → Tot (Vb L) fun k => s_l3DrawList k c (IntKind.i64.wrap (d - 1))) {c : Tl1Cur} (h : Cu c) : Tot (Vb (max 20 L)) fun k => s_l3Element2 k c d := by
  refine Tot.pred ?_
  simp only [s_l3Element2]
  refine .bind (p := fun v : List Int × Int × Int × Bool => Cu ⟨v.1, v.2.1, v.2.2.1⟩ ∧ (v.2.2.2 = true → 1 < d)) (.ite (fun e => .bind (once_tot 4 h) fun v hv => .ret ⟨hv, fun _ => by simpa using e⟩) fun _ => .ret ⟨h, fun g => by cases g⟩) fun v hv => ?_
  obtain ⟨b, i, g, y⟩ := v
  obtain ⟨h1, h2⟩ := hv
  refine .ite (fun e => .bind (hL (h2 e) _ h1) fun u hu => .ret ⟨Nat.le_trans hu.1 (Nat.le_max_right ..), hu.2⟩) fun _ => .bind (once_tot 4 h1) fun u hu => .ite (fun _ => ?_) fun _ => ?_
  · refine .bind (text_tot hu) fun t ht => ?_
    unfold s_TextValue
    simp only [Option.bind_some]
    refine .ret ⟨?_, ht.2⟩
    rw [atom_bk]; have := ht.1; omega
  · refine .bind (num_tot hu) fun t ht => ?_
    unfold s_NumberValue
    simp only [Option.bind_some]
    refine .ret ⟨?_, ht⟩
    rw [atom_bk]; exact Nat.zero_le _
theorem list_of (d : Int) (B : Nat) (hE : ∀ c, Cu c → Tot (Vb B) fun k => s_l3Element2 k c d) {c : Tl1Cur} (h : Cu c) : Tot (Vb (8 * (B + 1))) fun k => s_l3DrawList k c d := by
  refine Tot.pred ?_
  simp only [s_l3DrawList]
  refine .bind (pickInt_tot _ h (by simp)) fun v hv => ?_
  have hv1 : v.1 ≤ 8 := by
    have := hv.1
    simp only [List.mem_cons, List.not_mem_nil, or_false] at this
    omega
  have := draw_loop (x1 := v) (B := B) (m := 8) (by omega) (by omega) hv.2 (fun k c => s_l3Element2 k c d) hE (fun k n => s_l3DrawList_u1 (s_l3Element2 k) d v n)
    (fun k n b i g out j => by rw [s_l3DrawList_u1])
  refine .bind this fun r hr => ?_
  obtain ⟨xs, b, i, g⟩ := r
  refine .ret ⟨?_, hr.2⟩
  rw [list_bk]
  have h1 := bkS_le hr.1.2
  have h2 := hr.1.1
  simp only at h1 h2 ⊢
  exact Nat.le_trans h1 (Nat.mul_le_mul_right _ h2)
theorem list1_tot {c : Tl1Cur} (h : Cu c) : Tot (Vb 168) fun k => s_l3DrawList k c 1 := list_of 1 20 (fun c hc => (elem_tot 1 0 (fun g => absurd g (by decide)) hc).mono fun v hv => hv) h
theorem list2_tot {c : Tl1Cur} (h : Cu c) : Tot (Vb 1352) fun k => s_l3DrawList k c 2 := list_of 2 168 (fun c hc => (elem_tot 2 168 (fun _ c hc => list1_tot hc) hc).mono fun v hv => hv) h
theorem list3_tot {c : Tl1Cur} (h : Cu c) : Tot (Vb 10824) fun k => s_l3DrawList k c 3 := list_of 3 1352 (fun c hc => (elem_tot 3 1352 (fun _ c hc => list2_tot hc) hc).mono fun v hv => hv) h
-- tables
theorem from_tot {c : Tl1Cur} (h : Cu c) : Tot (fun r : List TOrigin × Tl1Cur => r.1.length ≤ 3 ∧ Cu r.2) fun k => s_l3From k c := by
  unfold s_l3From
  refine .bind (below_tot 3 h) fun v hv => ?_
  refine .bind (p := fun r : List TOrigin × List Int × Int × Int => r.1.length ≤ 3 ∧ Cu ⟨r.2.1, r.2.2.1, r.2.2.2⟩) ?_ fun r hr => .ret hr
  refine Tot.loop (fun k n (s : List Int × Int × Int × List TOrigin × Int × Int) => s_l3From_u1 v n s.1 s.2.1 s.2.2.1 s.2.2.2.1 s.2.2.2.2.1 s.2.2.2.2.2) (fun s => Cu ⟨s.1, s.2.1, s.2.2.1⟩ ∧ (s.2.2.2.1.length : Int) = s.2.2.2.2.2 ∧ s.2.2.2.2.2 ≤ 3) (fun s => (3 - s.2.2.2.2.2).toNat) (s0 := (_, _, _, _, _, 0)) ⟨hv.2, by simp, by simp⟩ ?_
  rintro ⟨b, i, g, out, m, j⟩ ⟨g1, g2, g3⟩
  simp only at g1 g2 g3
  simp only [s_l3From_u1]
  refine .ite (fun e => ?_) fun e => .ret ⟨by simp only; omega, g1⟩
  have e : j < v.1 := by simpa using e
  have e3 : v.1 < 3 := hv.1.2.1 (by omega)
  have hw : IntKind.i64.wrap (j + 1) = j + 1 := w64 (by omega) (by omega)
  rw [hw]
  refine .bind (below_tot 2 g1) fun x hx => .bindApp (by omega) (by simp; omega) (.bind (below_tot 2 hx.2) fun y hy => ?_)
  exact TotL.next (s := (y.2.b, y.2.i, y.2.h, out ++ [_], _, j + 1)) ⟨⟨hy.2, by simp; omega, by simp only; omega⟩, by simp only; omega⟩
theorem cells_tot (n : Int) (hn : n ≤ 16) {b : List Int} {i g : Int} (h : Cu ⟨b, i, g⟩) : Tot (fun r : List Int × Int × Int × List Int => Cu ⟨r.1, r.2.1, r.2.2.1⟩ ∧ r.2.2.2.length ≤ 16) fun k => s_l3DrawTable_u2 n k b i g [] 0 := by
  refine Tot.loop (fun k m (s : List Int × Int × Int × List Int × Int) => s_l3DrawTable_u2 n m s.1 s.2.1 s.2.2.1 s.2.2.2.1 s.2.2.2.2) (fun s => Cu ⟨s.1, s.2.1, s.2.2.1⟩ ∧ (s.2.2.2.1.length : Int) = s.2.2.2.2 ∧ s.2.2.2.2 ≤ 16) (fun s => (16 - s.2.2.2.2).toNat) (s0 := (_, _, _, _, 0)) ⟨h, by simp, by simp⟩ ?_
  rintro ⟨b, i, g, out, j⟩ ⟨g1, g2, g3⟩
  simp only at g1 g2 g3
  simp only [s_l3DrawTable_u2]
  refine .ite (fun e => ?_) fun e => .ret ⟨g1, by simp only; omega⟩
  have e : j < n := by simpa using e
  have hw : IntKind.i64.wrap (j + 1) = j + 1 := w64 (by omega) (by omega)
  rw [hw]
  refine .bind (num_tot g1) fun x hx => .bindApp (by omega) (by simp; omega) ?_
  exact TotL.next (s := (x.2.b, x.2.i, x.2.h, out ++ [_], j + 1)) ⟨⟨hx, by simp; omega, by simp only; omega⟩, by simp only; omega⟩
theorem table_tot {c : Tl1Cur} (h : Cu c) : Tot (Vb 1000) fun k => s_l3DrawTable k c := by
  unfold s_l3DrawTable
  refine .bind (below_tot 3 h) fun v hv => ?_
  have hv1 := hv.1.2.1 (by omega)
  have hv0 := hv.1.1
  have hw : IntKind.i64.wrap (1 + v.1) = 1 + v.1 := w64 (by omega) (by omega)
  rw [hw]
  obtain ⟨m, hm⟩ := Int.eq_ofNat_of_zero_le hv0
  have hs : sub? [(⟨#[97]⟩ : ByteArray), (⟨#[98]⟩ : ByteArray), (⟨#[99]⟩ : ByteArray), (⟨#[120]⟩ : ByteArray)] 0 (1 + v.1) = some ([(⟨#[97]⟩ : ByteArray), (⟨#[98]⟩ : ByteArray), (⟨#[99]⟩ : ByteArray), (⟨#[120]⟩ : ByteArray)].take (1 + v.1).toNat) := by
    unfold sub?
    rw [if_pos ⟨by omega, by omega, by simp; omega⟩]; simp
  rw [hs]
  simp only [Option.bind_some]
  have hcl : ([(⟨#[97]⟩ : ByteArray), (⟨#[98]⟩ : ByteArray), (⟨#[99]⟩ : ByteArray), (⟨#[120]⟩ : ByteArray)].take (1 + v.1).toNat).length = (1 + v.1).toNat := by simp; omega
  have hcs : ∀ s ∈ [(⟨#[97]⟩ : ByteArray), (⟨#[98]⟩ : ByteArray), (⟨#[99]⟩ : ByteArray), (⟨#[120]⟩ : ByteArray)].take (1 + v.1).toNat, s.size ≤ 1 := fun s hs => by
    have := List.mem_of_mem_take hs
    simp only [List.mem_cons, List.not_mem_nil, or_false] at this
    rcases this with e | e | e | e <;> rw [e] <;> decide
  revert hcl hcs
  generalize [(⟨#[97]⟩ : ByteArray), (⟨#[98]⟩ : ByteArray), (⟨#[99]⟩ : ByteArray), (⟨#[120]⟩ : ByteArray)].take (1 + v.1).toNat = cs
  intro hcl hcs
  refine .bindApp (by omega) (by simp; omega) ?_
  refine .bind (p := fun r : List Int × Int × Int × Int × List ByteArray => Cu ⟨r.1, r.2.1, r.2.2.1⟩ ∧ r.2.2.2.1 ≤ 16 ∧ r.2.2.2.2.length ≤ 16 ∧ ∀ s ∈ r.2.2.2.2, s.size ≤ 1) ?_ fun r hr => ?_
  · refine .bind (once_tot 5 hv.2) fun u hu => .ite (fun _ => ?_) fun _ => .ret ⟨hu, by simp only; omega, by simp; omega, by simpa using hcs⟩
    refine .bindAt (by omega) (by simp; omega) fun x _ _ => ?_
    have hcut : cut? (([] ++ cs).set (0 : Int).toNat (⟨#[120]⟩ : ByteArray)) 1 = some ((([] ++ cs).set (0 : Int).toNat (⟨#[120]⟩ : ByteArray)).take 1) := by
      unfold cut?
      rw [if_pos ⟨by omega, by simp; omega⟩]; rfl
    rw [hcut]
    simp only [Option.bind_some]
    refine .ret ⟨hu, by simp only; omega, by simp; omega, fun s hs => ?_⟩
    rcases List.mem_or_eq_of_mem_set (List.mem_of_mem_take hs) with g | g
    · exact hcs s (by simpa using g)
    · rw [g]; decide
  obtain ⟨b, i, g, n, cols⟩ := r
  obtain ⟨r1, r2, r3, r4⟩ := hr
  simp only at r1 r2 r3 r4 ⊢
  refine .bind (below_tot 6 r1) fun w hw => ?_
  have w1 := hw.1.2.1 (by omega)
  refine .bind (p := fun r : List TRow × List Int × Int × Int => (r.1.length ≤ 6 ∧ ∀ x ∈ r.1, x.bk ≤ 19) ∧ Cu ⟨r.2.1, r.2.2.1, r.2.2.2⟩) ?_ fun r hr => .ret ⟨?_, hr.2⟩
  · refine Tot.loop (fun k m (s : List Int × Int × Int × List TRow × Int) => s_l3DrawTable_u1 k n w m s.1 s.2.1 s.2.2.1 s.2.2.2.1 s.2.2.2.2) (fun s => Cu ⟨s.1, s.2.1, s.2.2.1⟩ ∧ (s.2.2.2.1.length : Int) = s.2.2.2.2 ∧ s.2.2.2.2 ≤ 6 ∧ ∀ x ∈ s.2.2.2.1, x.bk ≤ 19) (fun s => (6 - s.2.2.2.2).toNat) (s0 := (_, _, _, _, 0)) ⟨hw.2, by simp, by simp, by simp⟩ ?_
    rintro ⟨b, i, g, out, j⟩ ⟨g1, g2, g3, g4⟩
    simp only at g1 g2 g3 g4
    simp only [s_l3DrawTable_u1]
    refine .ite (fun e => ?_) fun e => .ret ⟨⟨by simp only; omega, g4⟩, g1⟩
    have e : j < w.1 := by simpa using e
    have hw : IntKind.i64.wrap (j + 1) = j + 1 := w64 (by omega) (by omega)
    rw [hw]
    refine .bind (from_tot g1) fun x hx => .bind (cells_tot n r2 hx.2) fun y hy => ?_
    obtain ⟨b1, i1, g5, ys⟩ := y
    obtain ⟨y1, y2⟩ := hy
    refine .bindApp (by omega) (by simp; omega) ?_
    refine TotL.next (s := (b1, i1, g5, out ++ [_], j + 1)) ⟨⟨y1, by simp; omega, by simp only; omega, fun z hz => ?_⟩, by simp only; omega⟩
    simp only [List.mem_append, List.mem_singleton] at hz
    rcases hz with hz | rfl
    · exact g4 z hz
    · rw [TRow.bk_eq]; simp only [bkS_0]; have := hx.1; simp only at y2; omega
  · obtain ⟨⟨q1, q2⟩, q3⟩ := hr
    have a1 := bkS_le q2
    have a2 := bkS_le r4
    have a3 : r.1.length * (19 + 1) ≤ 6 * 20 := Nat.mul_le_mul_right _ q1
    have a4 : cols.length * (1 + 1) ≤ 16 * 2 := Nat.mul_le_mul_right _ r3
    rw [TValue.bk_eq]
    have a0 : (⟨#[]⟩ : ByteArray).size = 0 := rfl
    simp only [bkS, sumBk] at a1 a2 ⊢
    simp at a1 a2 ⊢
    omega
-- any value
theorem bkS_app {α : Type} {f : α → Nat} (xs : List α) (y : α) : bkS f (xs ++ [y]) = bkS f xs + f y + 1 := by
  unfold bkS sumBk
  simp; omega
theorem draw_tot {c : Tl1Cur} (h : Cu c) : Tot (Vb 10824) fun k => s_l3Draw k c := by
  unfold s_l3Draw
  refine .bind (below_tot 10 h) fun v hv => .bind (p := fun _ => True) (.ite (fun _ => .ret trivial) fun _ => .ite (fun _ => .ret trivial) fun _ => .ret trivial) fun b _ => ?_
  refine .ite (fun _ => ?_) fun _ => .ite (fun _ => ?_) fun _ => .ite (fun _ => .bind (list3_tot hv.2) fun u hu => .ret hu) fun _ => .ite (fun _ => .bind (numbers_tot hv.2) fun u hu => .ret ⟨Nat.le_trans hu.1 (by omega), hu.2⟩) fun _ => .ite (fun _ => ?_) fun _ => .ite (fun _ => ?_) fun _ => .bind (table_tot hv.2) fun u hu => .ret ⟨Nat.le_trans hu.1 (by omega), hu.2⟩
  · refine .bind (num_tot hv.2) fun t ht => ?_
    unfold s_NumberValue
    simp only [Option.bind_some]
    exact .ret ⟨by rw [atom_bk]; exact Nat.zero_le _, ht⟩
  · refine .bind (text_tot hv.2) fun t ht => ?_
    unfold s_TextValue
    simp only [Option.bind_some]
    exact .ret ⟨by rw [atom_bk]; have := ht.1; omega, ht.2⟩
  · refine .bind (num_tot hv.2) fun t ht => .bind (num_tot ht) fun u hu => ?_
    unfold s_StreamValue
    simp only [Option.bind_some]
    exact .ret ⟨by rw [atom_bk]; exact Nat.zero_le _, hu⟩
  · refine .bind (below_tot 8 hv.2) fun t ht => ?_
    unfold s_ErrorValue
    simp only [Option.bind_some]
    exact .ret ⟨by rw [atom_bk]; exact Nat.zero_le _, ht.2⟩
theorem any_tot {c : Tl1Cur} (h : Cu c) : Tot (fun r : ByteArray × Tl1Cur => r.1.size ≤ 20 ∧ Cu r.2) fun _ => s_l2Any c := by
  unfold s_l2Any
  refine .bind (once_tot 2 h) fun v hv => .ite (fun _ => ?_) fun _ => ?_
  · unfold s_l2Name
    simp only [Option.bind_assoc, Option.bind_some]
    refine .bind (pick_tot _ hv (by simp)) fun u hu => .ret ⟨?_, hu.2⟩
    have := hu.1
    simp only [List.mem_cons, List.not_mem_nil, or_false] at this
    rcases this with e | e | e | e | e | e | e | e <;> rw [e] <;> decide
  · refine .bind (pick_tot _ hv (by simp)) fun u hu => .ret ⟨?_, hu.2⟩
    have := hu.1
    simp only [List.mem_cons, List.not_mem_nil, or_false] at this
    rcases this with e | e | e | e | e | e | e | e | e | e | e | e <;> rw [e] <;> decide
theorem bent_tot {c : Tl1Cur} (h : Cu c) : Tot (Vb 40000) fun k => s_l3Bent k c := by
  unfold s_l3Bent
  refine .bind (draw_tot h) fun v hv => ?_
  have hb := v.1.bk_eq
  have hv1 := hv.1
  have l1 := bkS_len (f := TValue.bk) (xs := v.1.list)
  have l2 := bkS_len (f := ByteArray.size) (xs := v.1.columns)
  have l3 := bkS_len (f := TRow.bk) (xs := v.1.rows)
  refine .bind (p := fun r : Int × Int × Int × ByteArray × List TValue × List ByteArray × List TRow × List Int × Int × Int => r.2.2.2.1.size + (bkS TValue.bk r.2.2.2.2.1 + (bkS ByteArray.size r.2.2.2.2.2.1 + bkS TRow.bk r.2.2.2.2.2.2.1)) ≤ 40000 ∧ Cu ⟨r.2.2.2.2.2.2.2.1, r.2.2.2.2.2.2.2.2.1, r.2.2.2.2.2.2.2.2.2⟩) ?_ fun r hr => ?_
  · refine .bind (below_tot 16 hv.2) fun u hu => .ite (fun _ => .ret ⟨by simp only; omega, hu.2⟩) fun _ => .ite (fun _ => ?_) fun _ => .ite (fun _ => .bind (below_tot 8 hu.2) fun t ht => .ret ⟨by simp only; omega, ht.2⟩) fun _ => .ite (fun _ => ?_) fun _ => .ite (fun _ => ?_) fun _ => .ite (fun _ => ?_) fun _ => .ite (fun _ => .ret ⟨by simp only; omega, hu.2⟩) fun _ => .ret ⟨by simp only; omega, hu.2⟩
    · have hc : cat? v.1.text (⟨#[120, 34, 121]⟩ : ByteArray) = some (v.1.text ++ ⟨#[120, 34, 121]⟩) := by
        unfold cat?
        have : (⟨#[120, 34, 121]⟩ : ByteArray).size = 3 := rfl
        rw [if_pos (by omega)]
      rw [hc]
      simp only [Option.bind_some]
      refine .ret ⟨?_, hu.2⟩
      have : (⟨#[120, 34, 121]⟩ : ByteArray).size = 3 := rfl
      simp only [ByteArray.size_append]
      omega
    · refine .bind (draw_tot hu.2) fun t ht => .bindApp (by omega) (by simp; omega) (.ret ⟨?_, ht.2⟩)
      simp only [bkS_app]
      have := ht.1
      omega
    · refine .bindApp (by omega) (by simp; omega) (.ret ⟨?_, hu.2⟩)
      simp only [bkS_app]
      have : (TRow.mk [1] [(TOrigin.mk 2 1), (TOrigin.mk 1 1)]).bk = 3 := by rw [TRow.bk_eq]; simp [bkS, sumBk]
      omega
    · refine .bind (any_tot hu.2) fun t ht => .bindApp (by omega) (by simp; omega) (.ret ⟨?_, ht.2⟩)
      simp only [bkS_app]
      have := ht.1
      omega
  · obtain ⟨a1, a2, a3, a4, a5, a6, a7, a8, a9, a10⟩ := r
    obtain ⟨h1, h2⟩ := hr
    refine .ret ⟨?_, h2⟩
    rw [TValue.bk_eq]
    simp only at h1 ⊢
    omega
end Go.Proofs.Ytbknilpmpjjfpaa
