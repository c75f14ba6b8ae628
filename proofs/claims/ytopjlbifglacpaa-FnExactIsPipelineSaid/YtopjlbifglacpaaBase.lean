/- Plain data as trees, and what it means that cells of memory read as such a tree; nothing of the program is used here. -/
import Derived.Test.YtopjlbifglacpaaRows
import Derived.WalkKit
import Derived.WalkSpells
import Derived.WalkLawsBesides
import Derived.Deep.Draws
import Derived.Lib.Hide
set_option linter.unusedSimpArgs false
set_option linter.unusedVariables false
namespace Go.Proofs.Ytopjlbifglacpaa
open Go.RowKit

/-- A plain datum: a number, a byte, a truth value, a text, a struct, a slice. -/
inductive D where
  | int (n : Int)
  | byte (n : Int)
  | bool (b : Bool)
  | str (s : ByteArray)
  | agg (fs : List D)
  | sl (es : List D)

/-- The number fits 64 bits. -/
def I64 (n : Int) : Prop := -9223372036854775808 ≤ n ∧ n ≤ 9223372036854775807

mutual
/-- How many cells a datum takes. -/
def wd : D → Nat
  | .int _ => 1
  | .byte _ => 1
  | .bool _ => 1
  | .str _ => 1
  | .agg fs => wdL fs
  | .sl _ => 1
def wdL : List D → Nat
  | [] => 0
  | d :: ds => wd d + wdL ds
end

/-- The cells from this place on are these. -/
def CellsAt (w : World) (b off : Nat) (xs : List Value) : Prop := ∀ j u, xs[j]? = some u → w.cell? ⟨b, off + j, none⟩ = some u

mutual
/-- The cells `cs` read as the datum; `F`: the blocks that are gone through, one for each slice that has memory. -/
def Rep (w : World) : D → List Value → List Nat → Prop
  | .int n, cs, F => cs = [.int .i64 n] ∧ F = [] ∧ I64 n
  | .byte n, cs, F => cs = [.int .u8 n] ∧ F = [] ∧ 0 ≤ n ∧ n ≤ 255
  | .bool b, cs, F => cs = [.bool b] ∧ F = []
  | .str s, cs, F => cs = [.string s] ∧ F = [] ∧ s.size ≤ 9223372036854775807
  | .agg fs, cs, F => RepL w fs cs F
  | .sl es, cs, F => ∃ A c, cs = [.slice A es.length c] ∧ es.length ≤ c ∧ c ≤ 9223372036854775807 ∧
      ((es = [] ∧ F = []) ∨ ∃ b off xs Fs, A = some ⟨b, off, none⟩ ∧ b < w.heap.size ∧ F = b :: Fs ∧ CellsAt w b off xs ∧ RepL w es xs Fs)
def RepL (w : World) : List D → List Value → List Nat → Prop
  | [], cs, F => cs = [] ∧ F = []
  | d :: ds, cs, F => ∃ c1 c2 F1 F2, cs = c1 ++ c2 ∧ F = F1 ++ F2 ∧ Rep w d c1 F1 ∧ RepL w ds c2 F2
end

mutual
theorem Rep.len {w : World} : ∀ {d : D} {cs : List Value} {F : List Nat}, Rep w d cs F → cs.length = wd d
  | .int _, _, _, h => by simp only [Rep] at h; simp [h.1, wd]
  | .byte _, _, _, h => by simp only [Rep] at h; simp [h.1, wd]
  | .bool _, _, _, h => by simp only [Rep] at h; simp [h.1, wd]
  | .str _, _, _, h => by simp only [Rep] at h; simp [h.1, wd]
  | .agg _, _, _, h => by simp only [Rep] at h; simp only [wd]; exact RepL.len h
  | .sl _, _, _, h => by simp only [Rep] at h; obtain ⟨A, c, h, _⟩ := h; simp [h, wd]
theorem RepL.len {w : World} : ∀ {ds : List D} {cs : List Value} {F : List Nat}, RepL w ds cs F → cs.length = wdL ds
  | [], _, _, h => by simp only [RepL] at h; simp [h.1, wdL]
  | _ :: _, _, _, h => by
    simp only [RepL] at h
    obtain ⟨c1, c2, F1, F2, rfl, rfl, h1, h2⟩ := h
    simp only [List.length_append, wdL, Rep.len h1, RepL.len h2]
end

/-- What the two worlds share: the blocks of F. -/
def Same (w w' : World) (F : List Nat) : Prop := w.heap.size ≤ w'.heap.size ∧ ∀ b ∈ F, w'.heap[b]? = w.heap[b]?

theorem Same.left {w w' : World} {F G : List Nat} (h : Same w w' (F ++ G)) : Same w w' F := ⟨h.1, fun b hb => h.2 b (List.mem_append_left _ hb)⟩
theorem Same.right {w w' : World} {F G : List Nat} (h : Same w w' (F ++ G)) : Same w w' G := ⟨h.1, fun b hb => h.2 b (List.mem_append_right _ hb)⟩
theorem Same.tail {w w' : World} {b : Nat} {G : List Nat} (h : Same w w' (b :: G)) : Same w w' G := ⟨h.1, fun x hx => h.2 x (List.mem_cons_of_mem _ hx)⟩
theorem Same.refl (w : World) (F : List Nat) : Same w w F := ⟨Nat.le_refl _, fun _ _ => rfl⟩
theorem Same.trans {a b c : World} {F : List Nat} (h : Same a b F) (k : Same b c F) : Same a c F := ⟨Nat.le_trans h.1 k.1, fun x hx => (k.2 x hx).trans (h.2 x hx)⟩
theorem Same.sub {w w' : World} {F G : List Nat} (h : Same w w' F) (hs : ∀ b ∈ G, b ∈ F) : Same w w' G := ⟨h.1, fun b hb => h.2 b (hs b hb)⟩
theorem Same.below {B : Nat} {w w' : World} {F : List Nat} (h : Below B w w') (hF : ∀ b ∈ F, b < B) : Same w w' F := ⟨h.size, fun b hb => h.block b (hF b hb)⟩

theorem CellsAt.keep {w w' : World} {b off : Nat} {xs : List Value} (h : CellsAt w b off xs) (hb : w'.heap[b]? = w.heap[b]?) : CellsAt w' b off xs :=
  fun j u hu => (World.cell?_of_block (w := w) (w' := w') (a := ⟨b, off + j, none⟩) hb).trans (h j u hu)

mutual
/-- A reading stays where its blocks stay. -/
theorem Rep.keep {w w' : World} : ∀ {d : D} {cs : List Value} {F : List Nat}, Rep w d cs F → Same w w' F → Rep w' d cs F
  | .int _, _, _, h, _ => by simp only [Rep] at h ⊢; exact h
  | .byte _, _, _, h, _ => by simp only [Rep] at h ⊢; exact h
  | .bool _, _, _, h, _ => by simp only [Rep] at h ⊢; exact h
  | .str _, _, _, h, _ => by simp only [Rep] at h ⊢; exact h
  | .agg _, _, _, h, hs => by simp only [Rep] at h ⊢; exact RepL.keep h hs
  | .sl _, _, _, h, hs => by
    simp only [Rep] at h ⊢
    obtain ⟨A, c, h1, h2, h3, h4⟩ := h
    refine ⟨A, c, h1, h2, h3, ?_⟩
    rcases h4 with h4 | ⟨b, off, xs, Fs, e1, e2, e3, e4, e5⟩
    · exact .inl h4
    · subst e3
      exact .inr ⟨b, off, xs, Fs, e1, Nat.lt_of_lt_of_le e2 hs.1, rfl, e4.keep (hs.2 b (by simp)), RepL.keep e5 hs.tail⟩
theorem RepL.keep {w w' : World} : ∀ {ds : List D} {cs : List Value} {F : List Nat}, RepL w ds cs F → Same w w' F → RepL w' ds cs F
  | [], _, _, h, _ => by simp only [RepL] at h ⊢; exact h
  | _ :: _, _, _, h, hs => by
    simp only [RepL] at h ⊢
    obtain ⟨c1, c2, F1, F2, rfl, rfl, h1, h2⟩ := h
    exact ⟨c1, c2, F1, F2, rfl, rfl, Rep.keep h1 hs.left, RepL.keep h2 hs.right⟩
end

mutual
/-- The blocks of a reading are there. -/
theorem Rep.lt {w : World} : ∀ {d : D} {cs : List Value} {F : List Nat}, Rep w d cs F → ∀ b ∈ F, b < w.heap.size
  | .int _, _, _, h => by simp only [Rep] at h; simp [h.2.1]
  | .byte _, _, _, h => by simp only [Rep] at h; simp [h.2.1]
  | .bool _, _, _, h => by simp only [Rep] at h; simp [h.2]
  | .str _, _, _, h => by simp only [Rep] at h; simp [h.2.1]
  | .agg _, _, _, h => by simp only [Rep] at h; exact RepL.lt h
  | .sl _, _, _, h => by
    simp only [Rep] at h
    obtain ⟨A, c, h1, h2, h3, h4⟩ := h
    rcases h4 with ⟨_, rfl⟩ | ⟨b, off, xs, Fs, e1, e2, e3, e4, e5⟩
    · simp
    · subst e3
      intro x hx
      rcases List.mem_cons.1 hx with rfl | hx
      · exact e2
      · exact RepL.lt e5 x hx
theorem RepL.lt {w : World} : ∀ {ds : List D} {cs : List Value} {F : List Nat}, RepL w ds cs F → ∀ b ∈ F, b < w.heap.size
  | [], _, _, h => by simp only [RepL] at h; simp [h.2]
  | _ :: _, _, _, h => by
    simp only [RepL] at h
    obtain ⟨c1, c2, F1, F2, rfl, rfl, h1, h2⟩ := h
    intro x hx
    rcases List.mem_append.1 hx with hx | hx
    · exact Rep.lt h1 x hx
    · exact RepL.lt h2 x hx
end

theorem Rep.below {w w' : World} {d : D} {cs : List Value} {F : List Nat} (h : Rep w d cs F) (hb : Below w.heap.size w w') : Rep w' d cs F :=
  h.keep (Same.below hb h.lt)
theorem RepL.below {w w' : World} {d : List D} {cs : List Value} {F : List Nat} (h : RepL w d cs F) (hb : Below w.heap.size w w') : RepL w' d cs F :=
  h.keep (Same.below hb h.lt)

theorem RepL.append {w : World} : ∀ {ds es : List D} {c1 c2 : List Value} {F1 F2 : List Nat}, RepL w ds c1 F1 → RepL w es c2 F2 → RepL w (ds ++ es) (c1 ++ c2) (F1 ++ F2)
  | [], _, _, _, _, _, h, k => by simp only [RepL] at h; obtain ⟨rfl, rfl⟩ := h; simpa using k
  | d :: ds, es, _, _, _, _, h, k => by
    simp only [RepL] at h
    obtain ⟨c1, c2, F1, F2, rfl, rfl, h1, h2⟩ := h
    simp only [List.cons_append, RepL]
    exact ⟨c1, _, F1, _, by rw [List.append_assoc], by rw [List.append_assoc], h1, RepL.append h2 k⟩

theorem RepL.one {w : World} {d : D} {cs : List Value} {F : List Nat} (h : Rep w d cs F) : RepL w [d] cs F := by
  simp only [RepL]
  exact ⟨cs, [], F, [], by simp, by simp, h, rfl, rfl⟩

theorem RepL.split {w : World} : ∀ {ds es : List D} {cs : List Value} {F : List Nat}, RepL w (ds ++ es) cs F → ∃ c1 c2 F1 F2, cs = c1 ++ c2 ∧ F = F1 ++ F2 ∧ RepL w ds c1 F1 ∧ RepL w es c2 F2
  | [], _, cs, F, h => ⟨[], cs, [], F, rfl, rfl, ⟨rfl, rfl⟩, h⟩
  | d :: ds, es, cs, F, h => by
    simp only [List.cons_append, RepL] at h
    obtain ⟨c1, c2, F1, F2, rfl, rfl, h1, h2⟩ := h
    obtain ⟨c3, c4, F3, F4, rfl, rfl, h3, h4⟩ := RepL.split h2
    refine ⟨c1 ++ c3, c4, F1 ++ F3, F4, by rw [List.append_assoc], by rw [List.append_assoc], ?_, h4⟩
    simp only [RepL]
    exact ⟨c1, c3, F1, F3, rfl, rfl, h1, h3⟩

theorem wdL_uniform {W : Nat} : ∀ (ds : List D), (∀ d ∈ ds, wd d = W) → wdL ds = ds.length * W
  | [], _ => by simp [wdL]
  | d :: ds, h => by
    simp only [wdL, List.length_cons, wdL_uniform ds (fun x hx => h x (List.mem_cons_of_mem _ hx)), h d (by simp)]
    rw [Nat.add_mul]; omega

/-- The element at a place: its cells stand at that place times the width. -/
theorem RepL.get {w : World} {ds : List D} {cs : List Value} {F : List Nat} {W i : Nat} (h : RepL w ds cs F) (hW : ∀ d ∈ ds, wd d = W) (hi : i < ds.length) :
    ∃ ys Fi, Rep w ds[i] ys Fi ∧ ys.length = W ∧ (∀ b ∈ Fi, b ∈ F) ∧ ∀ j, j < W → cs[i * W + j]? = ys[j]? := by
  have e : ds = ds.take i ++ ds[i] :: ds.drop (i + 1) := by rw [List.getElem_cons_drop, List.take_append_drop]
  rw [e] at h
  obtain ⟨c1, c2, F1, F2, rfl, rfl, h1, h2⟩ := RepL.split h
  simp only [RepL] at h2
  obtain ⟨c3, c4, F3, F4, rfl, rfl, h3, h4⟩ := h2
  have l1 : c1.length = i * W := by
    rw [h1.len, wdL_uniform (W := W) _ (fun d hd => hW d (List.mem_of_mem_take hd)), List.length_take, Nat.min_eq_left (by omega)]
  have l3 : c3.length = W := by rw [h3.len]; exact hW _ (List.getElem_mem hi)
  refine ⟨c3, F3, h3, l3, fun b hb => by simp [hb], fun j hj => ?_⟩
  rw [List.getElem?_append_right (by omega), List.getElem?_append_left (by omega)]
  congr 1; omega

/-- A slice that reads as `es`, opened: its length; and, at an index in range, the element's cells. -/
def SlAt (w : World) (v : Value) (es : List D) (F : List Nat) : Prop := Rep w (.sl es) [v] F

theorem SlAt.form {w : World} {v : Value} {es : List D} {F : List Nat} (h : SlAt w v es F) : ∃ A c, v = .slice A es.length c ∧ es.length ≤ c ∧ c ≤ 9223372036854775807 := by
  simp only [SlAt, Rep] at h
  obtain ⟨A, c, h1, h2, h3, _⟩ := h
  exact ⟨A, c, by simpa using h1, h2, h3⟩

theorem SlAt.at_ {w : World} {A : Option Addr} {n c : Nat} {es : List D} {F : List Nat} {W i : Nat} (h : SlAt w (.slice A n c) es F) (hW : ∀ d ∈ es, wd d = W) (hi : i < es.length) :
    ∃ b off ys Fi, A = some ⟨b, off, none⟩ ∧ b < w.heap.size ∧ b ∈ F ∧ Rep w es[i] ys Fi ∧ ys.length = W ∧ (∀ x ∈ Fi, x ∈ F) ∧ ∀ j u, ys[j]? = some u → w.cell? ⟨b, off + i * W + j, none⟩ = some u := by
  simp only [SlAt, Rep] at h
  obtain ⟨A', c', h1, h2, h3, h4⟩ := h
  have hA : A = A' := by injection h1 with h1; injection h1
  subst hA
  rcases h4 with ⟨rfl, _⟩ | ⟨b, off, xs, Fs, e1, e2, rfl, e4, e5⟩
  · simp at hi
  · obtain ⟨ys, Fi, g1, g2, g3, g4⟩ := e5.get hW hi
    refine ⟨b, off, ys, Fi, e1, e2, by simp, g1, g2, fun x hx => List.mem_cons_of_mem _ (g3 x hx), fun j u hu => by rw [Nat.add_assoc]; exact e4 _ u ((g4 j (by have := (List.getElem?_eq_some_iff.1 hu).1; omega)).trans hu)⟩

end Go.Proofs.Ytopjlbifglacpaa
