/- Plain data cell by cell: what it means that cells read as such data, and that their memory is new and held by nobody else; nothing of the program is used here. -/
import Derived.Test.YtopjlbifglacpaaRows
import Derived.WalkKit
import Derived.WalkSpells
import Derived.WalkLawsBesides
import Derived.Lib.Hide
set_option linter.unusedSimpArgs false
set_option linter.unusedVariables false
namespace Go.Proofs.Ytopjlbifglacpaa.Am
open Go.RowKit

/-- What one cell reads as: a number, a truth value, a text, a slice (its elements, each the list of its cells). -/
inductive L where
  | int (k : IntKind) (n : Int)
  | bool (b : Bool)
  | str (s : ByteArray)
  | sl (es : List (List L))

/-- The number fits its kind. -/
def InK (k : IntKind) (n : Int) : Prop := k.wrap n = n
/-- The text's length fits. -/
def Fit (s : ByteArray) : Prop := s.size ≤ 9223372036854775807

def At (w : World) (b off : Nat) (xs : List Value) : Prop := ∀ j u, xs[j]? = some u → w.cell? ⟨b, off + j, none⟩ = some u

mutual
/-- The cell's value reads as the datum; F: the blocks that are gone through. -/
def Rp (w : World) : L → Value → List Nat → Prop
  | .int k n, v, F => v = .int k n ∧ F = [] ∧ InK k n
  | .bool b, v, F => v = .bool b ∧ F = []
  | .str s, v, F => v = .string s ∧ F = [] ∧ Fit s
  | .sl es, v, F => ∃ A c, v = .slice A es.length c ∧ es.length ≤ c ∧ c ≤ 9223372036854775807 ∧
      ((es = [] ∧ F = []) ∨ ∃ b off xs Fs, A = some ⟨b, off, none⟩ ∧ b < w.heap.size ∧ F = b :: Fs ∧ At w b off xs ∧ RpE w es xs Fs)
def RpL (w : World) : List L → List Value → List Nat → Prop
  | [], vs, F => vs = [] ∧ F = []
  | x :: xs, vs, F => ∃ v vs' F1 F2, vs = v :: vs' ∧ F = F1 ++ F2 ∧ Rp w x v F1 ∧ RpL w xs vs' F2
def RpE (w : World) : List (List L) → List Value → List Nat → Prop
  | [], vs, F => vs = [] ∧ F = []
  | e :: es, vs, F => ∃ v1 v2 F1 F2, vs = v1 ++ v2 ∧ F = F1 ++ F2 ∧ RpL w e v1 F1 ∧ RpE w es v2 F2
end

mutual
/-- The same, and the memory is new (N), plain, with the slice's whole capacity known. -/
def Ow (N : Nat → Prop) (w : World) : L → Value → List Nat → Prop
  | .int k n, v, F => v = .int k n ∧ F = [] ∧ InK k n
  | .bool b, v, F => v = .bool b ∧ F = []
  | .str s, v, F => v = .string s ∧ F = [] ∧ Fit s
  | .sl es, v, F => ∃ A c, v = .slice A es.length c ∧ c ≤ 9223372036854775807 ∧
      ((es = [] ∧ A = none ∧ c = 0 ∧ F = []) ∨ ∃ b t cur Fs W, A = some ⟨b, 0, none⟩ ∧ N b ∧ w.heap[b]? = some (.cells cur t (0, 0)) ∧ es.length ≤ c ∧ cur.size = c * W ∧ (∀ e ∈ es, e.length = W) ∧ (es = [] → c = 0) ∧
        F = b :: Fs ∧ OwE N w es (cur.toList.take (es.length * W)) Fs)
def OwL (N : Nat → Prop) (w : World) : List L → List Value → List Nat → Prop
  | [], vs, F => vs = [] ∧ F = []
  | x :: xs, vs, F => ∃ v vs' F1 F2, vs = v :: vs' ∧ F = F1 ++ F2 ∧ Ow N w x v F1 ∧ OwL N w xs vs' F2
def OwE (N : Nat → Prop) (w : World) : List (List L) → List Value → List Nat → Prop
  | [], vs, F => vs = [] ∧ F = []
  | e :: es, vs, F => ∃ v1 v2 F1 F2, vs = v1 ++ v2 ∧ F = F1 ++ F2 ∧ OwL N w e v1 F1 ∧ OwE N w es v2 F2
end

def width : List (List L) → Nat
  | [] => 0
  | e :: es => e.length + width es
theorem width_uniform {W : Nat} : ∀ {es : List (List L)}, (∀ e ∈ es, e.length = W) → width es = es.length * W
  | [], _ => by simp [width]
  | e :: es, h => by
    simp only [width, List.length_cons, width_uniform (es := es) (fun x hx => h x (List.mem_cons_of_mem _ hx)), h e (by simp)]
    rw [Nat.add_mul]; omega

theorem RpL.len {w : World} : ∀ {xs : List L} {vs : List Value} {F : List Nat}, RpL w xs vs F → vs.length = xs.length
  | [], _, _, h => by simp only [RpL] at h; simp [h.1]
  | _ :: _, _, _, h => by
    simp only [RpL] at h
    obtain ⟨v, vs', F1, F2, rfl, rfl, _, h2⟩ := h
    simp [RpL.len h2]
theorem RpE.len {w : World} : ∀ {es : List (List L)} {vs : List Value} {F : List Nat}, RpE w es vs F → vs.length = width es
  | [], _, _, h => by simp only [RpE] at h; simp [h.1, width]
  | _ :: _, _, _, h => by
    simp only [RpE] at h
    obtain ⟨v1, v2, F1, F2, rfl, rfl, h1, h2⟩ := h
    simp [RpE.len h2, h1.len, width]

/-- What two worlds share: the blocks of F. -/
def Sm (w w' : World) (F : List Nat) : Prop := w.heap.size ≤ w'.heap.size ∧ ∀ b ∈ F, w'.heap[b]? = w.heap[b]?
theorem Sm.refl (w : World) (F : List Nat) : Sm w w F := ⟨Nat.le_refl _, fun _ _ => rfl⟩
theorem Sm.left {w w' : World} {F G : List Nat} (h : Sm w w' (F ++ G)) : Sm w w' F := ⟨h.1, fun b hb => h.2 b (List.mem_append_left _ hb)⟩
theorem Sm.right {w w' : World} {F G : List Nat} (h : Sm w w' (F ++ G)) : Sm w w' G := ⟨h.1, fun b hb => h.2 b (List.mem_append_right _ hb)⟩
theorem Sm.tail {w w' : World} {b : Nat} {G : List Nat} (h : Sm w w' (b :: G)) : Sm w w' G := ⟨h.1, fun x hx => h.2 x (List.mem_cons_of_mem _ hx)⟩
theorem Sm.sub {w w' : World} {F G : List Nat} (h : Sm w w' F) (hs : ∀ b ∈ G, b ∈ F) : Sm w w' G := ⟨h.1, fun b hb => h.2 b (hs b hb)⟩

theorem At.keep {w w' : World} {b off : Nat} {xs : List Value} (h : At w b off xs) (hb : w'.heap[b]? = w.heap[b]?) : At w' b off xs :=
  fun j u hu => (World.cell?_of_block (w := w) (w' := w') (a := ⟨b, off + j, none⟩) hb).trans (h j u hu)

mutual
theorem Rp.keep {w w' : World} : ∀ {x : L} {v : Value} {F : List Nat}, Rp w x v F → Sm w w' F → Rp w' x v F
  | .int _ _, _, _, h, _ => by simp only [Rp] at h ⊢; exact h
  | .bool _, _, _, h, _ => by simp only [Rp] at h ⊢; exact h
  | .str _, _, _, h, _ => by simp only [Rp] at h ⊢; exact h
  | .sl _, _, _, h, hs => by
    simp only [Rp] at h ⊢
    obtain ⟨A, c, h1, h2, h3, h4⟩ := h
    refine ⟨A, c, h1, h2, h3, ?_⟩
    rcases h4 with h4 | ⟨b, off, xs, Fs, e1, e2, e3, e4, e5⟩
    · exact .inl h4
    · subst e3
      exact .inr ⟨b, off, xs, Fs, e1, Nat.lt_of_lt_of_le e2 hs.1, rfl, e4.keep (hs.2 b (by simp)), RpE.keep e5 hs.tail⟩
theorem RpL.keep {w w' : World} : ∀ {xs : List L} {vs : List Value} {F : List Nat}, RpL w xs vs F → Sm w w' F → RpL w' xs vs F
  | [], _, _, h, _ => by simp only [RpL] at h ⊢; exact h
  | _ :: _, _, _, h, hs => by
    simp only [RpL] at h ⊢
    obtain ⟨v, vs', F1, F2, rfl, rfl, h1, h2⟩ := h
    exact ⟨v, vs', F1, F2, rfl, rfl, Rp.keep h1 hs.left, RpL.keep h2 hs.right⟩
theorem RpE.keep {w w' : World} : ∀ {es : List (List L)} {vs : List Value} {F : List Nat}, RpE w es vs F → Sm w w' F → RpE w' es vs F
  | [], _, _, h, _ => by simp only [RpE] at h ⊢; exact h
  | _ :: _, _, _, h, hs => by
    simp only [RpE] at h ⊢
    obtain ⟨v1, v2, F1, F2, rfl, rfl, h1, h2⟩ := h
    exact ⟨v1, v2, F1, F2, rfl, rfl, RpL.keep h1 hs.left, RpE.keep h2 hs.right⟩
end

mutual
theorem Ow.keep {N : Nat → Prop} {w w' : World} : ∀ {x : L} {v : Value} {F : List Nat}, Ow N w x v F → Sm w w' F → Ow N w' x v F
  | .int _ _, _, _, h, _ => by simp only [Ow] at h ⊢; exact h
  | .bool _, _, _, h, _ => by simp only [Ow] at h ⊢; exact h
  | .str _, _, _, h, _ => by simp only [Ow] at h ⊢; exact h
  | .sl _, _, _, h, hs => by
    simp only [Ow] at h ⊢
    obtain ⟨A, c, h1, h2, h4⟩ := h
    refine ⟨A, c, h1, h2, ?_⟩
    rcases h4 with h4 | ⟨b, t, cur, Fs, W, e1, e2, e3, e4, e5, e6, e7, e8, e9⟩
    · exact .inl h4
    · subst e8
      exact .inr ⟨b, t, cur, Fs, W, e1, e2, (hs.2 b (by simp)).trans e3, e4, e5, e6, e7, rfl, OwE.keep e9 hs.tail⟩
theorem OwL.keep {N : Nat → Prop} {w w' : World} : ∀ {xs : List L} {vs : List Value} {F : List Nat}, OwL N w xs vs F → Sm w w' F → OwL N w' xs vs F
  | [], _, _, h, _ => by simp only [OwL] at h ⊢; exact h
  | _ :: _, _, _, h, hs => by
    simp only [OwL] at h ⊢
    obtain ⟨v, vs', F1, F2, rfl, rfl, h1, h2⟩ := h
    exact ⟨v, vs', F1, F2, rfl, rfl, Ow.keep h1 hs.left, OwL.keep h2 hs.right⟩
theorem OwE.keep {N : Nat → Prop} {w w' : World} : ∀ {es : List (List L)} {vs : List Value} {F : List Nat}, OwE N w es vs F → Sm w w' F → OwE N w' es vs F
  | [], _, _, h, _ => by simp only [OwE] at h ⊢; exact h
  | _ :: _, _, _, h, hs => by
    simp only [OwE] at h ⊢
    obtain ⟨v1, v2, F1, F2, rfl, rfl, h1, h2⟩ := h
    exact ⟨v1, v2, F1, F2, rfl, rfl, OwL.keep h1 hs.left, OwE.keep h2 hs.right⟩
end

mutual
theorem Ow.mono {N M : Nat → Prop} {w : World} (hm : ∀ b, N b → M b) : ∀ {x : L} {v : Value} {F : List Nat}, Ow N w x v F → Ow M w x v F
  | .int _ _, _, _, h => by simp only [Ow] at h ⊢; exact h
  | .bool _, _, _, h => by simp only [Ow] at h ⊢; exact h
  | .str _, _, _, h => by simp only [Ow] at h ⊢; exact h
  | .sl _, _, _, h => by
    simp only [Ow] at h ⊢
    obtain ⟨A, c, h1, h2, h4⟩ := h
    refine ⟨A, c, h1, h2, ?_⟩
    rcases h4 with h4 | ⟨b, t, cur, Fs, W, e1, e2, e3, e4, e5, e6, e7, e8, e9⟩
    · exact .inl h4
    · exact .inr ⟨b, t, cur, Fs, W, e1, hm _ e2, e3, e4, e5, e6, e7, e8, OwE.mono hm e9⟩
theorem OwL.mono {N M : Nat → Prop} {w : World} (hm : ∀ b, N b → M b) : ∀ {xs : List L} {vs : List Value} {F : List Nat}, OwL N w xs vs F → OwL M w xs vs F
  | [], _, _, h => by simp only [OwL] at h ⊢; exact h
  | _ :: _, _, _, h => by
    simp only [OwL] at h ⊢
    obtain ⟨v, vs', F1, F2, h0, h00, h1, h2⟩ := h
    exact ⟨v, vs', F1, F2, h0, h00, Ow.mono hm h1, OwL.mono hm h2⟩
theorem OwE.mono {N M : Nat → Prop} {w : World} (hm : ∀ b, N b → M b) : ∀ {es : List (List L)} {vs : List Value} {F : List Nat}, OwE N w es vs F → OwE M w es vs F
  | [], _, _, h => by simp only [OwE] at h ⊢; exact h
  | _ :: _, _, _, h => by
    simp only [OwE] at h ⊢
    obtain ⟨v1, v2, F1, F2, h0, h00, h1, h2⟩ := h
    exact ⟨v1, v2, F1, F2, h0, h00, OwL.mono hm h1, OwE.mono hm h2⟩
end

mutual
/-- The blocks of what is owned are there, plain, new. -/
theorem Ow.blocks {N : Nat → Prop} {w : World} : ∀ {x : L} {v : Value} {F : List Nat}, Ow N w x v F → ∀ b ∈ F, N b ∧ ∃ cur t, w.heap[b]? = some (.cells cur t (0, 0))
  | .int _ _, _, _, h => by simp only [Ow] at h; simp [h.2.1]
  | .bool _, _, _, h => by simp only [Ow] at h; simp [h.2]
  | .str _, _, _, h => by simp only [Ow] at h; simp [h.2.1]
  | .sl _, _, _, h => by
    simp only [Ow] at h
    obtain ⟨A, c, h1, h2, h4⟩ := h
    rcases h4 with ⟨_, _, _, rfl⟩ | ⟨b, t, cur, Fs, W, e1, e2, e3, e4, e5, e6, e7, e8, e9⟩
    · simp
    · subst e8
      intro x hx
      rcases List.mem_cons.1 hx with rfl | hx
      · exact ⟨e2, cur, t, e3⟩
      · exact OwE.blocks e9 x hx
theorem OwL.blocks {N : Nat → Prop} {w : World} : ∀ {xs : List L} {vs : List Value} {F : List Nat}, OwL N w xs vs F → ∀ b ∈ F, N b ∧ ∃ cur t, w.heap[b]? = some (.cells cur t (0, 0))
  | [], _, _, h => by simp only [OwL] at h; simp [h.2]
  | _ :: _, _, _, h => by
    simp only [OwL] at h
    obtain ⟨v, vs', F1, F2, rfl, rfl, h1, h2⟩ := h
    intro x hx
    rcases List.mem_append.1 hx with hx | hx
    · exact Ow.blocks h1 x hx
    · exact OwL.blocks h2 x hx
theorem OwE.blocks {N : Nat → Prop} {w : World} : ∀ {es : List (List L)} {vs : List Value} {F : List Nat}, OwE N w es vs F → ∀ b ∈ F, N b ∧ ∃ cur t, w.heap[b]? = some (.cells cur t (0, 0))
  | [], _, _, h => by simp only [OwE] at h; simp [h.2]
  | _ :: _, _, _, h => by
    simp only [OwE] at h
    obtain ⟨v1, v2, F1, F2, rfl, rfl, h1, h2⟩ := h
    intro x hx
    rcases List.mem_append.1 hx with hx | hx
    · exact OwL.blocks h1 x hx
    · exact OwE.blocks h2 x hx
end

theorem lt_of_some {w : World} {b : Nat} {o : Obj} (h : w.heap[b]? = some o) : b < w.heap.size := (Array.getElem?_eq_some_iff.1 h).1

mutual
theorem Rp.lt {w : World} : ∀ {x : L} {v : Value} {F : List Nat}, Rp w x v F → ∀ b ∈ F, b < w.heap.size
  | .int _ _, _, _, h => by simp only [Rp] at h; simp [h.2.1]
  | .bool _, _, _, h => by simp only [Rp] at h; simp [h.2]
  | .str _, _, _, h => by simp only [Rp] at h; simp [h.2.1]
  | .sl _, _, _, h => by
    simp only [Rp] at h
    obtain ⟨A, c, h1, h2, h3, h4⟩ := h
    rcases h4 with ⟨_, rfl⟩ | ⟨b, off, xs, Fs, e1, e2, e3, e4, e5⟩
    · simp
    · subst e3
      intro x hx
      rcases List.mem_cons.1 hx with rfl | hx
      · exact e2
      · exact RpE.lt e5 x hx
theorem RpL.lt {w : World} : ∀ {xs : List L} {vs : List Value} {F : List Nat}, RpL w xs vs F → ∀ b ∈ F, b < w.heap.size
  | [], _, _, h => by simp only [RpL] at h; simp [h.2]
  | _ :: _, _, _, h => by
    simp only [RpL] at h
    obtain ⟨v, vs', F1, F2, rfl, rfl, h1, h2⟩ := h
    intro x hx
    rcases List.mem_append.1 hx with hx | hx
    · exact Rp.lt h1 x hx
    · exact RpL.lt h2 x hx
theorem RpE.lt {w : World} : ∀ {es : List (List L)} {vs : List Value} {F : List Nat}, RpE w es vs F → ∀ b ∈ F, b < w.heap.size
  | [], _, _, h => by simp only [RpE] at h; simp [h.2]
  | _ :: _, _, _, h => by
    simp only [RpE] at h
    obtain ⟨v1, v2, F1, F2, rfl, rfl, h1, h2⟩ := h
    intro x hx
    rcases List.mem_append.1 hx with hx | hx
    · exact RpL.lt h1 x hx
    · exact RpE.lt h2 x hx
end

theorem OwL.len {N : Nat → Prop} {w : World} : ∀ {xs : List L} {vs : List Value} {F : List Nat}, OwL N w xs vs F → vs.length = xs.length
  | [], _, _, h => by simp only [OwL] at h; simp [h.1]
  | _ :: _, _, _, h => by
    simp only [OwL] at h
    obtain ⟨v, vs', F1, F2, rfl, rfl, _, h2⟩ := h
    simp [OwL.len h2]
theorem OwE.len {N : Nat → Prop} {w : World} : ∀ {es : List (List L)} {vs : List Value} {F : List Nat}, OwE N w es vs F → vs.length = width es
  | [], _, _, h => by simp only [OwE] at h; simp [h.1, width]
  | _ :: _, _, _, h => by
    simp only [OwE] at h
    obtain ⟨v1, v2, F1, F2, rfl, rfl, h1, h2⟩ := h
    simp [OwE.len h2, h1.len, width]

theorem at_row {w : World} {b : Nat} {cur : Array Value} {t : TypeId} {fr : Nat × Nat} (h : w.heap[b]? = some (.cells cur t fr)) (n : Nat) : At w b 0 (cur.toList.take n) := by
  intro j u hu
  rw [Nat.zero_add, cell_of_row w b j cur t fr h]
  rw [List.getElem?_take] at hu
  split at hu
  · simpa using hu
  · cases hu

mutual
/-- What is owned can be read. -/
theorem Ow.rp {N : Nat → Prop} {w : World} : ∀ {x : L} {v : Value} {F : List Nat}, Ow N w x v F → Rp w x v F
  | .int _ _, _, _, h => by simp only [Ow, Rp] at h ⊢; exact h
  | .bool _, _, _, h => by simp only [Ow, Rp] at h ⊢; exact h
  | .str _, _, _, h => by simp only [Ow, Rp] at h ⊢; exact h
  | .sl _, _, _, h => by
    simp only [Ow, Rp] at h ⊢
    obtain ⟨A, c, h1, h2, h4⟩ := h
    rcases h4 with ⟨e1, e2, e3, e4⟩ | ⟨b, t, cur, Fs, W, e1, e2, e3, e4, e5, e6, e7, e8, e9⟩
    · exact ⟨A, c, h1, by simp [e1], h2, .inl ⟨e1, e4⟩⟩
    · exact ⟨A, c, h1, e4, h2, .inr ⟨b, 0, _, Fs, e1, lt_of_some e3, e8, at_row e3 _, OwE.rp e9⟩⟩
theorem OwL.rp {N : Nat → Prop} {w : World} : ∀ {xs : List L} {vs : List Value} {F : List Nat}, OwL N w xs vs F → RpL w xs vs F
  | [], _, _, h => by simp only [OwL, RpL] at h ⊢; exact h
  | _ :: _, _, _, h => by
    simp only [OwL, RpL] at h ⊢
    obtain ⟨v, vs', F1, F2, h0, h00, h1, h2⟩ := h
    exact ⟨v, vs', F1, F2, h0, h00, Ow.rp h1, OwL.rp h2⟩
theorem OwE.rp {N : Nat → Prop} {w : World} : ∀ {es : List (List L)} {vs : List Value} {F : List Nat}, OwE N w es vs F → RpE w es vs F
  | [], _, _, h => by simp only [OwE, RpE] at h ⊢; exact h
  | _ :: _, _, _, h => by
    simp only [OwE, RpE] at h ⊢
    obtain ⟨v1, v2, F1, F2, h0, h00, h1, h2⟩ := h
    exact ⟨v1, v2, F1, F2, h0, h00, OwL.rp h1, OwE.rp h2⟩
end

/-- No slice inside. -/
def L.flat : L → Bool
  | .sl _ => false
  | _ => true
def flatL (xs : List L) : Bool := xs.all L.flat
def flatE (es : List (List L)) : Bool := es.all flatL

theorem Rp.flat {w : World} {N : Nat → Prop} {x : L} {v : Value} {F : List Nat} (h : Rp w x v F) (hf : x.flat = true) : F = [] ∧ Ow N w x v [] := by
  cases x <;> simp only [Rp, Ow, L.flat] at h hf ⊢
  · simp [h.1, h.2.1, h.2.2]
  · simp [h.1, h.2]
  · simp [h.1, h.2.1, h.2.2]
  · cases hf
theorem RpL.flat {w : World} {N : Nat → Prop} : ∀ {xs : List L} {vs : List Value} {F : List Nat}, RpL w xs vs F → flatL xs = true → F = [] ∧ OwL N w xs vs []
  | [], _, _, h, _ => by simp only [RpL, OwL] at h ⊢; simp [h.1, h.2]
  | x :: xs, _, _, h, hf => by
    simp only [RpL] at h
    obtain ⟨v, vs', F1, F2, rfl, rfl, h1, h2⟩ := h
    simp only [flatL, List.all_cons, Bool.and_eq_true] at hf
    obtain ⟨e1, o1⟩ := h1.flat (N := N) hf.1
    obtain ⟨e2, o2⟩ := RpL.flat (N := N) h2 hf.2
    subst e1 e2
    refine ⟨rfl, ?_⟩
    simp only [OwL]
    exact ⟨v, vs', [], [], rfl, rfl, o1, o2⟩
theorem RpE.flat {w : World} {N : Nat → Prop} : ∀ {es : List (List L)} {vs : List Value} {F : List Nat}, RpE w es vs F → flatE es = true → F = [] ∧ OwE N w es vs []
  | [], _, _, h, _ => by simp only [RpE, OwE] at h ⊢; simp [h.1, h.2]
  | x :: xs, _, _, h, hf => by
    simp only [RpE] at h
    obtain ⟨v, vs', F1, F2, rfl, rfl, h1, h2⟩ := h
    simp only [flatE, List.all_cons, Bool.and_eq_true] at hf
    obtain ⟨e1, o1⟩ := h1.flat (N := N) hf.1
    obtain ⟨e2, o2⟩ := RpE.flat (N := N) h2 hf.2
    subst e1 e2
    refine ⟨rfl, ?_⟩
    simp only [OwE]
    exact ⟨v, vs', [], [], rfl, rfl, o1, o2⟩

theorem RpL.append {w : World} : ∀ {xs ys : List L} {v1 v2 : List Value} {F1 F2 : List Nat}, RpL w xs v1 F1 → RpL w ys v2 F2 → RpL w (xs ++ ys) (v1 ++ v2) (F1 ++ F2)
  | [], _, _, _, _, _, h, k => by simp only [RpL] at h; obtain ⟨rfl, rfl⟩ := h; simpa using k
  | x :: xs, _, _, _, _, _, h, k => by
    simp only [RpL] at h
    obtain ⟨v, vs', G1, G2, rfl, rfl, h1, h2⟩ := h
    simp only [List.cons_append, RpL]
    exact ⟨v, _, G1, _, rfl, by rw [List.append_assoc], h1, RpL.append h2 k⟩
theorem RpE.append {w : World} : ∀ {xs ys : List (List L)} {v1 v2 : List Value} {F1 F2 : List Nat}, RpE w xs v1 F1 → RpE w ys v2 F2 → RpE w (xs ++ ys) (v1 ++ v2) (F1 ++ F2)
  | [], _, _, _, _, _, h, k => by simp only [RpE] at h; obtain ⟨rfl, rfl⟩ := h; simpa using k
  | x :: xs, _, _, _, _, _, h, k => by
    simp only [RpE] at h
    obtain ⟨v, vs', G1, G2, rfl, rfl, h1, h2⟩ := h
    simp only [List.cons_append, RpE]
    exact ⟨v, _, G1, _, by rw [List.append_assoc], by rw [List.append_assoc], h1, RpE.append h2 k⟩
theorem OwL.append {N : Nat → Prop} {w : World} : ∀ {xs ys : List L} {v1 v2 : List Value} {F1 F2 : List Nat}, OwL N w xs v1 F1 → OwL N w ys v2 F2 → OwL N w (xs ++ ys) (v1 ++ v2) (F1 ++ F2)
  | [], _, _, _, _, _, h, k => by simp only [OwL] at h; obtain ⟨rfl, rfl⟩ := h; simpa using k
  | x :: xs, _, _, _, _, _, h, k => by
    simp only [OwL] at h
    obtain ⟨v, vs', G1, G2, rfl, rfl, h1, h2⟩ := h
    simp only [List.cons_append, OwL]
    exact ⟨v, _, G1, _, rfl, by rw [List.append_assoc], h1, OwL.append h2 k⟩
theorem OwE.append {N : Nat → Prop} {w : World} : ∀ {xs ys : List (List L)} {v1 v2 : List Value} {F1 F2 : List Nat}, OwE N w xs v1 F1 → OwE N w ys v2 F2 → OwE N w (xs ++ ys) (v1 ++ v2) (F1 ++ F2)
  | [], _, _, _, _, _, h, k => by simp only [OwE] at h; obtain ⟨rfl, rfl⟩ := h; simpa using k
  | x :: xs, _, _, _, _, _, h, k => by
    simp only [OwE] at h
    obtain ⟨v, vs', G1, G2, rfl, rfl, h1, h2⟩ := h
    simp only [List.cons_append, OwE]
    exact ⟨v, _, G1, _, by rw [List.append_assoc], by rw [List.append_assoc], h1, OwE.append h2 k⟩

theorem RpL.split {w : World} : ∀ {xs ys : List L} {vs : List Value} {F : List Nat}, RpL w (xs ++ ys) vs F → ∃ v1 v2 F1 F2, vs = v1 ++ v2 ∧ F = F1 ++ F2 ∧ RpL w xs v1 F1 ∧ RpL w ys v2 F2
  | [], _, vs, F, h => ⟨[], vs, [], F, rfl, rfl, ⟨rfl, rfl⟩, h⟩
  | x :: xs, ys, vs, F, h => by
    simp only [List.cons_append, RpL] at h
    obtain ⟨v, vs', F1, F2, rfl, rfl, h1, h2⟩ := h
    obtain ⟨v3, v4, F3, F4, rfl, rfl, h3, h4⟩ := RpL.split h2
    refine ⟨v :: v3, v4, F1 ++ F3, F4, rfl, by rw [List.append_assoc], ?_, h4⟩
    simp only [RpL]
    exact ⟨v, v3, F1, F3, rfl, rfl, h1, h3⟩
theorem RpE.split {w : World} : ∀ {xs ys : List (List L)} {vs : List Value} {F : List Nat}, RpE w (xs ++ ys) vs F → ∃ v1 v2 F1 F2, vs = v1 ++ v2 ∧ F = F1 ++ F2 ∧ RpE w xs v1 F1 ∧ RpE w ys v2 F2
  | [], _, vs, F, h => ⟨[], vs, [], F, rfl, rfl, ⟨rfl, rfl⟩, h⟩
  | x :: xs, ys, vs, F, h => by
    simp only [List.cons_append, RpE] at h
    obtain ⟨v, vs', F1, F2, rfl, rfl, h1, h2⟩ := h
    obtain ⟨v3, v4, F3, F4, rfl, rfl, h3, h4⟩ := RpE.split h2
    refine ⟨v ++ v3, v4, F1 ++ F3, F4, by rw [List.append_assoc], by rw [List.append_assoc], ?_, h4⟩
    simp only [RpE]
    exact ⟨v, v3, F1, F3, rfl, rfl, h1, h3⟩
theorem OwE.split {N : Nat → Prop} {w : World} : ∀ {xs ys : List (List L)} {vs : List Value} {F : List Nat}, OwE N w (xs ++ ys) vs F → ∃ v1 v2 F1 F2, vs = v1 ++ v2 ∧ F = F1 ++ F2 ∧ OwE N w xs v1 F1 ∧ OwE N w ys v2 F2
  | [], _, vs, F, h => ⟨[], vs, [], F, rfl, rfl, ⟨rfl, rfl⟩, h⟩
  | x :: xs, ys, vs, F, h => by
    simp only [List.cons_append, OwE] at h
    obtain ⟨v, vs', F1, F2, rfl, rfl, h1, h2⟩ := h
    obtain ⟨v3, v4, F3, F4, rfl, rfl, h3, h4⟩ := OwE.split h2
    refine ⟨v ++ v3, v4, F1 ++ F3, F4, by rw [List.append_assoc], by rw [List.append_assoc], ?_, h4⟩
    simp only [OwE]
    exact ⟨v, v3, F1, F3, rfl, rfl, h1, h3⟩

theorem At.drop {w : World} {b off : Nat} {xs : List Value} (h : At w b off xs) (k : Nat) : At w b (off + k) (xs.drop k) := by
  intro j u hu
  rw [List.getElem?_drop] at hu
  have := h _ u hu
  rw [Nat.add_assoc]; exact this
theorem At.left {w : World} {b off : Nat} {xs ys : List Value} (h : At w b off (xs ++ ys)) : At w b off xs := fun j u hu => h j u (by
  rw [List.getElem?_append_left (List.getElem?_eq_some_iff.1 hu).1]; exact hu)
theorem At.right {w : World} {b off : Nat} {xs ys : List Value} (h : At w b off (xs ++ ys)) : At w b (off + xs.length) ys := by
  have := h.drop xs.length
  rwa [List.drop_left] at this

/-- The element at a place: its cells stand at that place times the width. -/
theorem RpE.get {w : World} {es : List (List L)} {vs : List Value} {F : List Nat} {W i : Nat} {e : List L} {b off : Nat} (h : RpE w es vs F) (ha : At w b off vs) (hW : ∀ e ∈ es, e.length = W) (hi : es[i]? = some e) :
    ∃ ys Fi, RpL w e ys Fi ∧ At w b (off + i * W) ys ∧ (∀ x ∈ Fi, x ∈ F) := by
  obtain ⟨hlt, rfl⟩ := List.getElem?_eq_some_iff.1 hi
  have e : es = es.take i ++ es[i] :: es.drop (i + 1) := by rw [List.getElem_cons_drop, List.take_append_drop]
  rw [e] at h
  obtain ⟨c1, c2, F1, F2, rfl, rfl, h1, h2⟩ := RpE.split h
  simp only [RpE] at h2
  obtain ⟨c3, c4, F3, F4, rfl, rfl, h3, h4⟩ := h2
  have l1 : c1.length = i * W := by
    rw [h1.len, width_uniform (W := W) (fun d hd => hW d (List.mem_of_mem_take hd)), List.length_take, Nat.min_eq_left (by omega)]
  refine ⟨c3, F3, h3, ?_, fun b hb => by simp [hb]⟩
  have := ha.right.left
  rwa [l1] at this

end Go.Proofs.Ytopjlbifglacpaa.Am
