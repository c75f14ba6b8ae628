/- From the form's own reading of an argument to a tree of plain data. -/
import Derived.Test.YtopjlbifglacpaaBase
import Derived.ProofKit
import Derived.OpenShut
import Derived.ShutString
import Derived.ChangeOld
import Derived.Deep.Slices
import Derived.Deep.Fields
set_option linter.unusedSimpArgs false
set_option linter.unusedVariables false
namespace Go.Proofs.Ytopjlbifglacpaa
open Go.ChangeShapes Go.WideShapes Go.ChangeAt Go.RowKit Go.Deep

/-- The datum has the shape of the type (`n`: how deep one looks). -/
def has (P : Program) : Nat → TypeId → D → Prop
  | 0, _, _ => False
  | n + 1, t, d =>
    match P.underlying t with
    | some .bool => ∃ b, d = .bool b
    | some (.int .i64) => ∃ x, d = .int x
    | some (.int .u8) => ∃ x, d = .byte x
    | some .string => ∃ s, d = .str s
    | some (.slice e) => ∃ es, d = .sl es ∧ ∀ x ∈ es, has P n e x
    | some (.struct fs) => ∃ ds, d = .agg ds ∧ ds.length = fs.size ∧ ∀ (i : Nat) (f : Field) (x : D), fs[i]? = some f → ds[i]? = some x → has P n f.type x
    | _ => False

/-- The fields stand one behind the other. -/
def layOk (P : Program) (S : List TypeId) : Nat → List Field → Bool
  | _, [] => true
  | off, f :: fs => f.offset == off && S.contains f.type && layOk P S (off + P.cellsOf f.type) fs
def laySum (P : Program) : List Field → Nat
  | [] => 0
  | f :: fs => P.cellsOf f.type + laySum P fs
/-- A type of numbers, truth values, texts, slices and structs of types out of S. -/
def okTy (P : Program) (S : List TypeId) (t : TypeId) : Bool :=
  match P.underlying t with
  | some .bool => P.cellsOf t == 1
  | some (.int .i64) => P.cellsOf t == 1
  | some (.int .u8) => P.cellsOf t == 1
  | some .string => P.cellsOf t == 1
  | some (.slice e) => P.cellsOf t == 1 && S.contains e && decide (0 < P.cellsOf e)
  | some (.struct fs) => layOk P S 0 fs.toList && P.cellsOf t == laySum P fs.toList
  | _ => false

section
variable {H : Type} {enc : TypeId × Value → H} {P : Program} {w : World} {spare : Nat → Bool} {held : Bool}

theorem repL_flat {w : World} {W : Nat} {f : Nat → List Value} {b off : Nat} : ∀ (es : List D) (k : Nat), (∀ i (h : i < es.length), ∃ F, Rep w es[i] (f (k + i)) F) → (∀ i, i < es.length → (f (k + i)).length = W ∧ CellsAt w b (off + (k + i) * W) (f (k + i))) →
    ∃ xs F, RepL w es xs F ∧ CellsAt w b (off + k * W) xs
  | [], _, _, _ => ⟨[], [], ⟨rfl, rfl⟩, fun j u hu => by simp at hu⟩
  | e :: es, k, h1, h2 => by
    obtain ⟨xs, F, r, c⟩ := repL_flat es (k + 1) (fun i hi => by have := h1 (i + 1) (by simpa using hi); simpa [Nat.add_assoc, Nat.add_comm 1 i] using this)
      (fun i hi => by have := h2 (i + 1) (by simpa using hi); rwa [show k + (i + 1) = k + 1 + i from by omega] at this)
    obtain ⟨F0, r0⟩ := h1 0 (by simp)
    obtain ⟨l0, c0⟩ := h2 0 (by simp)
    simp only [Nat.add_zero, List.getElem_cons_zero] at r0 l0 c0
    refine ⟨f k ++ xs, F0 ++ F, ⟨_, _, _, _, rfl, rfl, r0, r⟩, fun j u hu => ?_⟩
    by_cases hj : j < (f k).length
    · rw [List.getElem?_append_left hj] at hu
      exact c0 j u hu
    · rw [List.getElem?_append_right (by omega)] at hu
      have := c (j - (f k).length) u hu
      rw [show off + (k + 1) * W + (j - (f k).length) = off + k * W + j from by rw [Nat.add_mul]; omega] at this
      exact this

theorem open_fields {n : Nat} (S : List TypeId) (ih : ∀ (t : TypeId) (cs : List Value) (x : DataW H × List MemPlace), t ∈ S → DataW.trod enc P w 0 spare held n t cs = some x → ∃ d F, Rep w d cs F ∧ has P n t d) :
    ∀ (fs : List Field) (off : Nat) (cs : List Value), layOk P S off fs = true → cs.length = off + laySum P fs → (∀ f ∈ fs, ∃ x, DataW.trod enc P w 0 spare held n f.type ((cs.drop f.offset).take (P.cellsOf f.type)) = some x) →
      ∃ ds F, RepL w ds (cs.drop off) F ∧ ds.length = fs.length ∧ ∀ (i : Nat) (f : Field) (x : D), fs[i]? = some f → ds[i]? = some x → has P n f.type x
  | [], off, cs, _, hl, _ => ⟨[], [], by simp only [RepL]; exact ⟨List.drop_of_length_le (by simp only [laySum] at hl; omega), trivial⟩, rfl, by simp⟩
  | f :: fs, off, cs, hok, hl, hf => by
    simp only [layOk, Bool.and_eq_true, beq_iff_eq] at hok
    obtain ⟨⟨h1, h2⟩, h3⟩ := hok
    simp only [laySum] at hl
    obtain ⟨x, hx⟩ := hf f (by simp)
    obtain ⟨d, F, r1, r2⟩ := ih _ _ _ (by simpa using h2) hx
    obtain ⟨ds, F', r3, r4, r5⟩ := open_fields S ih fs (off + P.cellsOf f.type) cs h3 (by omega) (fun g hg => hf g (by simp [hg]))
    refine ⟨d :: ds, F ++ F', ?_, by simp [r4], ?_⟩
    · simp only [RepL]
      refine ⟨_, _, F, F', ?_, rfl, r1, r3⟩
      rw [h1, ← List.drop_drop, List.take_append_drop]
    · intro i g y hi hy
      cases i with
      | zero => simp at hi hy; subst hi hy; exact r2
      | succ i => simp at hi hy; exact r5 i g y hi hy

theorem open_plain (S : List TypeId) (hS : S.all (okTy P S) = true) : ∀ (fuel : Nat) (t : TypeId) (cs : List Value) (x : DataW H × List MemPlace), t ∈ S →
    DataW.trod enc P w 0 spare held fuel t cs = some x → ∃ d F, Rep w d cs F ∧ has P fuel t d
  | 0, _, _, _, _, h => by simp [DataW.trod] at h
  | n + 1, t, cs, x, ht, h => by
    have hok := List.all_eq_true.1 hS t ht
    unfold okTy at hok
    split at hok
    · rename_i hu
      obtain ⟨b, rfl, _⟩ := DataW.trod_bool hu h
      exact ⟨.bool b, [], ⟨rfl, rfl⟩, by simp only [has, hu]; exact ⟨b, rfl⟩⟩
    · rename_i hu
      obtain ⟨m, rfl, _, hw⟩ := DataW.trod_int hu h
      refine ⟨.int m, [], ⟨rfl, rfl, ?_⟩, by simp only [has, hu]; exact ⟨m, rfl⟩⟩
      simpa [I64, Lit.wf, IntKind.min, IntKind.max, IntKind.signed, IntKind.bits] using hw
    · rename_i hu
      obtain ⟨m, rfl, _, hw⟩ := DataW.trod_int hu h
      refine ⟨.byte m, [], ⟨rfl, rfl, ?_⟩, by simp only [has, hu]; exact ⟨m, rfl⟩⟩
      simpa [Lit.wf, IntKind.min, IntKind.max, IntKind.signed, IntKind.bits] using hw
    · rename_i hu
      obtain ⟨s, rfl, _, hw⟩ := DataW.trod_string hu h
      exact ⟨.str s, [], ⟨rfl, rfl, hw⟩, by simp only [has, hu]; exact ⟨s, rfl⟩⟩
    · rename_i e hu
      simp only [Bool.and_eq_true, beq_iff_eq, decide_eq_true_eq] at hok
      obtain ⟨⟨hc1, hmem⟩, hpos⟩ := hok
      have hmem' : e ∈ S := by simpa using hmem
      rcases DataW.trod_slice hu h with ⟨rfl, _⟩ | ⟨⟨b, off, spot⟩, len, cap, elems, rest, n', hn', rfl, _, _, hl, hm, hel, hi, _⟩
      · exact ⟨.sl [], [], ⟨none, 0, rfl, by simp, by omega, .inl ⟨rfl, rfl⟩⟩, by simp only [has, hu]; exact ⟨[], rfl, by simp⟩⟩
      · obtain rfl : n = n' := by omega
        simp only [maxLen] at hm
        rcases Nat.eq_zero_or_pos len with rfl | hlen
        · exact ⟨.sl [], [], ⟨some ⟨b, off, spot⟩, cap, rfl, by simp, by omega, .inl ⟨rfl, rfl⟩⟩, by simp only [has, hu]; exact ⟨[], rfl, by simp⟩⟩
        have key : ∀ i, i < len → ∃ y : List Value × D, (∃ F, Rep w y.2 y.1 F) ∧ has P n e y.2 ∧ y.1.length = P.cellsOf e ∧ ∀ j, j < P.cellsOf e → w.cell? ((Addr.mk b off spot).add (i * P.cellsOf e) |>.add j) = y.1[j]? := by
          intro i hil
          have h1 := hi i hil
          rw [List.getElem?_eq_getElem (by omega)] at h1
          obtain ⟨cs', hcs, htr⟩ := Option.bind_eq_some_iff.1 h1
          obtain ⟨_, hcl, hat⟩ := World.cells?_some hcs
          obtain ⟨d, F, h2, h3⟩ := open_plain S hS n e cs' _ hmem' htr
          exact ⟨(cs', d), ⟨F, h2⟩, h3, hcl, hat⟩
        have hspot : spot = none := by
          obtain ⟨y, _, _, hyl, hat⟩ := key 0 hlen
          have h0 := hat 0 hpos
          rw [List.getElem?_eq_getElem (by omega)] at h0
          simpa [Addr.add] using World.cell?_spot h0
        subst hspot
        have : Inhabited (List Value × D) := ⟨([], .int 0)⟩
        obtain ⟨f, hf⟩ := choose_lt key
        have hcells : ∀ i, i < len → CellsAt w b (off + i * P.cellsOf e) (f i).1 := by
          intro i hil j u hu'
          obtain ⟨_, _, hyl, hat⟩ := hf i hil
          have hj : j < P.cellsOf e := by have := (List.getElem?_eq_some_iff.1 hu').1; omega
          have h1 := hat j hj
          rw [Addr.add_lit, Addr.add_lit] at h1
          rw [h1, hu']
        obtain ⟨xs, F, r1, r2⟩ := repL_flat (w := w) (W := P.cellsOf e) (f := fun i => (f i).1) (b := b) (off := off) ((List.range len).map fun i => (f i).2) 0
          (fun i hil => by
            simp only [List.length_map, List.length_range] at hil
            simpa using (hf i hil).1)
          (fun i hil => by
            simp only [List.length_map, List.length_range] at hil
            simp only [Nat.zero_add]
            exact ⟨(hf i hil).2.2.1, hcells i hil⟩)
        have hb : b < w.heap.size := by
          obtain ⟨_, _, hyl, hat⟩ := hf 0 hlen
          have h0 := hat 0 hpos
          rw [List.getElem?_eq_getElem (by omega)] at h0
          have := World.block_lt_of_cell? w _ h0
          simpa [Addr.add] using this
        refine ⟨.sl ((List.range len).map fun i => (f i).2), b :: F, ?_, ?_⟩
        · simp only [Rep]
          refine ⟨some ⟨b, off, none⟩, cap, by simp [Value.cells], by simpa using hl, by omega, .inr ⟨b, off, xs, F, rfl, hb, rfl, by simpa using r2, r1⟩⟩
        · simp only [has, hu]
          refine ⟨_, rfl, fun y hy => ?_⟩
          obtain ⟨i, hi', rfl⟩ := List.mem_map.1 hy
          exact (hf i (by simpa using hi')).2.1
    · rename_i fs hu
      simp only [Bool.and_eq_true, beq_iff_eq] at hok
      obtain ⟨hlay, hsum⟩ := hok
      obtain ⟨xs, n', hn', _, hlen, hxl, hg⟩ := DataW.trod_struct hu h
      obtain rfl : n = n' := by omega
      obtain ⟨ds, F, r1, r2, r3⟩ := open_fields S (fun t cs x h1 h2 => open_plain S hS n t cs x h1 h2) fs.toList 0 cs hlay (by omega) (fun f hf => by
        obtain ⟨i, hi, rfl⟩ := List.getElem_of_mem hf
        have h1 := hg i fs.toList[i] (by rw [Array.getElem?_eq_getElem (by simpa using hi)]; simp)
        rw [List.getElem?_eq_getElem (by simp at hi; omega)] at h1
        exact ⟨_, h1⟩)
      refine ⟨.agg ds, F, by simp only [Rep]; simpa using r1, ?_⟩
      simp only [has, hu]
      exact ⟨ds, rfl, by simpa using r2, fun i f x h1 h2 => r3 i f x (by simpa using h1) h2⟩
    · cases hok

theorem exists_map {α : Type} {f : α → D} (es : List D) (h : ∀ x ∈ es, ∃ y : α, x = f y) : ∃ ys : List α, es = ys.map f := by
  induction es with
  | nil => exact ⟨[], rfl⟩
  | cons e es ih =>
    obtain ⟨y, hy⟩ := h e (by simp)
    obtain ⟨ys, hys⟩ := ih (fun x hx => h x (by simp [hx]))
    exact ⟨y :: ys, by rw [hy, hys]; rfl⟩
end
end Go.Proofs.Ytopjlbifglacpaa
