/- States of a walk told as plain data: what the slots, the call's own variables and the slices that it makes read as; and what it means that a world is in such a state. -/
import Derived.Test.YtopjlbifglacpaaAmA
set_option linter.unusedSimpArgs false
set_option linter.unusedVariables false
namespace Go.Proofs.Ytopjlbifglacpaa.Am
open Go.RowKit

/-- One cell as the walk knows it: plain data that nobody writes; nil; a slice of the call's own (array τ, seen with n elements); a pointer into the call's own variable k; a pointer to cells that read so; a pointer into element i of array τ. -/
inductive CV where
  | l (x : L)
  | nil
  | own (τ n : Nat)
  | box (k off : Nat)
  | adr (ls : List L)
  | elt (τ n i W off : Nat)

inductive V where
  | one (c : CV)
  | agg (cs : List CV)
  | tup (ps : List (Bool × List CV))
  | dead

/-- An array of the call's own; fr: its elements' memory is the call's own too. -/
structure Arr where
  fr : Bool
  es : List (List L)

structure St where
  nt : Nat
  tm : List (Nat × V)
  bx : List (Nat × List CV)
  ar : List (Nat × Option Arr)

structure Env where
  β : Nat → Nat
  ρ : Nat → Value
  φ : Nat → List Nat
  bad : Nat → Prop

/-- The blocks that may be written, and those that are none of ours. -/
def Mut (e : Env) (σ : St) (b : Nat) : Prop :=
  e.bad b ∨ (∃ k cs, σ.bx.lookup k = some cs ∧ e.β k = b) ∨ (∃ τ A, σ.ar.lookup τ = some (some A) ∧ (e.ρ τ).ownBlock = some b)

def CV.rel (e : Env) (σ : St) (w : World) : CV → Value → Prop
  | .l x, v => ∃ F, Rp w x v F ∧ ∀ b ∈ F, ¬ Mut e σ b
  | .nil, v => v = .slice none 0 0
  | .own τ n, v => ∃ A, σ.ar.lookup τ = some A ∧ (∀ B, A = some B → n ≤ B.es.length ∧ (B.es.length = n → v = e.ρ τ)) ∧ ∃ p c, v = .slice p n c ∧ n ≤ 9223372036854775807
  | .box k off, v => (∃ cs, σ.bx.lookup k = some cs) ∧ v = .pointer (some ⟨e.β k, off, none⟩)
  | .adr ls, v => ∃ b off vs F, v = .pointer (some ⟨b, off, none⟩) ∧ At w b off vs ∧ RpL w ls vs F ∧ b < w.heap.size ∧ ¬ Mut e σ b ∧ ∀ x ∈ F, ¬ Mut e σ x
  | .elt τ n i W off, v => ∃ A, σ.ar.lookup τ = some A ∧ (∀ B, A = some B → n ≤ B.es.length ∧ (B.es.length = n → ∃ b, (e.ρ τ).ownBlock = some b ∧ v = .pointer (some ⟨b, i * W + off, none⟩))) ∧ ∃ p, v = .pointer p

def relL (e : Env) (σ : St) (w : World) : List CV → List Value → Prop
  | [], vs => vs = []
  | c :: cs, vs => ∃ v vs', vs = v :: vs' ∧ c.rel e σ w v ∧ relL e σ w cs vs'

/-- A value of one cell, or a struct's. -/
def ptRel (e : Env) (σ : St) (w : World) : Bool × List CV → Value → Prop
  | (true, cs), v => ∃ vs, v = .agg vs.toArray ∧ relL e σ w cs vs
  | (false, cs), v => ∃ c, cs = [c] ∧ c.rel e σ w v

def ptsRel (e : Env) (σ : St) (w : World) : List (Bool × List CV) → List Value → Prop
  | [], vs => vs = []
  | p :: ps, vs => ∃ v vs', vs = v :: vs' ∧ ptRel e σ w p v ∧ ptsRel e σ w ps vs'

def V.rel (e : Env) (σ : St) (w : World) : V → Value → Prop
  | .one c, v => c.rel e σ w v
  | .agg cs, v => ∃ vs, v = .agg vs.toArray ∧ relL e σ w cs vs
  | .tup ps, v => ∃ vs, v = .tuple vs.toArray ∧ ptsRel e σ w ps vs
  | .dead, v => v = undef

/-- Slice value v is array A; F: the blocks that it owns. -/
def ArrOk (N M : Nat → Prop) (w : World) (A : Arr) (v : Value) (F : List Nat) : Prop :=
  ∃ p c, v = .slice p A.es.length c ∧ c ≤ 9223372036854775807 ∧
    ((A.es = [] ∧ p = none ∧ c = 0 ∧ F = []) ∨ ∃ b t cur Fs W, p = some ⟨b, 0, none⟩ ∧ N b ∧ w.heap[b]? = some (.cells cur t (0, 0)) ∧ A.es.length ≤ c ∧ cur.size = c * W ∧ (∀ e ∈ A.es, e.length = W) ∧ (A.es = [] → c = 0) ∧
      ((A.fr = true ∧ F = b :: Fs ∧ F.Nodup ∧ OwE N w A.es (cur.toList.take (A.es.length * W)) Fs) ∨
       (A.fr = false ∧ F = [b] ∧ RpE w A.es (cur.toList.take (A.es.length * W)) Fs ∧ ∀ x ∈ Fs, ¬ M x)))

structure Frame (N : Nat → Prop) (w0 w : World) : Prop where
  os : w.os = w0.os
  tape : w.tape = w0.tape
  output : w.output = w0.output
  size : w0.heap.size ≤ w.heap.size
  block : ∀ b, b < w0.heap.size → ¬ N b → w.heap[b]? = w0.heap[b]?
  new : ∀ b, w0.heap.size ≤ b → N b

inductive Key where
  | b (k : Nat)
  | a (τ : Nat)
  deriving DecidableEq

/-- Arrays all of whose blocks may be written at once. -/
def deepK : Key → Prop
  | .b _ => False
  | .a τ => 1000000 ≤ τ

def live (σ : St) : Key → Prop
  | .b k => ∃ cs, σ.bx.lookup k = some cs
  | .a τ => ∃ A, σ.ar.lookup τ = some (some A)
/-- The blocks that a variable or an array of the call's own holds. -/
def blk (e : Env) : Key → List Nat
  | .b k => [e.β k]
  | .a τ => e.φ τ

/-- The world at the start, and the blocks that are none of ours. -/
structure Bs where
  w : World
  bad : Nat → Prop

structure SimE (N : Nat → Prop) (w0 : Bs) (e : Env) (σ : St) (a : Act) (w : World) : Prop where
  nt : a.tmps.size = σ.nt
  df : a.defers = []
  tm : ∀ t v, σ.tm.lookup t = some v → v.rel e σ w (a.tmps.getD t undef)
  bx : ∀ k cs, σ.bx.lookup k = some cs → N (e.β k) ∧ ∃ cur ty, w.heap[e.β k]? = some (.cells cur ty (0, 0)) ∧ relL e σ w cs cur.toList
  ar : ∀ τ A, σ.ar.lookup τ = some (some A) → ArrOk N (Mut e σ) w A (e.ρ τ) (e.φ τ)
  sep : ∀ κ κ', live σ κ → live σ κ' → κ ≠ κ' → ∀ b ∈ blk e κ, b ∉ blk e κ'
  fr : Frame N w0.w w
  bad : (∀ b, w0.bad b → e.bad b) ∧ ∀ b, e.bad b → b < w.heap.size ∧ ∀ κ, live σ κ → b ∈ blk e κ → deepK κ
  dk : ∀ κ, live σ κ → deepK κ → ∀ b ∈ blk e κ, e.bad b

def Sim (N : Nat → Prop) (w0 : Bs) (σ : St) (a : Act) (w : World) : Prop := ∃ e, SimE N w0 e σ a w

section
variable {e e' : Env} {σ σ' : St} {w w' : World} {N : Nat → Prop} {w0 : Bs} {a : Act}

theorem CV.rel.cells {c : CV} {v : Value} (h : c.rel e σ w v) : v.cells = #[v] ∧ v.oneCell' = true := by
  cases c with
  | l x =>
    obtain ⟨F, h, _⟩ := h
    cases x <;> simp only [Rp] at h
    · rw [h.1]; exact ⟨rfl, rfl⟩
    · rw [h.1]; exact ⟨rfl, rfl⟩
    · rw [h.1]; exact ⟨rfl, rfl⟩
    · obtain ⟨A, c, h, _⟩ := h; rw [h]; exact ⟨rfl, rfl⟩
  | nil => simp only [CV.rel] at h; rw [h]; exact ⟨rfl, rfl⟩
  | own τ n => obtain ⟨_, _, _, p, c, h, _⟩ := h; rw [h]; exact ⟨rfl, rfl⟩
  | box k off => rw [h.2]; exact ⟨rfl, rfl⟩
  | adr ls => obtain ⟨b, off, vs, F, h, _⟩ := h; rw [h]; exact ⟨rfl, rfl⟩
  | elt τ n i W off => obtain ⟨_, _, _, p, h⟩ := h; rw [h]; exact ⟨rfl, rfl⟩

theorem relL.len : ∀ {cs : List CV} {vs : List Value}, relL e σ w cs vs → vs.length = cs.length
  | [], _, h => by simp only [relL] at h; simp [h]
  | _ :: _, _, h => by
    simp only [relL] at h
    obtain ⟨v, vs', rfl, _, h2⟩ := h
    simp [relL.len h2]
theorem relL.one : ∀ {cs : List CV} {vs : List Value}, relL e σ w cs vs → ∀ u ∈ vs, u.oneCell' = true
  | [], _, h => by simp only [relL] at h; simp [h]
  | _ :: _, _, h => by
    simp only [relL] at h
    obtain ⟨v, vs', rfl, h1, h2⟩ := h
    intro u hu
    rcases List.mem_cons.1 hu with rfl | hu
    · exact h1.cells.2
    · exact relL.one h2 u hu
theorem relL.get : ∀ {cs : List CV} {vs : List Value} {i : Nat} {c : CV}, relL e σ w cs vs → cs[i]? = some c → ∃ v, vs[i]? = some v ∧ c.rel e σ w v
  | c :: cs, _, 0, _, h, hi => by
    simp only [relL] at h
    obtain ⟨v, vs', rfl, h1, h2⟩ := h
    simp at hi
    subst hi
    exact ⟨v, rfl, h1⟩
  | c :: cs, _, i + 1, _, h, hi => by
    simp only [relL] at h
    obtain ⟨v, vs', rfl, h1, h2⟩ := h
    simp at hi
    simpa using relL.get h2 hi
theorem relL.drop : ∀ {cs : List CV} {vs : List Value} (k : Nat), relL e σ w cs vs → relL e σ w (cs.drop k) (vs.drop k)
  | _, _, 0, h => h
  | [], _, k + 1, h => by simp only [relL] at h; subst h; simp [relL]
  | c :: cs, _, k + 1, h => by
    simp only [relL] at h
    obtain ⟨v, vs', rfl, h1, h2⟩ := h
    exact relL.drop k h2
theorem relL.take : ∀ {cs : List CV} {vs : List Value} (k : Nat), relL e σ w cs vs → relL e σ w (cs.take k) (vs.take k)
  | _, _, 0, _ => by simp [relL]
  | [], _, k + 1, h => by simp only [relL] at h; subst h; simp [relL]
  | c :: cs, _, k + 1, h => by
    simp only [relL] at h
    obtain ⟨v, vs', rfl, h1, h2⟩ := h
    simp only [List.take_succ_cons, relL]
    exact ⟨v, _, rfl, h1, relL.take k h2⟩
theorem relL.append : ∀ {cs ds : List CV} {vs us : List Value}, relL e σ w cs vs → relL e σ w ds us → relL e σ w (cs ++ ds) (vs ++ us)
  | [], _, _, _, h, k => by simp only [relL] at h; subst h; simpa using k
  | c :: cs, _, _, _, h, k => by
    simp only [relL] at h
    obtain ⟨v, vs', rfl, h1, h2⟩ := h
    simp only [List.cons_append, relL]
    exact ⟨v, _, rfl, h1, relL.append h2 k⟩
theorem relL_of_RpL : ∀ {xs : List L} {vs : List Value} {F : List Nat}, RpL w xs vs F → (∀ b ∈ F, ¬ Mut e σ b) → relL e σ w (xs.map CV.l) vs
  | [], _, _, h, _ => by simp only [RpL] at h; simp [relL, h.1]
  | x :: xs, _, _, h, hF => by
    simp only [RpL] at h
    obtain ⟨v, vs', F1, F2, rfl, rfl, h1, h2⟩ := h
    simp only [List.map_cons, relL]
    exact ⟨v, vs', rfl, ⟨F1, h1, fun b hb => hF b (by simp [hb])⟩, relL_of_RpL h2 fun b hb => hF b (by simp [hb])⟩

/-- What changes from one state to a later one. -/
structure Up (e : Env) (σ : St) (w : World) (e' : Env) (σ' : St) (w' : World) : Prop where
  size : w.heap.size ≤ w'.heap.size
  heap : ∀ b, b < w.heap.size → ¬ Mut e σ b → w'.heap[b]? = w.heap[b]?
  mt : ∀ b, b < w.heap.size → Mut e' σ' b → Mut e σ b
  bx : ∀ k cs, σ.bx.lookup k = some cs → (∃ cs', σ'.bx.lookup k = some cs') ∧ e'.β k = e.β k
  ar : ∀ τ A, σ.ar.lookup τ = some A → ∃ A', σ'.ar.lookup τ = some A' ∧ ∀ B', A' = some B' → ∃ B, A = some B ∧ B.es.length ≤ B'.es.length ∧ (B'.es.length = B.es.length → e'.ρ τ = e.ρ τ)

theorem CV.rel.up (u : Up e σ w e' σ' w') {c : CV} {v : Value} (h : c.rel e σ w v) : c.rel e' σ' w' v := by
  cases c with
  | l x =>
    obtain ⟨F, h1, h2⟩ := h
    exact ⟨F, h1.keep ⟨u.size, fun b hb => u.heap b (h1.lt b hb) (h2 b hb)⟩, fun b hb hm => h2 b hb (u.mt b (h1.lt b hb) hm)⟩
  | nil => exact h
  | own τ n =>
    obtain ⟨A, h1, h2, h3⟩ := h
    obtain ⟨A', k1, k2⟩ := u.ar τ A h1
    refine ⟨A', k1, fun B' hB' => ?_, h3⟩
    obtain ⟨B, q1, q2, q3⟩ := k2 B' hB'
    obtain ⟨r1, r2⟩ := h2 B q1
    exact ⟨Nat.le_trans r1 q2, fun hn => by rw [r2 (by omega), q3 (by omega)]⟩
  | box k off =>
    obtain ⟨⟨cs, h1⟩, h2⟩ := h
    obtain ⟨k1, k2⟩ := u.bx k cs h1
    exact ⟨k1, by rw [h2, k2]⟩
  | adr ls =>
    obtain ⟨b, off, vs, F, h1, h2, h3, h4, h5, h6⟩ := h
    exact ⟨b, off, vs, F, h1, h2.keep (u.heap b h4 h5), h3.keep ⟨u.size, fun x hx => u.heap x (h3.lt x hx) (h6 x hx)⟩, Nat.lt_of_lt_of_le h4 u.size, fun hm => h5 (u.mt b h4 hm), fun x hx hm => h6 x hx (u.mt x (h3.lt x hx) hm)⟩
  | elt τ n i W off =>
    obtain ⟨A, h1, h2, h3⟩ := h
    obtain ⟨A', k1, k2⟩ := u.ar τ A h1
    refine ⟨A', k1, fun B' hB' => ?_, h3⟩
    obtain ⟨B, q1, q2, q3⟩ := k2 B' hB'
    obtain ⟨r1, r2⟩ := h2 B q1
    exact ⟨Nat.le_trans r1 q2, fun hn => by
      have := r2 (by omega)
      rw [q3 (by omega)]; exact this⟩
theorem relL.up (u : Up e σ w e' σ' w') : ∀ {cs : List CV} {vs : List Value}, relL e σ w cs vs → relL e' σ' w' cs vs
  | [], _, h => h
  | c :: cs, _, h => by
    simp only [relL] at h ⊢
    obtain ⟨v, vs', h0, h1, h2⟩ := h
    exact ⟨v, vs', h0, h1.up u, relL.up u h2⟩
theorem ptRel.up (u : Up e σ w e' σ' w') {p : Bool × List CV} {v : Value} (h : ptRel e σ w p v) : ptRel e' σ' w' p v := by
  obtain ⟨b, cs⟩ := p
  cases b
  · obtain ⟨c, h0, h1⟩ := h
    exact ⟨c, h0, h1.up u⟩
  · obtain ⟨vs, h0, h1⟩ := h
    exact ⟨vs, h0, h1.up u⟩
theorem ptsRel.up (u : Up e σ w e' σ' w') : ∀ {ps : List (Bool × List CV)} {vs : List Value}, ptsRel e σ w ps vs → ptsRel e' σ' w' ps vs
  | [], _, h => h
  | c :: cs, _, h => by
    simp only [ptsRel] at h ⊢
    obtain ⟨v, vs', h0, h1, h2⟩ := h
    exact ⟨v, vs', h0, h1.up u, ptsRel.up u h2⟩
theorem V.rel.up (u : Up e σ w e' σ' w') {x : V} {v : Value} (h : x.rel e σ w v) : x.rel e' σ' w' v := by
  cases x with
  | one c => exact CV.rel.up u h
  | agg cs => obtain ⟨vs, h0, h1⟩ := h; exact ⟨vs, h0, h1.up u⟩
  | tup ps => obtain ⟨vs, h0, h1⟩ := h; exact ⟨vs, h0, h1.up u⟩
  | dead => exact h

theorem Up.refl (e : Env) (σ : St) (w : World) : Up e σ w e σ w :=
  ⟨Nat.le_refl _, fun _ _ _ => rfl, fun _ _ h => h, fun k cs h => ⟨⟨cs, h⟩, rfl⟩, fun τ A h => ⟨A, h, fun B hB => ⟨B, hB, Nat.le_refl _, fun _ => rfl⟩⟩⟩

/-- The slots alone are turned: what was said of values stays. -/
theorem up_tm (e : Env) (σ : St) (w : World) (tm : List (Nat × V)) (nt : Nat) : Up e σ w e { σ with tm := tm, nt := nt } w :=
  ⟨Nat.le_refl _, fun _ _ _ => rfl, fun _ _ h => h, fun k cs h => ⟨⟨cs, h⟩, rfl⟩, fun τ A h => ⟨A, h, fun B hB => ⟨B, hB, Nat.le_refl _, fun _ => rfl⟩⟩⟩

theorem lookup_cons {α : Type} (k j : Nat) (v : α) (l : List (Nat × α)) : ((j, v) :: l).lookup k = if k = j then some v else l.lookup k := by
  by_cases h : k = j
  · subst h; simp [List.lookup]
  · have hf : (k == j) = false := by simp [h]
    simp only [List.lookup, hf, if_neg h]

/-- A slot is written. -/
theorem SimE.put (h : SimE N w0 e σ a w) {d : Nat} {x : V} {v : Value} (hd : d < σ.nt) (hx : x.rel e σ w v) : SimE N w0 e { σ with tm := (d, x) :: σ.tm } (a.put (some d) v) w := by
  have u := up_tm e σ w ((d, x) :: σ.tm) σ.nt
  refine ⟨by simp [Act.put, h.nt], h.df, fun t y ht => ?_, fun k cs hk => ?_, fun τ A hA => ?_, h.sep, h.fr, h.bad, h.dk⟩
  · rw [lookup_cons] at ht
    by_cases htd : t = d
    · subst htd
      rw [if_pos rfl] at ht
      obtain rfl := Option.some.inj ht
      have : (a.put (some t) v).tmps.getD t undef = v := by simp [Act.put, h.nt, hd]
      rw [this]
      exact hx.up u
    · rw [if_neg htd] at ht
      have : (a.put (some d) v).tmps.getD t undef = a.tmps.getD t undef := by
        simp only [Act.put, Array.getD_eq_getD_getElem?]
        rw [Array.getElem?_setIfInBounds_ne (Ne.symm htd)]
      rw [this]
      exact (h.tm t y ht).up u
  · obtain ⟨h1, cur, ty, h2, h3⟩ := h.bx k cs hk
    exact ⟨h1, cur, ty, h2, h3.up u⟩
  · exact h.ar τ A hA

/-- A slot is forgotten by another's writing. -/
theorem SimE.put_dead (h : SimE N w0 e σ a w) {d : Nat} : SimE N w0 e { σ with tm := (d, .dead) :: σ.tm } (a.put (some d) undef) w := by
  have u := up_tm e σ w ((d, .dead) :: σ.tm) σ.nt
  refine ⟨by simp [Act.put, h.nt], h.df, fun t y ht => ?_, fun k cs hk => ?_, fun τ A hA => ?_, h.sep, h.fr, h.bad, h.dk⟩
  · rw [lookup_cons] at ht
    by_cases htd : t = d
    · subst htd
      rw [if_pos rfl] at ht
      obtain rfl := Option.some.inj ht
      show (a.put (some t) undef).tmps.getD t undef = undef
      simp only [Act.put, Array.getD_eq_getD_getElem?, Array.getElem?_setIfInBounds]
      split <;> (try split) <;> simp_all
    · rw [if_neg htd] at ht
      have : (a.put (some d) undef).tmps.getD t undef = a.tmps.getD t undef := by
        simp only [Act.put, Array.getD_eq_getD_getElem?]
        rw [Array.getElem?_setIfInBounds_ne (Ne.symm htd)]
      rw [this]
      exact (h.tm t y ht).up u
  · obtain ⟨h1, cur, ty, h2, h3⟩ := h.bx k cs hk
    exact ⟨h1, cur, ty, h2, h3.up u⟩
  · exact h.ar τ A hA

theorem ArrOk.own {M : Nat → Prop} {A : Arr} {v : Value} {F : List Nat} (h : ArrOk N M w A v F) {b : Nat} (hb : v.ownBlock = some b) : b ∈ F ∧ N b ∧ ∃ cur t, w.heap[b]? = some (.cells cur t (0, 0)) := by
  obtain ⟨p, c, rfl, hc, h | ⟨b', t, cur, Fs, W, rfl, h1, h2, h3, h4, h5, h6, h7⟩⟩ := h
  · obtain ⟨_, rfl, _⟩ := h; simp [Value.ownBlock] at hb
  · simp [Value.ownBlock] at hb
    subst hb
    refine ⟨?_, h1, cur, t, h2⟩
    rcases h7 with ⟨_, rfl, _⟩ | ⟨_, rfl, _⟩ <;> simp
theorem ArrOk.blocks {M : Nat → Prop} {A : Arr} {v : Value} {F : List Nat} (h : ArrOk N M w A v F) : ∀ b ∈ F, N b ∧ ∃ cur t, w.heap[b]? = some (.cells cur t (0, 0)) := by
  obtain ⟨p, c, rfl, hc, h | ⟨b', t, cur, Fs, W, rfl, h1, h2, h3, h4, h5, h6, h7⟩⟩ := h
  · obtain ⟨_, _, _, rfl⟩ := h; simp
  · rcases h7 with ⟨_, rfl, _, h8⟩ | ⟨_, rfl, _⟩
    · intro b hb
      rcases List.mem_cons.1 hb with rfl | hb
      · exact ⟨h1, cur, t, h2⟩
      · exact h8.blocks b hb
    · intro b hb
      obtain rfl := List.mem_singleton.1 hb
      exact ⟨h1, cur, t, h2⟩
theorem SimE.mut_lt (h : SimE N w0 e σ a w) {b : Nat} (hm : Mut e σ b) : e.bad b ∨ (b < w.heap.size ∧ N b) := by
  rcases hm with hb | ⟨k, cs, h1, rfl⟩ | ⟨τ, A, h1, h2⟩
  · exact .inl hb
  all_goals right
  · obtain ⟨k1, cur, ty, k2, _⟩ := h.bx k cs h1
    exact ⟨lt_of_some k2, k1⟩
  · obtain ⟨_, k1, cur, t, k2⟩ := (h.ar τ A h1).own h2
    exact ⟨lt_of_some k2, k1⟩
/-- The blocks that an array's elements own are not written. -/
theorem SimE.inner (h : SimE N w0 e σ a w) {τ : Nat} {A : Arr} (hA : σ.ar.lookup τ = some (some A)) (hd : τ < 1000000) {b : Nat} (hb : b ∈ e.φ τ) (ht : (e.ρ τ).ownBlock ≠ some b) : ¬ Mut e σ b := by
  rintro (hbad | ⟨k, cs, h1, rfl⟩ | ⟨τ', A', h1, h2⟩)
  · have : 1000000 ≤ τ := (h.bad.2 b hbad).2 (.a τ) ⟨A, hA⟩ hb
    omega
  · exact h.sep (.b k) (.a τ) ⟨cs, h1⟩ ⟨A, hA⟩ (by simp) _ (by simp [blk]) hb
  · by_cases he : τ = τ'
    · subst he; exact ht h2
    · exact h.sep (.a τ) (.a τ') ⟨A, hA⟩ ⟨A', h1⟩ (by simp [he]) b hb ((h.ar τ' A' h1).own h2).1

/-- An array's elements as they can be read. -/
theorem SimE.elems (h : SimE N w0 e σ a w) {τ : Nat} {A : Arr} (hA : σ.ar.lookup τ = some (some A)) (hd : τ < 1000000) : ∃ p c, e.ρ τ = .slice p A.es.length c ∧ A.es.length ≤ c ∧ c ≤ 9223372036854775807 ∧
    (A.es = [] ∨ ∃ b vs Fs W, p = some ⟨b, 0, none⟩ ∧ At w b 0 vs ∧ (∀ x ∈ A.es, x.length = W) ∧ RpE w A.es vs Fs ∧ b ∈ e.φ τ ∧ ∀ x ∈ Fs, ¬ Mut e σ x) := by
  have hok := h.ar τ A hA
  obtain ⟨p, c, hv, hc, h4 | ⟨b', t, cur, Fs, W, rfl, h1, h2, h3, h4, h5, h6, h7⟩⟩ := hok
  · exact ⟨p, c, hv, by simp [h4.1], hc, .inl h4.1⟩
  · refine ⟨_, c, hv, h3, hc, .inr ⟨b', cur.toList.take (A.es.length * W), Fs, W, rfl, at_row h2 _, h5, ?_⟩⟩
    have hown : (e.ρ τ).ownBlock = some b' := by rw [hv]; rfl
    rcases h7 with ⟨g1, g2, g3, g4⟩ | ⟨g1, g2, g3, g4⟩
    · refine ⟨g4.rp, by simp [g2], fun x hx => h.inner hA hd (by simp [g2, hx]) ?_⟩
      rw [hown]
      intro e'
      obtain rfl := Option.some.inj e'
      rw [g2] at g3
      exact (List.nodup_cons.1 g3).1 hx
    · exact ⟨g3, by simp [g2], g4⟩

theorem SimE.blk_lt (h : SimE N w0 e σ a w) {κ : Key} (hk : live σ κ) : ∀ b ∈ blk e κ, b < w.heap.size ∧ N b := by
  cases κ with
  | b k =>
    obtain ⟨cs, hcs⟩ := hk
    obtain ⟨h1, cur, ty, h2, _⟩ := h.bx k cs hcs
    intro b hb
    simp only [blk, List.mem_singleton] at hb
    subst hb
    exact ⟨lt_of_some h2, h1⟩
  | a τ =>
    obtain ⟨A, hA⟩ := hk
    intro b hb
    obtain ⟨h1, cur, t, h2⟩ := (h.ar τ A hA).blocks b hb
    exact ⟨lt_of_some h2, h1⟩

/-- The same of whatever array; its elements' blocks may be written. -/
theorem SimE.elemsAny (h : SimE N w0 e σ a w) {τ : Nat} {A : Arr} (hA : σ.ar.lookup τ = some (some A)) : ∃ p c, e.ρ τ = .slice p A.es.length c ∧ A.es.length ≤ c ∧ c ≤ 9223372036854775807 ∧
    (A.es = [] ∨ ∃ b vs Fs W, p = some ⟨b, 0, none⟩ ∧ At w b 0 vs ∧ (∀ x ∈ A.es, x.length = W) ∧ RpE w A.es vs Fs ∧ b ∈ e.φ τ) := by
  obtain ⟨p, c, hv, hc, h4 | ⟨b', t, cur, Fs, W, rfl, h1, h2, h3, h4, h5, h6, h7⟩⟩ := h.ar τ A hA
  · exact ⟨p, c, hv, by simp [h4.1], hc, .inl h4.1⟩
  · refine ⟨_, c, hv, h3, hc, .inr ⟨b', cur.toList.take (A.es.length * W), Fs, W, rfl, at_row h2 _, h5, ?_⟩⟩
    rcases h7 with ⟨g1, g2, g3, g4⟩ | ⟨g1, g2, g3, g4⟩
    · exact ⟨g4.rp, by simp [g2]⟩
    · exact ⟨g3, by simp [g2]⟩

/-- A variable of the call's own holds the block; the block may be written, if it is the variable's or the array's topmost. -/
theorem SimE.top_mut (_h : SimE N w0 e σ a w) {τ : Nat} {A : Arr} (hA : σ.ar.lookup τ = some (some A)) {b : Nat} (hb : (e.ρ τ).ownBlock = some b) : Mut e σ b := .inr (.inr ⟨τ, A, hA, hb⟩)

theorem ArrOk.up {A : Arr} {v : Value} {F : List Nat} (h : ArrOk N (Mut e σ) w A v F) (u : Up e σ w e' σ' w') (hF : ∀ b ∈ F, w'.heap[b]? = w.heap[b]?) : ArrOk N (Mut e' σ') w' A v F := by
  obtain ⟨p, c, hv, hc, h | ⟨b, t, cur, Fs, W, rfl, h1, h2, h3, h4, h5, h6, h7⟩⟩ := h
  · exact ⟨p, c, hv, hc, .inl h⟩
  · refine ⟨_, c, hv, hc, .inr ⟨b, t, cur, Fs, W, rfl, h1, ?_, h3, h4, h5, h6, ?_⟩⟩
    · rcases h7 with ⟨_, rfl, _⟩ | ⟨_, rfl, _⟩ <;> exact (hF b (by simp)).trans h2
    · rcases h7 with ⟨g1, rfl, g3, g4⟩ | ⟨g1, rfl, g3, g4⟩
      · exact .inl ⟨g1, rfl, g3, g4.keep ⟨u.size, fun x hx => hF x (by simp [hx])⟩⟩
      · exact .inr ⟨g1, rfl, g3.keep ⟨u.size, fun x hx => u.heap x (g3.lt x hx) (g4 x hx)⟩, fun x hx hm => g4 x hx (u.mt x (g3.lt x hx) hm)⟩

/-- A step that turns only the keys of K: what it owes. -/
theorem SimE.turn {a' : Act} (h : SimE N w0 e σ a w) (u : Up e σ w e' σ' w') (K : Key → Prop) (hnt : a'.tmps.size = σ'.nt) (hdf : a'.defers = [])
    (htm : ∀ t v, σ'.tm.lookup t = some v → (σ.tm.lookup t = some v ∧ a'.tmps.getD t undef = a.tmps.getD t undef) ∨ v.rel e' σ' w' (a'.tmps.getD t undef))
    (hob : ∀ k cs, σ'.bx.lookup k = some cs → ¬ K (.b k) → σ.bx.lookup k = some cs ∧ w'.heap[e.β k]? = w.heap[e.β k]?)
    (hoa : ∀ τ A, σ'.ar.lookup τ = some (some A) → ¬ K (.a τ) → σ.ar.lookup τ = some (some A) ∧ e'.ρ τ = e.ρ τ ∧ e'.φ τ = e.φ τ ∧ ∀ b ∈ e.φ τ, w'.heap[b]? = w.heap[b]?)
    (hnb : ∀ k cs, σ'.bx.lookup k = some cs → K (.b k) → N (e'.β k) ∧ ∃ cur ty, w'.heap[e'.β k]? = some (.cells cur ty (0, 0)) ∧ relL e' σ' w' cs cur.toList)
    (hna : ∀ τ A, σ'.ar.lookup τ = some (some A) → K (.a τ) → ArrOk N (Mut e' σ') w' A (e'.ρ τ) (e'.φ τ))
    (hblk : ∀ κ, live σ' κ → K κ → ∀ b ∈ blk e' κ, (live σ κ ∧ b ∈ blk e κ) ∨ (∃ κ1, (¬ live σ' κ1 ∨ K κ1) ∧ live σ κ1 ∧ b ∈ blk e κ1 ∧ (deepK κ1 → deepK κ)) ∨ w.heap.size ≤ b)
    (hsep : ∀ κ κ', live σ' κ → live σ' κ' → κ ≠ κ' → K κ → K κ' → ∀ b ∈ blk e' κ, b ∉ blk e' κ')
    (hfr : Frame N w0.w w') (hbd : ∀ b, e.bad b → e'.bad b) (hbn : ∀ b, e'.bad b → e.bad b ∨ (w.heap.size ≤ b ∧ b < w'.heap.size ∧ ∀ κ, live σ' κ → b ∈ blk e' κ → deepK κ)) (hdk : ∀ κ, live σ' κ → K κ → deepK κ → ∀ b ∈ blk e' κ, e'.bad b) : SimE N w0 e' σ' a' w' := by
  have hold : ∀ κ, live σ' κ → ¬ K κ → live σ κ ∧ blk e' κ = blk e κ := by
    intro κ hl hK
    cases κ with
    | b k =>
      obtain ⟨cs, hcs⟩ := hl
      obtain ⟨h1, _⟩ := hob k cs hcs hK
      exact ⟨⟨cs, h1⟩, by simp [blk, (u.bx k cs h1).2]⟩
    | a τ =>
      obtain ⟨A, hA⟩ := hl
      obtain ⟨h1, _, h2, _⟩ := hoa τ A hA hK
      exact ⟨⟨A, h1⟩, h2⟩
  have mixed : ∀ κ κ', live σ' κ → live σ' κ' → κ ≠ κ' → K κ → ¬ K κ' → ∀ b ∈ blk e' κ, b ∉ blk e' κ' := by
    intro κ κ' hl hl' hne hK hK' b hb hb'
    obtain ⟨g1, g2⟩ := hold κ' hl' hK'
    rw [g2] at hb'
    rcases hblk κ hl hK b hb with ⟨k1, k2⟩ | ⟨κ1, k1, k2, k3, _⟩ | k
    · exact h.sep κ κ' k1 g1 hne b k2 hb'
    · exact h.sep κ1 κ' k2 g1 (fun e => by rcases k1 with k1 | k1 <;> first | exact k1 (e ▸ hl') | exact hK' (e ▸ k1)) b k3 hb'
    · have := (h.blk_lt g1 b hb').1; omega
  refine ⟨hnt, hdf, fun t v ht => ?_, fun k cs hk => ?_, fun τ A hA => ?_, fun κ κ' hl hl' hne => ?_, hfr, ⟨fun b hb => hbd b (h.bad.1 b hb), fun b hb => ?_⟩, fun κ hl hd b hb => by
    by_cases hK : K κ
    · exact hdk κ hl hK hd b hb
    · obtain ⟨k1, k2⟩ := hold κ hl hK
      rw [k2] at hb
      exact hbd b (h.dk κ k1 hd b hb)⟩
  · rcases htm t v ht with ⟨h1, h2⟩ | h1
    · rw [h2]; exact (h.tm t v h1).up u
    · exact h1
  · by_cases hK : K (.b k)
    · exact hnb k cs hk hK
    · obtain ⟨h1, h2⟩ := hob k cs hk hK
      obtain ⟨k1, cur, ty, k2, k3⟩ := h.bx k cs h1
      rw [(u.bx k cs h1).2]
      exact ⟨k1, cur, ty, h2.trans k2, k3.up u⟩
  · by_cases hK : K (.a τ)
    · exact hna τ A hA hK
    · obtain ⟨h1, h2, h3, h4⟩ := hoa τ A hA hK
      rw [h2, h3]
      exact (h.ar τ A h1).up u h4
  · by_cases hK : K κ <;> by_cases hK' : K κ'
    · exact hsep κ κ' hl hl' hne hK hK'
    · exact mixed κ κ' hl hl' hne hK hK'
    · intro b hb hb'
      exact mixed κ' κ hl' hl (Ne.symm hne) hK' hK b hb' hb
    · obtain ⟨g1, g2⟩ := hold κ hl hK
      obtain ⟨g3, g4⟩ := hold κ' hl' hK'
      rw [g2, g4]
      exact h.sep κ κ' g1 g3 hne
  · rcases hbn b hb with hb' | ⟨_, h2, h3⟩
    · obtain ⟨q1, q2⟩ := h.bad.2 b hb'
      refine ⟨Nat.lt_of_lt_of_le q1 u.size, fun κ hl hm => ?_⟩
      by_cases hK : K κ
      · rcases hblk κ hl hK b hm with ⟨k1, k2⟩ | ⟨κ1, _, k2, k3, k4⟩ | k
        · exact q2 κ k1 k2
        · exact k4 (q2 κ1 k2 k3)
        · omega
      · obtain ⟨g1, g2⟩ := hold κ hl hK
        exact q2 κ g1 (g2 ▸ hm)
    · exact ⟨h2, h3⟩

theorem Frame.alloc {w0 w : World} (h : Frame N w0 w) (o : Obj) : Frame N w0 (w.alloc o) :=
  ⟨h.os, h.tape, h.output, by simp; have := h.size; omega, fun b hb hn => (Below.heap_alloc w o b (by have := h.size; omega)).trans (h.block b hb hn), h.new⟩
theorem Frame.drew {w0 w : World} (h : Frame N w0 w) : Frame N w0 w.drew := ⟨h.os, h.tape, h.output, h.size, h.block, h.new⟩
theorem Frame.grown {w0 w w' : World} (h : Frame N w0 w) {row : Option Nat} (g : w.grownBy w' row) (hr : ∀ b, row = some b → N b) : Frame N w0 w' :=
  ⟨g.os.trans h.os, g.tape.trans h.tape, g.output.trans h.output, Nat.le_trans h.size g.size, fun b hb hn => (g.block b (Nat.lt_of_lt_of_le hb h.size) (fun e => hn (hr b e.symm))).trans (h.block b hb hn), h.new⟩
theorem Frame.below {w0 w w' : World} (h : Frame N w0 w) (g : Below w.heap.size w w') : Frame N w0 w' :=
  ⟨g.os.trans h.os, g.tape.trans h.tape, g.output.trans h.output, Nat.le_trans h.size g.size, fun b hb hn => (g.block b (Nat.lt_of_lt_of_le hb h.size)).trans (h.block b hb hn), h.new⟩

theorem act_put_size (a : Act) (d : Option Nat) (v : Value) : (a.put d v).tmps.size = a.tmps.size := by cases d <;> simp [Act.put]
theorem act_put_defers (a : Act) (d : Option Nat) (v : Value) : (a.put d v).defers = a.defers := by cases d <;> rfl
theorem act_put_same (a : Act) (d : Nat) (v : Value) (h : d < a.tmps.size) : (a.put (some d) v).tmps.getD d undef = v := by simp [Act.put, h]
theorem act_put_other (a : Act) (d t : Nat) (v : Value) (h : t ≠ d) : (a.put (some d) v).tmps.getD t undef = a.tmps.getD t undef := by
  simp only [Act.put, Array.getD_eq_getD_getElem?]
  rw [Array.getElem?_setIfInBounds_ne (Ne.symm h)]
/-- The slots behind a write of one. -/
theorem tm_put {x : V} {d : Nat} {v : Value} (h : d < a.tmps.size) (hx : x.rel e' σ' w' v) (t : Nat) (y : V) (ht : ((d, x) :: σ.tm).lookup t = some y) :
    (σ.tm.lookup t = some y ∧ (a.put (some d) v).tmps.getD t undef = a.tmps.getD t undef) ∨ y.rel e' σ' w' ((a.put (some d) v).tmps.getD t undef) := by
  rw [lookup_cons] at ht
  by_cases htd : t = d
  · subst htd
    rw [if_pos rfl] at ht
    obtain rfl := Option.some.inj ht
    right
    rw [act_put_same a t v h]
    exact hx
  · rw [if_neg htd] at ht
    exact .inl ⟨ht, act_put_other a d t v htd⟩
end

end Go.Proofs.Ytopjlbifglacpaa.Am
