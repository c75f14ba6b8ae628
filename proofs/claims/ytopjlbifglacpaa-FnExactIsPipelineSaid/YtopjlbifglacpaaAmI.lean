/- Operations that make or write the call's own memory: what they turn in the plain state; variables first. -/
import Derived.Test.YtopjlbifglacpaaAmH
set_option linter.unusedSimpArgs false
set_option linter.unusedVariables false
namespace Go.Proofs.Ytopjlbifglacpaa.Am
open Go.RowKit

structure Eff where
  side : Prop
  tm : List (Nat × V)
  bx : List (Nat × List CV)
  ar : List (Nat × Option Arr)

def St.app (σ : St) (f : Eff) : St := ⟨σ.nt, f.tm ++ σ.tm, f.bx ++ σ.bx, f.ar ++ σ.ar⟩

def cellsV : V → Option (List CV)
  | .one c => some [c]
  | .agg cs => some cs
  | _ => none

/-- A cell given away as plain data: its datum; whether its memory is the call's own; the arrays that are given away; what must hold. -/
def absC (σ : St) : CV → Option (L × Bool × List Nat × Prop)
  | .l x => some (x, x.flat, [], True)
  | .nil => some (.sl [], true, [], True)
  | .own τ n => match σ.ar.lookup τ with
    | some (some A) => if τ < 1000000 then some (.sl A.es, A.fr, [τ], A.es.length = n) else none
    | _ => none
  | _ => none
def absL (σ : St) : List CV → Option (List L × Bool × List Nat × Prop)
  | [] => some ([], true, [], True)
  | c :: cs => match absC σ c, absL σ cs with
    | some (x, f, τ, p), some (xs, g, τs, q) => some (x :: xs, f && g, τ ++ τs, p ∧ q)
    | _, _ => none
def absE (σ : St) : List (List CV) → Option (List (List L) × Bool × List Nat × Prop)
  | [] => some ([], true, [], True)
  | c :: cs => match absL σ c, absE σ cs with
    | some (x, f, τ, p), some (xs, g, τs, q) => some (x :: xs, f && g, τ ++ τs, p ∧ q)
    | _, _ => none

section
variable {e : Env} {σ : St} {w : World} {N : Nat → Prop} {w0 : Bs} {a : Act} {P : Program}

theorem V.rel.cellsL {x : V} {u : Value} {cs : List CV} (h : x.rel e σ w u) (hc : cellsV x = some cs) : relL e σ w cs u.cells.toList := by
  cases x with
  | one c =>
    simp only [cellsV, Option.some.injEq] at hc
    subst hc
    have := CV.rel.cells (c := c) h
    rw [this.1]
    simp only [relL]
    exact ⟨u, [], rfl, h, rfl⟩
  | agg cs' =>
    simp only [cellsV, Option.some.injEq] at hc
    subst hc
    obtain ⟨vs, rfl, hr⟩ := h
    simpa [Value.cells] using hr
  | tup ps => simp [cellsV] at hc
  | dead => simp [cellsV] at hc

/-- A new variable of the call's own. -/
theorem SimE.newBox (h : SimE N w0 e σ a w) {d : Nat} (hd : d < σ.nt) (hn : σ.bx.lookup d = none) {cs : List CV} {us : Array Value} (hr : relL e σ w cs us.toList) (t : Nat) :
    SimE N w0 { e with β := fun k => if k = d then w.heap.size else e.β k } ⟨σ.nt, (d, .one (.box d 0)) :: σ.tm, (d, cs) :: σ.bx, σ.ar⟩ (a.put (some d) (.pointer (some ⟨w.heap.size, 0, none⟩))) (w.alloc (.cells us t)) := by
  have u : Up e σ w { e with β := fun k => if k = d then w.heap.size else e.β k } ⟨σ.nt, (d, .one (.box d 0)) :: σ.tm, (d, cs) :: σ.bx, σ.ar⟩ (w.alloc (.cells us t)) := by
    refine ⟨by simp, fun b hb _ => Below.heap_alloc w _ b hb, fun b hb hm => ?_, fun k cs' hk => ?_, fun τ A hA => ⟨A, hA, fun B hB => ⟨B, hB, Nat.le_refl _, fun _ => rfl⟩⟩⟩
    · rcases hm with h0 | ⟨k, cs', h1, h2⟩ | h1
      · exact .inl h0
      · simp only [lookup_cons] at h1
        by_cases hk : k = d
        · simp [hk] at h2; omega
        · simp only [if_neg hk] at h1 h2
          exact .inr (.inl ⟨k, cs', h1, h2⟩)
      · exact .inr (.inr h1)
    · have hk' : k ≠ d := fun e => by rw [e, hn] at hk; cases hk
      simp only [lookup_cons, if_neg hk']
      exact ⟨⟨cs', hk⟩, trivial⟩
  refine h.turn u (fun κ => κ = .b d) (by rw [act_put_size]; exact h.nt) (by rw [act_put_defers]; exact h.df)
    (tm_put (by rw [h.nt]; exact hd) ⟨⟨cs, by simp⟩, by simp⟩) (fun k cs' hk hK => ?_) (fun τ A hA _ => ⟨hA, rfl, rfl, fun b hb => Below.heap_alloc w _ b (h.blk_lt (κ := .a τ) ⟨A, hA⟩ b hb).1⟩)
    (fun k cs' hk hK => ?_) (fun τ A _ hK => by cases hK) (fun κ _ hK b hb => ?_) (fun κ κ' _ _ hne h1 h2 => absurd (h1.trans h2.symm) hne) (h.fr.alloc _) (fun _ h => h) (fun _ h => .inl h) (fun κ _ hK hd => by subst hK; exact hd.elim)
  · have hk' : k ≠ d := fun e => hK (by rw [e])
    simp only [lookup_cons, if_neg hk'] at hk
    exact ⟨hk, Below.heap_alloc w _ _ (h.blk_lt (κ := .b k) ⟨cs', hk⟩ _ (by simp [blk])).1⟩
  · injection hK with hK
    subst hK
    simp at hk
    subst hk
    simp only [if_pos]
    exact ⟨h.fr.new _ h.fr.size, us, t, heap_alloc_new w _, hr.up u⟩
  · subst hK
    simp [blk] at hb
    exact .inr (.inr (by omega))

/-- Cells of a variable of the call's own are written. -/
theorem SimE.setBox (h : SimE N w0 e σ a w) {k off : Nat} {cs new : List CV} (hk : σ.bx.lookup k = some cs) {us : List Value} (hr : relL e σ w new us) (hle : off + new.length ≤ cs.length) :
    ∃ w', (storeCells ⟨e.β k, off, none⟩ us).run P w = .ok () w' ∧ SimE N w0 e ⟨σ.nt, σ.tm, (k, cs.take off ++ new ++ cs.drop (off + new.length)) :: σ.bx, σ.ar⟩ a w' := by
  obtain ⟨hN, cur, ty, hh, hcs⟩ := h.bx k cs hk
  have hl := hr.len
  have hl2 := hcs.len
  have hst := run_storeCells_at P (e.β k) off ty us 0 cur w hh (by rw [Array.length_toList] at hl2; omega) hr.one
  rw [Nat.add_zero, hl] at hst
  refine ⟨_, hst, ?_⟩
  have hlt := lt_of_some hh
  have other : ∀ b, b ≠ e.β k → (w.setRow (e.β k) (cur.toList.take off ++ us ++ cur.toList.drop (off + new.length)).toArray).heap[b]? = w.heap[b]? := fun b hb => setRow_other w _ b _ hb
  have hm : Mut e σ (e.β k) := .inr (.inl ⟨k, cs, hk, rfl⟩)
  have u : Up e σ w e ⟨σ.nt, σ.tm, (k, cs.take off ++ new ++ cs.drop (off + new.length)) :: σ.bx, σ.ar⟩ (w.setRow (e.β k) (cur.toList.take off ++ us ++ cur.toList.drop (off + new.length)).toArray) := by
    refine ⟨by simp, fun b hb hnm => other b (fun e' => hnm (e' ▸ hm)), fun b hb hm' => ?_, fun j cs' hj => ?_, fun τ A hA => ⟨A, hA, fun B hB => ⟨B, hB, Nat.le_refl _, fun _ => rfl⟩⟩⟩
    · rcases hm' with h0 | ⟨j, cs', h1, h2⟩ | h1
      · exact .inl h0
      · simp only [lookup_cons] at h1
        by_cases hj : j = k
        · subst hj; exact h2 ▸ hm
        · simp only [if_neg hj] at h1
          exact .inr (.inl ⟨j, cs', h1, h2⟩)
      · exact .inr (.inr h1)
    · refine ⟨?_, rfl⟩
      simp only [lookup_cons]
      by_cases hj' : j = k
      · simp [hj']
      · simp only [if_neg hj']; exact ⟨cs', hj⟩
  refine h.turn u (fun κ => κ = .b k) h.nt h.df (fun t v ht => .inl ⟨ht, rfl⟩) (fun j cs' hj hK => ?_) (fun τ A hA _ => ⟨hA, rfl, rfl, fun b hb => other b (fun e' => ?_)⟩)
    (fun j cs' hj hK => ?_) (fun τ A _ hK => by cases hK) (fun κ hl' hK b hb => ?_) (fun κ κ' _ _ hne h1 h2 => absurd (h1.trans h2.symm) hne) ?_ (fun _ h => h) (fun _ h => .inl h) (fun κ _ hK hd => by subst hK; exact hd.elim)
  · have hj' : j ≠ k := fun e => hK (by rw [e])
    simp only [lookup_cons, if_neg hj'] at hj
    exact ⟨hj, other _ (fun e' => h.sep (.b j) (.b k) ⟨cs', hj⟩ ⟨cs, hk⟩ (by simp [hj']) (e.β j) (by simp [blk]) (by simp [blk, e']))⟩
  · exact h.sep (.b k) (.a τ) ⟨cs, hk⟩ ⟨A, hA⟩ (by simp) (e.β k) (by simp [blk]) (e' ▸ hb)
  · injection hK with hK
    subst hK
    simp only [lookup_cons, if_true] at hj
    obtain rfl := Option.some.inj hj
    refine ⟨hN, _, ty, setRow_heap w _ cur _ ty _ hh, ?_⟩
    have := ((hcs.take off).append hr).append (hcs.drop (off + new.length))
    exact this.up u
  · subst hK
    exact .inl ⟨⟨cs, hk⟩, hb⟩
  · exact ⟨h.fr.os, h.fr.tape, h.fr.output, by simpa using h.fr.size, fun b hb hn => (other b (fun e' => hn (e' ▸ hN))).trans (h.fr.block b hb hn), h.fr.new⟩
end

end Go.Proofs.Ytopjlbifglacpaa.Am
