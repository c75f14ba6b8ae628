/- Operations that make or write the call's own memory, in one law. -/
import Derived.Test.YtopjlbifglacpaaAmM
set_option linter.unusedSimpArgs false
set_option linter.unusedVariables false
namespace Go.Proofs.Ytopjlbifglacpaa.Am
open Go.RowKit

def cellsE : List (Nat × V) → Option (List (List CV))
  | [] => some []
  | (_, v) :: rest => match cellsV v, cellsE rest with
    | some c, some cs => some (c :: cs)
    | _, _ => none

def constLs : List Value → Option (List L)
  | [] => some []
  | .int k n :: vs => if k.wrap n = n then (constLs vs).map (.int k n :: ·) else none
  | .bool b :: vs => (constLs vs).map (.bool b :: ·)
  | .string s :: vs => if s.size ≤ 9223372036854775807 then (constLs vs).map (.str s :: ·) else none
  | .slice none 0 0 :: vs => (constLs vs).map (.sl [] :: ·)
  | _ => none

def srcV (σ : St) : V → Option (List (List L) × Bool × List Nat × Prop)
  | .one .nil => some ([], true, [], True)
  | .one (.l (.sl ys)) => some (ys, flatE ys, [], True)
  | .one (.own τ m) => match σ.ar.lookup τ with
    | some (some A) => if τ < 1000000 then (if flatE A.es then some (A.es, true, [], A.es.length = m) else some (A.es, A.fr, [τ], A.es.length = m)) else none
    | _ => none
  | _ => none

def memOp (P : Program) (σ : St) (dst : Option Nat) : Op → Option Eff
  | .box _ x => match dst, opd σ x with
    | some d, some v => match cellsV v, σ.bx.lookup d with
      | some cs, none => if d < σ.nt then some ⟨True, [(d, .one (.box d 0))], [(d, cs)], []⟩ else none
      | _, _ => none
    | _, _ => none
  | .alloc t => match dst, ti P t with
    | some d, some i => match constL i.zero, σ.bx.lookup d with
      | some cs, none => if d < σ.nt then some ⟨True, [(d, .one (.box d 0))], [(d, cs)], []⟩ else none
      | _, _ => none
    | _, _ => none
  | .store t p v => match dst, ti P t, opd σ v with
    | none, some i, some x => match cellsV x with
      | some new => if new.length = i.size then match opd σ p with
          | some (.one (.box k off)) => match σ.bx.lookup k with
            | some cs => if off + new.length ≤ cs.length then some ⟨True, [], [(k, cs.take off ++ new ++ cs.drop (off + new.length))], []⟩ else none
            | none => none
          | some (.one (.elt τ n j W off)) => match σ.ar.lookup τ, absL σ new with
            | some (some A), some (ls, f, τs, q) => match A.es[j]? with
              | some el => if el.length = W ∧ off + ls.length ≤ W ∧ τ ∉ τs ∧ τs.Nodup ∧ τ < 1000000 then
                  some ⟨A.es.length = n ∧ q, [], [], (τ, some ⟨A.fr && f, setAt A.es j off ls⟩) :: τs.map (fun κ => (κ, none))⟩ else none
              | none => none
            | _, _ => none
          | _ => none
        else none
      | none => none
    | _, _, _ => none
  | .buildSlice t len ps => match dst, ti P t, parts σ ps.toList with
    | some d, some ⟨.slice et, _, _, _⟩, some vs => match ti P et, cellsE vs with
      | some ei, some css => match absE σ css with
        | some (es, f, τs, q) => if d < σ.nt ∧ vs.map (·.1) = List.range len ∧ css.all (fun c => c.length == ei.size) ∧ τs.Nodup ∧ len * ei.size ≤ 16777216 ∧ len ≤ 16777216 ∧ ei.zero.length = ei.size ∧ (σ.ar.lookup (64 * d)).isNone then
            some ⟨q ∧ 64 * d < 1000000, [(d, .one (.own (64 * d) es.length))], [], (64 * d, some ⟨f, es⟩) :: τs.map (fun κ => (κ, none))⟩ else none
        | none => none
      | _, _ => none
    | _, _, _ => none
  | .makeSlice t l c => match dst, ti P t, num σ l, num σ c with
    | some d, some ⟨.slice et, _, _, _⟩, some (_, n), some (_, m) => match ti P et with
      | some ei => match constLs ei.zero with
        | some z => if d < σ.nt ∧ ei.zero.length = ei.size ∧ 0 < ei.size ∧ (σ.ar.lookup (64 * d)).isNone then
            some ⟨n = m ∧ 0 ≤ n ∧ n ≤ 9223372036854775807 ∧ ei.bytes * n ≤ 281474976710656 ∧ 64 * d < 1000000, [(d, .one (.own (64 * d) n.toNat))], [], [(64 * d, some ⟨true, List.replicate n.toNat z⟩)]⟩ else none
        | none => none
      | none => none
    | _, _, _, _ => none
  | .call { callee := .builtin .append, args := xs, argTypes := ts } => match dst, xs.toList, ts.toList with
    | some d, [s, x], [t, t'] => if t = t' ∧ d < σ.nt then match ti P t, opd σ s, opd σ x with
        | some ⟨.slice et, _, _, _⟩, some sv, some xv => match ti P et, srcV σ xv with
          | some ei, some (ys, f, τs, q) => if ei.zero.length = ei.size then match sv with
              | .one .nil => if (σ.ar.lookup (64 * d)).isNone then
                  some ⟨q ∧ 64 * d < 1000000 ∧ (∀ z ∈ ys, z.length = ei.size) ∧ ys.length ≤ 140737488355328 ∧ ys.length * ei.bytes ≤ 140737488355328, [(d, .one (.own (64 * d) ys.length))], [], (64 * d, some ⟨f, ys⟩) :: τs.map (fun κ => (κ, none))⟩ else none
              | .one (.own τ n) => match σ.ar.lookup τ with
                | some (some A) => if τ ∉ τs ∧ τ < 1000000 then
                    some ⟨q ∧ A.es.length = n ∧ (∀ z ∈ A.es, z.length = ei.size) ∧ (∀ z ∈ ys, z.length = ei.size) ∧ n + ys.length ≤ 140737488355328 ∧ (n + ys.length) * ei.bytes ≤ 140737488355328, [(d, .one (.own τ (n + ys.length)))], [], (τ, some ⟨A.fr && f, A.es ++ ys⟩) :: τs.map (fun κ => (κ, none))⟩ else none
                | _ => none
              | _ => none
            else none
          | _, _ => none
        | _, _, _ => none
      else none
    | _, _, _ => none
  | _ => none

section
variable {e : Env} {σ : St} {w : World} {N : Nat → Prop} {w0 : Bs} {a : Act} {P : Program}

theorem constLs_own : ∀ {vs : List Value} {ls : List L}, constLs vs = some ls → OwL N w ls vs [] ∧ ls.length = vs.length
  | [], _, h => by simp [constLs] at h; subst h; simp [OwL]
  | v :: vs, _, h => by
    unfold constLs at h
    split at h
    · rename_i heq; cases heq
    · rename_i k n vs' heq
      injection heq with e1 e2
      subst e1 e2
      split at h
      · rename_i hk
        obtain ⟨ls, h1, rfl⟩ := Option.map_eq_some_iff.1 h
        obtain ⟨g1, g2⟩ := constLs_own h1
        exact ⟨by simp only [OwL]; exact ⟨_, vs, [], [], rfl, rfl, by simp [Ow, InK, hk], g1⟩, by simp [g2]⟩
      · cases h
    · rename_i b vs' heq
      injection heq with e1 e2
      subst e1 e2
      obtain ⟨ls, h1, rfl⟩ := Option.map_eq_some_iff.1 h
      obtain ⟨g1, g2⟩ := constLs_own h1
      exact ⟨by simp only [OwL]; exact ⟨_, vs, [], [], rfl, rfl, by simp [Ow], g1⟩, by simp [g2]⟩
    · rename_i b vs' heq
      injection heq with e1 e2
      subst e1 e2
      split at h
      · rename_i hk
        obtain ⟨ls, h1, rfl⟩ := Option.map_eq_some_iff.1 h
        obtain ⟨g1, g2⟩ := constLs_own h1
        exact ⟨by simp only [OwL]; exact ⟨_, vs, [], [], rfl, rfl, by simp [Ow, Fit, hk], g1⟩, by simp [g2]⟩
      · cases h
    · rename_i vs' heq
      injection heq with e1 e2
      subst e1 e2
      obtain ⟨ls, h1, rfl⟩ := Option.map_eq_some_iff.1 h
      obtain ⟨g1, g2⟩ := constLs_own h1
      exact ⟨by simp only [OwL]; exact ⟨_, vs, [], [], rfl, rfl, by simp only [Ow]; exact ⟨none, 0, rfl, by omega, .inl (by simp)⟩, g1⟩, by simp [g2]⟩
    · cases h

theorem fill_seq {W : Nat} : ∀ (us : List Value) (k : Nat) (cells : Array Value), (∀ u ∈ us, u.cells.size = W) → (k + us.length) * W ≤ cells.size →
    ∃ cur, Instr.fill (fun i => some (i * W, W)) cells ((us.zipIdx k).map fun p => (p.2, p.1)) = some cur ∧ cur.toList = cells.toList.take (k * W) ++ us.flatMap (fun u => u.cells.toList) ++ cells.toList.drop ((k + us.length) * W)
  | [], k, cells, _, _ => ⟨cells, rfl, by simp⟩
  | u :: us, k, cells, h, hl => by
    have hu := h u (by simp)
    simp only [List.length_cons] at hl
    have hkW : k * W + W ≤ cells.size := by
      have : (k + 1) * W ≤ cells.size := Nat.le_trans (Nat.mul_le_mul_right _ (by omega)) hl
      rw [Nat.add_mul, Nat.one_mul] at this
      exact this
    have hfs := foldl_set (k * W) u.cells.toList 0 cells (by simp [hu]; omega)
    have hul : u.cells.toList.length = W := by simp [hu]
    obtain ⟨cur, h1, h2⟩ := fill_seq us (k + 1) ((u.cells.toList.zipIdx 0).foldl (fun cs (x : Value × Nat) => cs.setIfInBounds (k * W + x.2) x.1) cells) (fun x hx => h x (by simp [hx])) (by
      rw [← Array.length_toList, hfs]
      simp only [List.length_append, List.length_take, List.length_drop, Array.length_toList, hul]
      rw [show k + 1 + us.length = k + (us.length + 1) by omega]
      omega)
    refine ⟨cur, ?_, ?_⟩
    · simp only [List.zipIdx_cons, List.map_cons]
      unfold Instr.fill
      simp only
      rw [if_neg (by simp [hu]; omega), ← h1]
      congr 1
      rw [← Array.foldl_toList]
      simp [Array.toList_zipIdx]
    · rw [h2, hfs, hul]
      simp only [Nat.add_zero]
      have t1 : (cells.toList.take (k * W) ++ u.cells.toList).length = (k + 1) * W := by
        rw [List.length_append, List.length_take, hul, Array.length_toList, Nat.add_mul, Nat.one_mul]; omega
      rw [List.take_append, t1, List.take_of_length_le (by rw [t1]; exact Nat.le_refl _), Nat.sub_self, List.take_zero, List.append_nil]
      have t2 : k * W + W = (k + 1) * W := by rw [Nat.add_mul, Nat.one_mul]
      have t3 : (k + 1 + us.length) * W = (k + 1) * W + us.length * W := Nat.add_mul _ _ _
      have t4 : (cells.toList.take (k * W) ++ u.cells.toList ++ cells.toList.drop (k * W + W)).drop ((k + 1 + us.length) * W) = cells.toList.drop ((k + (us.length + 1)) * W) := by
        rw [t3, ← List.drop_drop, ← t1, List.drop_left, List.drop_drop, t2, ← t3]
        congr 2; omega
      rw [t4]
      simp

theorem cellsE_rel (h : SimE N w0 e σ a w) : ∀ {vs : List (Nat × V)} {us : List Value} {css : List (List CV)}, cellsE vs = some css → vs.length = us.length → (∀ (j : Nat) p q, vs[j]? = some p → us[j]? = some q → p.2.rel e σ w q) →
    relE e σ w css (us.flatMap fun u => u.cells.toList) ∧ us.map (fun u => u.cells.size) = css.map List.length
  | [], us, _, hc, hl, _ => by
    simp [cellsE] at hc
    subst hc
    have : us = [] := by simpa using hl.symm
    subst this
    simp [relE]
  | (i, v) :: vs, [], _, _, hl, _ => by simp at hl
  | (i, v) :: vs, u :: us, _, hc, hl, hr => by
    simp only [cellsE] at hc
    split at hc
    · rename_i c cs h1 h2
      obtain rfl := Option.some.inj hc
      obtain ⟨g1, g2⟩ := cellsE_rel h h2 (by simpa using hl) (fun j p q hp hq => hr (j + 1) p q (by simpa using hp) (by simpa using hq))
      have hv := (hr 0 (i, v) u rfl rfl).cellsL h1
      refine ⟨?_, ?_⟩
      · simp only [List.flatMap_cons, relE]
        exact ⟨_, _, rfl, hv, g1⟩
      · simp only [List.map_cons, g2]
        congr 1
        have := hv.len
        simpa using this
    · cases hc

theorem srcV_sound (h : SimE N w0 e σ a w) {xv : V} {x : Value} (hx : xv.rel e σ w x) {ys : List (List L)} {f : Bool} {τs : List Nat} {q : Prop} (hs : srcV σ xv = some (ys, f, τs, q)) (hq : q) {W : Nat} (hW : ∀ z ∈ ys, z.length = W) : Src N e σ w x ys W f τs := by
  unfold srcV at hs
  split at hs
  · simp only [Option.some.injEq, Prod.mk.injEq] at hs
    obtain ⟨rfl, rfl, rfl, rfl⟩ := hs
    have hv : x = .slice none 0 0 := hx
    subst hv
    exact ⟨⟨none, 0, [], [], rfl, by simp, fun _ => rfl, by simp, by simp, by simp [RpE], by simp [Given], fun _ => ⟨[], by simp [OwE], by simp, by simp⟩⟩, by simp⟩
  · simp only [Option.some.injEq, Prod.mk.injEq] at hs
    obtain ⟨rfl, rfl, rfl, rfl⟩ := hs
    rename_i ys
    obtain ⟨F, h1, h2⟩ := hx
    simp only [Rp] at h1
    obtain ⟨A, c, h3, h4, h5, ⟨h6, h7⟩ | ⟨b, off, xs, Fs, k1, k2, k3, k4, k5⟩⟩ := h1
    · subst h6
      exact ⟨⟨A, c, [], [], h3, by simp, fun _ => rfl, by simp, by simp, by simp [RpE], by simp [Given], fun _ => ⟨[], by simp [OwE], by simp, by simp⟩⟩, by simp⟩
    · subst k1 k3
      refine ⟨⟨_, c, xs, Fs, h3, by rw [k5.len, width_uniform hW], by simp, fun ad had j u hu => ?_, k5.one, k5, fun x hx => .inl (h2 x (by simp [hx])), fun hf => ?_⟩, by simp⟩
      · obtain rfl := Option.some.inj had
        rw [Addr.add_lit]; exact k4 j u hu
      · obtain ⟨rfl, o⟩ := k5.flat (N := N) hf
        exact ⟨[], o, by simp, by simp⟩
  · rename_i τ m
    split at hs
    · rename_i A hA
      obtain ⟨A', hA', g1, _⟩ := hx
      rw [hA] at hA'
      obtain rfl := Option.some.inj hA'
      have key : ∀ hm : A.es.length = m, x = e.ρ τ := fun hm => (g1 A rfl).2 hm
      split at hs
      rotate_left
      · cases hs
      rename_i hdp
      split at hs
      · rename_i hfl
        simp only [Option.some.injEq, Prod.mk.injEq] at hs
        obtain ⟨rfl, rfl, rfl, rfl⟩ := hs
        rw [key hq]
        obtain ⟨p', c, hρ, _, _, hc | ⟨b, vs, Fs, W', rfl, q2, q3, q4, q5, q6⟩⟩ := h.elems hA hdp
        · exact ⟨⟨p', c, [], [], hρ, by simp [hc], fun _ => by simp [hc], by simp, by simp, by simp [hc, RpE], by simp [Given], fun _ => ⟨[], by simp [hc, OwE], by simp, by simp⟩⟩, by simp⟩
        · refine ⟨⟨_, c, vs, Fs, hρ, by rw [q4.len, width_uniform hW], by simp, fun ad had j u hu => ?_, q4.one, q4, fun x hx => .inl (q6 x hx), fun hf => ?_⟩, by simp⟩
          · obtain rfl := Option.some.inj had
            rw [Addr.add_lit]; exact q2 j u hu
          · obtain ⟨rfl, o⟩ := q4.flat (N := N) hfl
            exact ⟨[], o, by simp, by simp⟩
      · simp only [Option.some.injEq, Prod.mk.injEq] at hs
        obtain ⟨rfl, rfl, rfl, rfl⟩ := hs
        rw [key hq]
        have hok := h.ar τ A hA
        obtain ⟨te, xs, Fs, r1, r2, r3, r4, r5⟩ := hok.row hW
        have hFs : ∀ b ∈ Fs, ¬ Mut e σ b := by
          intro b hb
          cases hf : A.fr
          · exact r4 hf b hb
          · obtain ⟨k1, k2, k3, k4⟩ := r3 hf
            exact h.inner hA hdp (k3 b hb) (fun e' => k4 b e' hb)
        obtain ⟨p', c, hρ, _, _⟩ := h.elems hA hdp
        refine ⟨⟨p', c, xs, Fs, hρ, r1.1, fun hn => ?_, fun ad had j u hu => ?_, r2.one, r2, fun x hx => .inl (hFs x hx), fun hf => ?_⟩, fun κ hκ => ?_⟩
        · rcases r1.2 with ⟨_, g⟩ | ⟨_, _, _, g, _⟩
          · exact g
          · rw [hρ] at g; injection g with g; rw [hn] at g; cases g
        · rcases r1.2 with ⟨g, g'⟩ | ⟨g0, cap, cur, g, _⟩
          · have hl : xs.length = 0 := by rw [r1.1, g', Nat.zero_mul]
            have hx0 := List.eq_nil_of_length_eq_zero hl
            rw [hx0] at hu; simp at hu
          · rw [hρ] at g
            injection g with g
            rw [had] at g
            obtain rfl := Option.some.inj g
            exact r1.cells (g := g0) (by rw [hρ, had]; rfl) j u hu
        · obtain ⟨k1, k2, k3, k4⟩ := r3 hf
          exact ⟨Fs, k1, k2, fun b hb => ⟨τ, by simp, k3 b hb⟩⟩
        · obtain rfl := List.mem_singleton.1 hκ
          exact ⟨A, hA, hdp⟩
    · cases hs
  · cases hs

end

end Go.Proofs.Ytopjlbifglacpaa.Am
