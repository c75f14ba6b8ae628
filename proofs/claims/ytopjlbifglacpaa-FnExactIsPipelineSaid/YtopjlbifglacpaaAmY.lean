/- A call that writes over the memory of its first argument: what it owes, and the state behind it. -/
import Derived.Test.YtopjlbifglacpaaAmX
set_option linter.unusedSimpArgs false
set_option linter.unusedVariables false
namespace Go.Proofs.Ytopjlbifglacpaa.Am
open Go.RowKit

/-- All is as it was but for the blocks of F, and what is new. -/
structure Chg (F : List Nat) (w w' : World) : Prop where
  os : w'.os = w.os
  tape : w'.tape = w.tape
  output : w'.output = w.output
  size : w.heap.size ≤ w'.heap.size
  block : ∀ b, b < w.heap.size → b ∉ F → w'.heap[b]? = w.heap[b]?

def PlainB (w : World) (b : Nat) : Prop := ∃ cur t, w.heap[b]? = some (.cells cur t (0, 0))

/-- The function writes over its first argument's memory, d becomes d'; of the number k it makes k'. -/
def MCtr (P : Program) (f : Nat) (d : DV) (k : Int) (d' : DV) (k' : Int) : Prop :=
  callOk P f = true ∧ ∀ (w : World) (v : Value) (F : List Nat), dvRel w d v F → F.Nodup → (∀ b ∈ F, PlainB w b) →
    Calls P f #[v, .int .i64 k] w fun e w' => e = .returned (.int .i64 k') ∧ InK .i64 k' ∧ dvRel w' d' v F ∧ Chg F w w'

/-- A cell handed over to be written: its datum; its arrays; what must hold. -/
def wrC (σ : St) : CV → Option (L × List Nat × Prop)
  | .l x => if x.flat then some (x, [], True) else none
  | .nil => some (.sl [], [], True)
  | .own τ n => match σ.ar.lookup τ with
    | some (some A) => if A.fr = true ∧ 1000000 ≤ τ then some (.sl A.es, [τ], A.es.length = n) else none
    | _ => none
  | _ => none
def wrL (σ : St) : List CV → Option (List L × List Nat × Prop)
  | [] => some ([], [], True)
  | c :: cs => match wrC σ c, wrL σ cs with
    | some (x, τ, p), some (xs, τs, q) => some (x :: xs, τ ++ τs, p ∧ q)
    | _, _ => none
def wrV (σ : St) : V → Option (DV × List Nat × Prop)
  | .one c => (wrC σ c).map fun r => (.one r.1, r.2)
  | .agg cs => (wrL σ cs).map fun r => (.agg r.1, r.2)
  | _ => none

/-- The arrays' new elements. -/
def newL : List CV → List L → List (Nat × List (List L))
  | .own τ _ :: cs, .sl es :: xs => (τ, es) :: newL cs xs
  | _ :: cs, _ :: xs => newL cs xs
  | _, _ => []
def newV : V → DV → List (Nat × List (List L))
  | .one c, .one x => newL [c] [x]
  | .agg cs, .agg xs => newL cs xs
  | _, _ => []

def mkC (m : List (Nat × List (List L))) : CV → CV
  | .own τ n => match m.lookup τ with
    | some es => if es.length = n then .l (.sl es) else .own τ n
    | none => .own τ n
  | c => c
def mkV (m : List (Nat × List (List L))) : V → V
  | .one c => .one (mkC m c)
  | .agg cs => .agg (cs.map (mkC m))
  | .tup ps => .tup (ps.map fun p => (p.1, p.2.map (mkC m)))
  | .dead => .dead
def St.wrote (σ : St) (m : List (Nat × List (List L))) : St :=
  ⟨σ.nt, σ.tm.map (fun p => (p.1, mkV m p.2)), σ.bx.map (fun p => (p.1, p.2.map (mkC m))), m.map (fun p => (p.1, none)) ++ σ.ar⟩

section
variable {e : Env} {σ : St} {w : World} {N : Nat → Prop} {w0 : Bs} {a : Act} {P : Program}

theorem lookup_map {α β : Type} (g : α → β) : ∀ (l : List (Nat × α)) (k : Nat), (l.map fun p => (p.1, g p.2)).lookup k = (l.lookup k).map g
  | [], _ => rfl
  | (j, x) :: l, k => by
    simp only [List.map_cons, lookup_cons, lookup_map g l k]
    by_cases h : k = j <;> simp [h]
theorem lookup_dead {α β : Type} (m : List (Nat × α)) (l : List (Nat × Option β)) (k : Nat) : (m.map (fun p => (p.1, (none : Option β))) ++ l).lookup k = if (m.lookup k).isSome then some none else l.lookup k := by
  induction m with
  | nil => simp
  | cons p m ih =>
    obtain ⟨j, x⟩ := p
    simp only [List.map_cons, List.cons_append, lookup_cons, ih]
    by_cases h : k = j
    · simp only [if_pos h, Option.isSome_some, if_true]
    · simp only [if_neg h]

theorem ArrOk.ow (h : SimE N w0 e σ a w) {τ : Nat} {A : Arr} (hA : σ.ar.lookup τ = some (some A)) (hf : A.fr = true) : Ow N w (.sl A.es) (e.ρ τ) (e.φ τ) := by
  obtain ⟨p, c, hv, hc, h3 | ⟨b, t, cur, Fs, W, k1, k2, k3, k4, k5, k6, k7, k8⟩⟩ := h.ar τ A hA
  · simp only [Ow]
    exact ⟨p, c, hv, hc, .inl h3⟩
  · simp only [Ow]
    rcases k8 with ⟨g1, g2, g3, g4⟩ | ⟨g1, _⟩
    · exact ⟨p, c, hv, hc, .inr ⟨b, t, cur, Fs, W, k1, k2, k3, k4, k5, k6, k7, g2, g4⟩⟩
    · rw [hf] at g1; cases g1

theorem wrC_rel (h : SimE N w0 e σ a w) {c : CV} {v : Value} (hr : c.rel e σ w v) {x : L} {τs : List Nat} {p : Prop} (hc : wrC σ c = some (x, τs, p)) (hp : p) :
    Ow N w x v (τs.flatMap e.φ) ∧ (∀ τ ∈ τs, (∃ A, σ.ar.lookup τ = some (some A) ∧ A.fr = true) ∧ 1000000 ≤ τ) ∧ (∀ τ n, c = .own τ n → v = e.ρ τ) := by
  unfold wrC at hc
  split at hc
  · split at hc
    · rename_i hf
      simp only [Option.some.injEq, Prod.mk.injEq] at hc
      obtain ⟨rfl, rfl, rfl⟩ := hc
      obtain ⟨F, h1, _⟩ := hr
      exact ⟨(h1.flat (N := N) hf).2, by simp, by simp⟩
    · cases hc
  · simp only [Option.some.injEq, Prod.mk.injEq] at hc
    obtain ⟨rfl, rfl, rfl⟩ := hc
    have hv : v = .slice none 0 0 := hr
    subst hv
    refine ⟨?_, by simp, by simp⟩
    simp only [Ow]
    exact ⟨none, 0, rfl, by omega, .inl (by simp)⟩
  · rename_i τ n
    split at hc
    · rename_i A hA
      split at hc
      · rename_i hf
        simp only [Option.some.injEq, Prod.mk.injEq] at hc
        obtain ⟨rfl, rfl, rfl⟩ := hc
        obtain ⟨A', hA', h1, _⟩ := hr
        rw [hA] at hA'
        obtain rfl := Option.some.inj hA'
        have hv := (h1 A rfl).2 hp
        refine ⟨?_, fun κ hκ => ?_, fun τ' n' hτ => ?_⟩
        · rw [hv]; simpa using ArrOk.ow h hA hf.1
        · obtain rfl := List.mem_singleton.1 hκ
          exact ⟨⟨A, hA, hf.1⟩, hf.2⟩
        · injection hτ with hτ _
          rw [← hτ]; exact hv
      · cases hc
    · cases hc
  · cases hc

theorem wrL_rel (h : SimE N w0 e σ a w) : ∀ {cs : List CV} {vs : List Value}, relL e σ w cs vs → ∀ {xs : List L} {τs : List Nat} {p : Prop}, wrL σ cs = some (xs, τs, p) → p →
    OwL N w xs vs (τs.flatMap e.φ) ∧ (∀ τ ∈ τs, (∃ A, σ.ar.lookup τ = some (some A) ∧ A.fr = true) ∧ 1000000 ≤ τ) ∧ (∀ (i : Nat) τ n v, cs[i]? = some (.own τ n) → vs[i]? = some v → v = e.ρ τ)
  | [], vs, hr, xs, τs, p, hc, hp => by
    simp only [relL] at hr
    subst hr
    simp only [wrL, Option.some.injEq, Prod.mk.injEq] at hc
    obtain ⟨rfl, rfl, rfl⟩ := hc
    simp [OwL]
  | c :: cs, vs, hr, xs, τs, p, hc, hp => by
    simp only [relL] at hr
    obtain ⟨v, vs', rfl, h1, h2⟩ := hr
    simp only [wrL] at hc
    split at hc
    · rename_i x τ1 p1 xs2 τ2 p2 e1 e2
      simp only [Option.some.injEq, Prod.mk.injEq] at hc
      obtain ⟨rfl, rfl, rfl⟩ := hc
      obtain ⟨k1, k2, k3⟩ := wrC_rel h h1 e1 hp.1
      obtain ⟨g1, g2, g3⟩ := wrL_rel h h2 e2 hp.2
      refine ⟨?_, fun τ hτ => by rcases List.mem_append.1 hτ with hτ | hτ; exact k2 τ hτ; exact g2 τ hτ, fun i τ n u hi hu => ?_⟩
      · simp only [OwL, List.flatMap_append]
        exact ⟨v, vs', _, _, rfl, rfl, k1, g1⟩
      · cases i with
        | zero => simp at hi hu; subst hu; exact k3 τ n hi
        | succ i => exact g3 i τ n u (by simpa using hi) (by simpa using hu)
    · cases hc

theorem newL_mem : ∀ {cs : List CV} {xs : List L} {τ : Nat} {es : List (List L)}, (τ, es) ∈ newL cs xs → ∃ (i n : Nat), cs[i]? = some (CV.own τ n) ∧ xs[i]? = some (L.sl es)
  | [], xs, τ, es, h => by cases xs <;> simp [newL] at h
  | c :: cs, [], τ, es, h => by cases c <;> simp [newL] at h
  | c :: cs, x :: xs, τ, es, h => by
    have rest : (τ, es) ∈ newL cs xs → ∃ (i n : Nat), (c :: cs)[i]? = some (CV.own τ n) ∧ (x :: xs)[i]? = some (L.sl es) := fun h => by
      obtain ⟨i, n, h1, h2⟩ := newL_mem h
      exact ⟨i + 1, n, by simpa using h1, by simpa using h2⟩
    cases c with
    | own τ' n' =>
      cases x with
      | sl es' =>
        simp only [newL, List.mem_cons, Prod.mk.injEq] at h
        rcases h with ⟨rfl, rfl⟩ | h
        · exact ⟨0, n', rfl, rfl⟩
        · exact rest h
      | _ => exact rest (by simpa [newL] using h)
    | _ => exact rest (by simpa [newL] using h)
theorem RpL.at : ∀ {xs : List L} {vs : List Value} {F : List Nat}, RpL w xs vs F → ∀ {i : Nat} {x : L}, xs[i]? = some x → ∃ v G, vs[i]? = some v ∧ Rp w x v G ∧ ∀ b ∈ G, b ∈ F
  | x :: xs, vs, F, h, i, y, hi => by
    simp only [RpL] at h
    obtain ⟨v, vs', F1, F2, rfl, rfl, h1, h2⟩ := h
    cases i with
    | zero => simp at hi; subst hi; exact ⟨v, F1, rfl, h1, fun b hb => by simp [hb]⟩
    | succ i =>
      obtain ⟨u, G, g1, g2, g3⟩ := RpL.at h2 (i := i) (by simpa using hi)
      exact ⟨u, G, by simpa using g1, g2, fun b hb => by simp [g3 b hb]⟩

/-- The state behind the call, but for its result. -/
theorem SimE.wrote (h : SimE N w0 e σ a w) (hbad : ∀ b, w0.bad b → ¬ N b) {w' : World} {τs : List Nat} {m : List (Nat × List (List L))} (hl : ∀ τ ∈ τs, (∃ A, σ.ar.lookup τ = some (some A) ∧ A.fr = true) ∧ 1000000 ≤ τ)
    (hc : Chg (τs.flatMap e.φ) w w') (hm : ∀ τ es, m.lookup τ = some es → ∃ G, Rp w' (.sl es) (e.ρ τ) G ∧ ∀ b ∈ G, b ∈ τs.flatMap e.φ) (hm1 : ∀ τ ∈ τs, (m.lookup τ).isSome = true) (hm2 : ∀ τ es, m.lookup τ = some es → τ ∈ τs ∧ ∀ A, σ.ar.lookup τ = some (some A) → A.es.length = es.length) :
    SimE N w0 ⟨e.β, e.ρ, e.φ, fun b => e.bad b ∧ b ∉ τs.flatMap e.φ⟩ (σ.wrote m) a w' := by
  have hbx : ∀ k cs, (σ.wrote m).bx.lookup k = some cs → ∃ cs0, σ.bx.lookup k = some cs0 ∧ cs = cs0.map (mkC m) := fun k cs hk => by
    have h1 : (σ.bx.lookup k).map (fun cs => cs.map (mkC m)) = some cs := by rw [← lookup_map]; exact hk
    obtain ⟨cs0, q1, q2⟩ := Option.map_eq_some_iff.1 h1
    exact ⟨cs0, q1, q2.symm⟩
  have har : ∀ τ A, (σ.wrote m).ar.lookup τ = some (some A) → τ ∉ τs ∧ σ.ar.lookup τ = some (some A) := fun τ A hA => by
    have h1 : (if (m.lookup τ).isSome then some none else σ.ar.lookup τ) = some (some A) := by rw [← lookup_dead]; exact hA
    split at h1
    · cases h1
    · rename_i hn
      exact ⟨fun ht => hn (hm1 τ ht), h1⟩
  have hFb : ∀ b ∈ τs.flatMap e.φ, e.bad b ∧ N b ∧ b < w.heap.size ∧ ∃ τ ∈ τs, b ∈ e.φ τ := fun b hb => by
    obtain ⟨τ, h1, h2⟩ := List.mem_flatMap.1 hb
    obtain ⟨⟨A, hA, _⟩, hd⟩ := hl τ h1
    have := h.blk_lt (κ := .a τ) ⟨A, hA⟩ b h2
    exact ⟨h.dk (.a τ) ⟨A, hA⟩ hd b h2, this.2, this.1, τ, h1, h2⟩
  have hmut : ∀ b, Mut ⟨e.β, e.ρ, e.φ, fun b => e.bad b ∧ b ∉ τs.flatMap e.φ⟩ (σ.wrote m) b → Mut e σ b ∧ b ∉ τs.flatMap e.φ := fun b hb => by
    rcases hb with h0 | ⟨k, cs, h1, h2⟩ | ⟨τ, A, h1, h2⟩
    · exact ⟨.inl h0.1, h0.2⟩
    · obtain ⟨cs0, q1, _⟩ := hbx k cs h1
      refine ⟨.inr (.inl ⟨k, cs0, q1, h2⟩), fun hF => ?_⟩
      obtain ⟨_, _, _, τ, g1, g2⟩ := hFb b hF
      obtain ⟨⟨A, hA, _⟩, _⟩ := hl τ g1
      exact h.sep (.b k) (.a τ) ⟨cs0, q1⟩ ⟨A, hA⟩ (by simp) b (by simp only [blk]; exact List.mem_singleton.2 h2.symm) g2
    · obtain ⟨q0, q1⟩ := har τ A h1
      refine ⟨.inr (.inr ⟨τ, A, q1, h2⟩), fun hF => ?_⟩
      obtain ⟨_, _, _, κ, g1, g2⟩ := hFb b hF
      obtain ⟨⟨B, hB, _⟩, _⟩ := hl κ g1
      exact h.sep (.a τ) (.a κ) ⟨A, q1⟩ ⟨B, hB⟩ (by rintro ⟨⟩; exact q0 g1) b ((h.ar τ A q1).own h2).1 g2
  have u : Up e σ w ⟨e.β, e.ρ, e.φ, fun b => e.bad b ∧ b ∉ τs.flatMap e.φ⟩ (σ.wrote m) w' := by
    refine ⟨hc.size, fun b hb hm => hc.block b hb fun hF => hm (.inl (hFb b hF).1), fun b _ hb => (hmut b hb).1, fun k cs hk => ⟨⟨cs.map (mkC m), ?_⟩, rfl⟩, fun τ A hA => ?_⟩
    · show (σ.bx.map (fun (p : Nat × List CV) => (p.1, p.2.map (mkC m)))).lookup k = _
      rw [lookup_map, hk]; rfl
    · show ∃ A', (m.map (fun (p : Nat × List (List L)) => (p.1, none)) ++ σ.ar).lookup τ = some A' ∧ _
      rw [lookup_dead]
      split
      · exact ⟨none, rfl, by simp⟩
      · exact ⟨A, hA, fun B hB => ⟨B, hB, Nat.le_refl _, fun _ => rfl⟩⟩
  have hC : ∀ (c : CV) (v : Value), c.rel e σ w v → (mkC m c).rel ⟨e.β, e.ρ, e.φ, fun b => e.bad b ∧ b ∉ τs.flatMap e.φ⟩ (σ.wrote m) w' v := fun c v hr => by
    cases c with
    | own τ n =>
      simp only [mkC]
      split
      · rename_i es he
        split
        · rename_i hn
          obtain ⟨q1, q2⟩ := hm2 τ es he
          obtain ⟨⟨A, hA, _⟩, _⟩ := hl τ q1
          obtain ⟨A', hA', h1, _⟩ := hr
          rw [hA] at hA'
          obtain rfl := Option.some.inj hA'
          have hv := (h1 A rfl).2 (by rw [q2 A hA, hn])
          obtain ⟨G, g1, g2⟩ := hm τ es he
          exact ⟨G, by rw [hv]; exact g1, fun b hb hmm => (hmut b hmm).2 (g2 b hb)⟩
        · exact hr.up u
      · exact hr.up u
    | _ => exact hr.up u
  have hL : ∀ (cs : List CV) (vs : List Value), relL e σ w cs vs → relL ⟨e.β, e.ρ, e.φ, fun b => e.bad b ∧ b ∉ τs.flatMap e.φ⟩ (σ.wrote m) w' (cs.map (mkC m)) vs := fun cs => by
    induction cs with
    | nil => intro vs hr; exact hr
    | cons c cs ih =>
      intro vs hr
      simp only [relL] at hr
      obtain ⟨v, vs', rfl, h1, h2⟩ := hr
      simp only [List.map_cons, relL]
      exact ⟨v, vs', rfl, hC _ _ h1, ih _ h2⟩
  have hP : ∀ (ps : List (Bool × List CV)) (vs : List Value), ptsRel e σ w ps vs → ptsRel ⟨e.β, e.ρ, e.φ, fun b => e.bad b ∧ b ∉ τs.flatMap e.φ⟩ (σ.wrote m) w' (ps.map fun (p : Bool × List CV) => (p.1, p.2.map (mkC m))) vs := fun ps => by
    induction ps with
    | nil => intro vs hr; exact hr
    | cons p ps ih =>
      intro vs hr
      simp only [ptsRel] at hr
      obtain ⟨v, vs', rfl, h1, h2⟩ := hr
      simp only [List.map_cons, ptsRel]
      refine ⟨v, vs', rfl, ?_, ih _ h2⟩
      obtain ⟨b, cs⟩ := p
      cases b
      · obtain ⟨c, rfl, h1⟩ := h1
        exact ⟨_, rfl, hC _ _ h1⟩
      · obtain ⟨us, rfl, h1⟩ := h1
        exact ⟨us, rfl, hL _ _ h1⟩
  have hV : ∀ (x : V) (v : Value), x.rel e σ w v → (mkV m x).rel ⟨e.β, e.ρ, e.φ, fun b => e.bad b ∧ b ∉ τs.flatMap e.φ⟩ (σ.wrote m) w' v := fun x v hr => by
    cases x with
    | one c => exact hC c v hr
    | agg cs => obtain ⟨us, rfl, h1⟩ := hr; exact ⟨us, rfl, hL _ _ h1⟩
    | tup ps => obtain ⟨us, rfl, h1⟩ := hr; exact ⟨us, rfl, hP _ _ h1⟩
    | dead => exact hr
  have hlive : ∀ κ, live (σ.wrote m) κ → live σ κ ∧ ∀ b ∈ blk e κ, b ∉ τs.flatMap e.φ := fun κ hk => by
    cases κ with
    | b k =>
      obtain ⟨cs, hk⟩ := hk
      obtain ⟨cs0, q1, _⟩ := hbx k cs hk
      refine ⟨⟨cs0, q1⟩, fun b hb hF => ?_⟩
      obtain ⟨_, _, _, τ, g1, g2⟩ := hFb b hF
      obtain ⟨⟨A, hA, _⟩, _⟩ := hl τ g1
      exact h.sep (.b k) (.a τ) ⟨cs0, q1⟩ ⟨A, hA⟩ (by simp) b hb g2
    | a τ =>
      obtain ⟨A, hA⟩ := hk
      obtain ⟨q0, q1⟩ := har τ A hA
      refine ⟨⟨A, q1⟩, fun b hb hF => ?_⟩
      obtain ⟨_, _, _, κ, g1, g2⟩ := hFb b hF
      obtain ⟨⟨B, hB, _⟩, _⟩ := hl κ g1
      exact h.sep (.a τ) (.a κ) ⟨A, q1⟩ ⟨B, hB⟩ (by rintro ⟨⟩; exact q0 g1) b hb g2
  refine ⟨h.nt, h.df, fun t x ht => ?_, fun k cs hk => ?_, fun τ A hA => ?_, fun κ κ' h1 h2 hne => h.sep κ κ' (hlive κ h1).1 (hlive κ' h2).1 hne, ?_, ⟨fun b hb => ⟨h.bad.1 b hb, fun hF => hbad b hb (hFb b hF).2.1⟩, fun b hb => ⟨Nat.lt_of_lt_of_le (h.bad.2 b hb.1).1 hc.size, fun κ hk hbk => (h.bad.2 b hb.1).2 κ (hlive κ hk).1 hbk⟩⟩, fun κ hk hd b hb => ⟨h.dk κ (hlive κ hk).1 hd b hb, (hlive κ hk).2 b hb⟩⟩
  · have h1 : (σ.tm.lookup t).map (mkV m) = some x := by rw [← lookup_map]; exact ht
    obtain ⟨x0, q1, rfl⟩ := Option.map_eq_some_iff.1 h1
    exact hV _ _ (h.tm t x0 q1)
  · obtain ⟨cs0, q1, rfl⟩ := hbx k cs hk
    obtain ⟨g1, cur, ty, g2, g3⟩ := h.bx k cs0 q1
    refine ⟨g1, cur, ty, ?_, hL _ _ g3⟩
    have := (hlive (.b k) ⟨_, hk⟩).2 (e.β k) (by simp [blk])
    rw [← g2]
    exact hc.block _ (lt_of_some g2) this
  · obtain ⟨q0, q1⟩ := har τ A hA
    exact (h.ar τ A q1).up u fun b hb => hc.block b (h.blk_lt (κ := .a τ) ⟨A, q1⟩ b hb).1 ((hlive (.a τ) ⟨A, hA⟩).2 b hb)
  · refine ⟨hc.os.trans h.fr.os, hc.tape.trans h.fr.tape, hc.output.trans h.fr.output, Nat.le_trans h.fr.size hc.size, fun b hb hN => ?_, h.fr.new⟩
    rw [← h.fr.block b hb hN]
    exact hc.block b (Nat.lt_of_lt_of_le hb h.fr.size) fun hF => hN (hFb b hF).2.1
end

end Go.Proofs.Ytopjlbifglacpaa.Am
