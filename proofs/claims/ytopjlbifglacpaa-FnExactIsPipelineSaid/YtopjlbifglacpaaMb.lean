/- Small words for the Lean functions that mirror the program's text, and the rules of the walk that lead from such a function to its contract. Nothing of the program is used here. -/
import Derived.Test.YtopjlbifglacpaaAmZ
set_option linter.unusedSimpArgs false
set_option linter.unusedVariables false
namespace Go.Proofs.Ytopjlbifglacpaa.Am
open Go.RowKit

/-- Whatever world is in state σ is in state σ', too. -/
def Into (σ' σ : St) : Prop := ∀ (N : Nat → Prop) (w0 : Bs) (a : Act) (w : World), Sim N w0 σ a w → Sim N w0 σ' a w

/-- A cell told anew: the same; a slice of the call's own given up (nobody writes it any more); nil as an empty slice, plain or the call's own. -/
def cle (σ' σ : St) : CV → CV → Prop
  | .l (.sl es), .own τ n => match σ.ar.lookup τ with
    | some (some A) => A.es = es ∧ A.es.length = n ∧ τ < 1000000 ∧ σ'.ar.lookup τ = none
    | _ => False
  | .l x, .nil => x = .sl []
  | .l x, .l y => x = y
  | .nil, .nil => True
  | .own τ n, .nil => n = 0 ∧ σ.ar.lookup τ = none ∧ σ'.ar.lookup τ = some (some ⟨true, []⟩)
  | .own τ n, .own τ' n' => τ = τ' ∧ n = n' ∧ (σ'.ar.lookup τ).isSome = true
  | .box k o, .box k' o' => k = k' ∧ o = o' ∧ (σ'.bx.lookup k).isSome = true
  | .adr x, .adr y => x = y
  | .elt τ n i W off, .elt τ' n' i' W' off' => τ = τ' ∧ n = n' ∧ i = i' ∧ W = W' ∧ off = off' ∧ (σ'.ar.lookup τ).isSome = true
  | _, _ => False
def clesL (σ' σ : St) : List CV → List CV → Prop
  | [], [] => True
  | c :: cs, d :: ds => cle σ' σ c d ∧ clesL σ' σ cs ds
  | _, _ => False
def psle (σ' σ : St) : List (Bool × List CV) → List (Bool × List CV) → Prop
  | [], [] => True
  | p :: ps, q :: qs => p.1 = q.1 ∧ clesL σ' σ p.2 q.2 ∧ psle σ' σ ps qs
  | _, _ => False
def vle (σ' σ : St) : V → V → Prop
  | .dead, .dead => True
  | .one c, .one d => cle σ' σ c d
  | .agg cs, .agg ds => clesL σ' σ cs ds
  | .tup ps, .tup qs => psle σ' σ ps qs
  | _, _ => False
def tmLe (σ' σ : St) : List (Nat × V) → Prop
  | [] => True
  | (t, v) :: r => (match σ.tm.lookup t with | some u => vle σ' σ v u | none => False) ∧ tmLe σ' σ r
def bxLe (σ' σ : St) : List (Nat × List CV) → Prop
  | [] => True
  | (t, v) :: r => (match σ.bx.lookup t with | some u => clesL σ' σ v u | none => False) ∧ bxLe σ' σ r
def arLe (σ : St) : List (Nat × Option Arr) → Prop
  | [] => True
  | (t, A) :: r => (match σ.ar.lookup t with | some B => A = B | none => A = some ⟨true, []⟩) ∧ arLe σ r
structure Lift (σ' σ : St) : Prop where
  nt : σ'.nt = σ.nt
  tm : tmLe σ' σ σ'.tm
  bx : bxLe σ' σ σ'.bx
  ar : arLe σ σ'.ar

section
variable {e e' : Env} {σ σ' : St} {w w' : World} {N : Nat → Prop} {w0 : Bs} {a : Act} {P : Program}

theorem tmLe_look : ∀ {l : List (Nat × V)}, tmLe σ' σ l → ∀ {t : Nat} {v : V}, l.lookup t = some v → ∃ u, σ.tm.lookup t = some u ∧ vle σ' σ v u
  | [], _, _, _, h => by simp at h
  | (j, x) :: l, hl, t, v, h => by
    simp only [tmLe] at hl
    rw [lookup_cons] at h
    split at h
    · rename_i hj
      subst hj
      obtain rfl := Option.some.inj h
      have h1 := hl.1
      split at h1
      · rename_i u hu; exact ⟨u, hu, h1⟩
      · exact h1.elim
    · exact tmLe_look hl.2 h
theorem bxLe_look : ∀ {l : List (Nat × List CV)}, bxLe σ' σ l → ∀ {t : Nat} {v : List CV}, l.lookup t = some v → ∃ u, σ.bx.lookup t = some u ∧ clesL σ' σ v u
  | [], _, _, _, h => by simp at h
  | (j, x) :: l, hl, t, v, h => by
    simp only [bxLe] at hl
    rw [lookup_cons] at h
    split at h
    · rename_i hj
      subst hj
      obtain rfl := Option.some.inj h
      have h1 := hl.1
      split at h1
      · rename_i u hu; exact ⟨u, hu, h1⟩
      · exact h1.elim
    · exact bxLe_look hl.2 h
theorem arLe_look : ∀ {l : List (Nat × Option Arr)}, arLe σ l → ∀ {t : Nat} {A : Option Arr}, l.lookup t = some A → σ.ar.lookup t = some A ∨ (σ.ar.lookup t = none ∧ A = some ⟨true, []⟩)
  | [], _, _, _, h => by simp at h
  | (j, x) :: l, hl, t, v, h => by
    simp only [arLe] at hl
    rw [lookup_cons] at h
    split at h
    · rename_i hj
      subst hj
      obtain rfl := Option.some.inj h
      have h1 := hl.1
      split at h1
      · rename_i u hu; subst h1; exact .inl hu
      · rename_i hu; exact .inr ⟨hu, h1⟩
    · exact arLe_look hl.2 h

/-- The arrays that were not there are nil. -/
def adopt (e : Env) (σ : St) : Env :=
  ⟨e.β, fun τ => match σ.ar.lookup τ with | none => .slice none 0 0 | some _ => e.ρ τ, fun τ => match σ.ar.lookup τ with | none => [] | some _ => e.φ τ, e.bad⟩
theorem adopt_rho {τ : Nat} {A : Option Arr} (h : σ.ar.lookup τ = some A) : (adopt e σ).ρ τ = e.ρ τ ∧ (adopt e σ).φ τ = e.φ τ := by simp [adopt, h]
theorem adopt_new {τ : Nat} (h : σ.ar.lookup τ = none) : (adopt e σ).ρ τ = .slice none 0 0 ∧ (adopt e σ).φ τ = [] := by simp [adopt, h]

theorem Lift.mut (k : Lift σ' σ) {b : Nat} (h : Mut (adopt e σ) σ' b) : Mut e σ b := by
  rcases h with h | ⟨j, cs, h1, h2⟩ | ⟨τ, A, h1, h2⟩
  · exact .inl h
  · obtain ⟨u, hu, _⟩ := bxLe_look k.bx h1
    exact .inr (.inl ⟨j, u, hu, h2⟩)
  · rcases arLe_look k.ar h1 with h3 | ⟨h3, h4⟩
    · rw [(adopt_rho h3).1] at h2
      exact .inr (.inr ⟨τ, A, h3, h2⟩)
    · rw [(adopt_new h3).1] at h2
      simp [Value.ownBlock] at h2

/-- A slice given up can be read, and nobody writes it. -/
theorem Lift.freeze (k : Lift σ' σ) (h : SimE N w0 e σ a w) {τ n : Nat} {A : Arr} (hA : σ.ar.lookup τ = some (some A)) (hd : τ < 1000000) (hn : σ'.ar.lookup τ = none) (hl : A.es.length = n) {v : Value} (hr : (CV.own τ n).rel e σ w v) :
    (CV.l (.sl A.es)).rel (adopt e σ) σ' w v := by
  obtain ⟨A', hA', h1, _⟩ := hr
  rw [hA] at hA'
  obtain rfl := Option.some.inj hA'
  have hv : v = e.ρ τ := (h1 A rfl).2 hl
  subst hv
  obtain ⟨p, c, hv, hc1, hc2, h4 | ⟨b, vs, Fs, W, rfl, h5, h6, h7, h8, h9⟩⟩ := h.elems hA hd
  · refine ⟨[], ?_, by simp⟩
    rw [hv]
    simp only [Rp]
    exact ⟨p, c, rfl, hc1, hc2, .inl ⟨h4, trivial⟩⟩
  · have hlt := (h.blk_lt (κ := .a τ) ⟨A, hA⟩ b h8).1
    refine ⟨b :: Fs, ?_, ?_⟩
    · rw [hv]
      simp only [Rp]
      exact ⟨_, c, rfl, hc1, hc2, .inr ⟨b, 0, vs, Fs, rfl, hlt, rfl, h5, h7⟩⟩
    · intro x hx hm
      rcases List.mem_cons.1 hx with rfl | hx
      · rcases hm with hb | ⟨j, cs, g1, g2⟩ | ⟨τ', A', g1, g2⟩
        · have : 1000000 ≤ τ := (h.bad.2 x hb).2 (.a τ) ⟨A, hA⟩ h8
          omega
        · obtain ⟨u, hu, _⟩ := bxLe_look k.bx g1
          exact h.sep (.b j) (.a τ) ⟨u, hu⟩ ⟨A, hA⟩ (by simp) x (by simp only [blk, List.mem_singleton]; exact g2.symm) h8
        · have hne : τ' ≠ τ := fun he => by rw [he, hn] at g1; cases g1
          rcases arLe_look k.ar g1 with g3 | ⟨g3, g4⟩
          · rw [(adopt_rho g3).1] at g2
            exact h.sep (.a τ') (.a τ) ⟨A', g3⟩ ⟨A, hA⟩ (by simpa using hne) x ((h.ar τ' A' g3).own g2).1 h8
          · rw [(adopt_new g3).1] at g2
            simp [Value.ownBlock] at g2
      · exact h9 x hx (k.mut hm)

theorem Lift.rel (k : Lift σ' σ) (h : SimE N w0 e σ a w) {c' c : CV} {v : Value} (hr : c.rel e σ w v) (hc : cle σ' σ c' c) : c'.rel (adopt e σ) σ' w v := by
  unfold cle at hc
  split at hc
  · rename_i es τ n
    split at hc
    · rename_i A hA
      obtain ⟨rfl, h2, h3, h4⟩ := hc
      exact k.freeze h hA h3 h4 h2 hr
    · exact hc.elim
  · subst hc
    have hv : v = .slice none 0 0 := hr
    subst hv
    refine ⟨[], ?_, by simp⟩
    simp only [Rp]; exact ⟨none, 0, rfl, Nat.le_refl _, by omega, .inl (by simp)⟩
  · subst hc
    obtain ⟨F, h1, h2⟩ := hr
    exact ⟨F, h1, fun b hb hm => h2 b hb (k.mut hm)⟩
  · exact hr
  · obtain ⟨rfl, h2, h3⟩ := hc
    have hv : v = .slice none 0 0 := hr
    subst hv
    refine ⟨_, h3, fun B hB => ?_, none, 0, rfl, by omega⟩
    obtain rfl := Option.some.inj hB
    exact ⟨Nat.le_refl _, fun _ => (adopt_new h2).1.symm⟩
  · obtain ⟨rfl, rfl, h3⟩ := hc
    obtain ⟨A, h1, h2, h5⟩ := hr
    obtain ⟨A', hA'⟩ := Option.isSome_iff_exists.1 h3
    rcases arLe_look k.ar hA' with g | ⟨g, _⟩
    · rw [h1] at g
      obtain rfl := Option.some.inj g
      refine ⟨A, hA', fun B hB => ?_, h5⟩
      obtain ⟨q1, q2⟩ := h2 B hB
      exact ⟨q1, fun hl => (q2 hl).trans (adopt_rho h1).1.symm⟩
    · rw [h1] at g; cases g
  · obtain ⟨rfl, rfl, h3⟩ := hc
    obtain ⟨cs, hcs⟩ := Option.isSome_iff_exists.1 h3
    exact ⟨⟨cs, hcs⟩, hr.2⟩
  · subst hc
    obtain ⟨b, off, vs, F, h1, h2, h3, h4, h5, h6⟩ := hr
    exact ⟨b, off, vs, F, h1, h2, h3, h4, fun hm => h5 (k.mut hm), fun x hx hm => h6 x hx (k.mut hm)⟩
  · obtain ⟨rfl, rfl, rfl, rfl, rfl, h3⟩ := hc
    obtain ⟨A, h1, h2, h5⟩ := hr
    obtain ⟨A', hA'⟩ := Option.isSome_iff_exists.1 h3
    rcases arLe_look k.ar hA' with g | ⟨g, _⟩
    · rw [h1] at g
      obtain rfl := Option.some.inj g
      refine ⟨A, hA', fun B hB => ?_, h5⟩
      obtain ⟨q1, q2⟩ := h2 B hB
      exact ⟨q1, fun hl => by rw [(adopt_rho h1).1]; exact q2 hl⟩
    · rw [h1] at g; cases g
  · exact hc.elim
theorem Lift.relL (k : Lift σ' σ) (h : SimE N w0 e σ a w) : ∀ {cs' cs : List CV} {vs : List Value}, relL e σ w cs vs → clesL σ' σ cs' cs → relL (adopt e σ) σ' w cs' vs
  | [], [], _, hr, _ => hr
  | [], _ :: _, _, _, hc => by simp [clesL] at hc
  | _ :: _, [], _, _, hc => by simp [clesL] at hc
  | c' :: cs', c :: cs, _, hr, hc => by
    simp only [Am.relL] at hr ⊢
    obtain ⟨v, vs', h0, h1, h2⟩ := hr
    simp only [clesL] at hc
    exact ⟨v, vs', h0, k.rel h h1 hc.1, k.relL h h2 hc.2⟩
theorem Lift.pts (k : Lift σ' σ) (h : SimE N w0 e σ a w) : ∀ {ps' ps : List (Bool × List CV)} {vs : List Value}, ptsRel e σ w ps vs → psle σ' σ ps' ps → ptsRel (adopt e σ) σ' w ps' vs
  | [], [], _, hr, _ => hr
  | [], _ :: _, _, _, hc => by simp [psle] at hc
  | _ :: _, [], _, _, hc => by simp [psle] at hc
  | (b', cs') :: ps', (b, cs) :: ps, _, hr, hc => by
    simp only [ptsRel] at hr ⊢
    obtain ⟨v, vs', h0, h1, h2⟩ := hr
    simp only [psle] at hc
    obtain ⟨hb, hc1, hc2⟩ := hc
    subst hb
    refine ⟨v, vs', h0, ?_, k.pts h h2 hc2⟩
    cases b'
    · obtain ⟨c, rfl, h1⟩ := h1
      match cs', hc1 with
      | [c'], hc1 => simp only [clesL] at hc1; exact ⟨c', rfl, k.rel h h1 hc1.1⟩
      | [], hc1 => simp [clesL] at hc1
      | _ :: _ :: _, hc1 => simp [clesL] at hc1
    · obtain ⟨us, rfl, h1⟩ := h1
      exact ⟨us, rfl, k.relL h h1 hc1⟩
theorem Lift.relV (k : Lift σ' σ) (h : SimE N w0 e σ a w) {x' x : V} {v : Value} (hr : x.rel e σ w v) (hc : vle σ' σ x' x) : x'.rel (adopt e σ) σ' w v := by
  unfold vle at hc
  split at hc
  · exact hr
  · exact k.rel h hr hc
  · obtain ⟨vs, h0, h1⟩ := hr; exact ⟨vs, h0, k.relL h h1 hc⟩
  · obtain ⟨vs, h0, h1⟩ := hr; exact ⟨vs, h0, k.pts h h1 hc⟩
  · exact hc.elim

theorem Lift.into (k : Lift σ' σ) : Into σ' σ := by
  intro N w0 a w ⟨e, h⟩
  have hlive : ∀ κ, live σ' κ → (live σ κ ∧ blk (adopt e σ) κ = blk e κ) ∨ blk (adopt e σ) κ = [] := by
    intro κ hl
    cases κ with
    | b j => obtain ⟨cs, h1⟩ := hl; obtain ⟨u, hu, _⟩ := bxLe_look k.bx h1; exact .inl ⟨⟨u, hu⟩, rfl⟩
    | a τ =>
      obtain ⟨A, h1⟩ := hl
      rcases arLe_look k.ar h1 with g | ⟨g, _⟩
      · exact .inl ⟨⟨A, g⟩, (adopt_rho g).2⟩
      · exact .inr (adopt_new g).2
  refine ⟨adopt e σ, ⟨by rw [h.nt, k.nt], h.df, fun t v ht => ?_, fun j cs hj => ?_, fun τ A hA => ?_, fun κ κ' hl hl' hne => ?_, h.fr, ⟨h.bad.1, fun b hb => ⟨(h.bad.2 b hb).1, fun κ hl hm => ?_⟩⟩, fun κ hl hd b hm => ?_⟩⟩
  · obtain ⟨u, hu, hv⟩ := tmLe_look k.tm ht
    exact k.relV h (h.tm t u hu) hv
  · obtain ⟨u, hu, hv⟩ := bxLe_look k.bx hj
    obtain ⟨h1, cur, ty, h2, h3⟩ := h.bx j u hu
    exact ⟨h1, cur, ty, h2, k.relL h h3 hv⟩
  · rcases arLe_look k.ar hA with g | ⟨g, hA'⟩
    · rw [(adopt_rho g).1, (adopt_rho g).2]
      obtain ⟨p, c, hv, hc, h4 | ⟨b, t, cur, Fs, W, q1, q2, q3, q4, q5, q6, q7, q8⟩⟩ := h.ar τ A g
      · exact ⟨p, c, hv, hc, .inl h4⟩
      · refine ⟨p, c, hv, hc, .inr ⟨b, t, cur, Fs, W, q1, q2, q3, q4, q5, q6, q7, ?_⟩⟩
        rcases q8 with q8 | ⟨g1, g2, g3, g4⟩
        · exact .inl q8
        · exact .inr ⟨g1, g2, g3, fun x hx hm => g4 x hx (k.mut hm)⟩
    · obtain rfl := Option.some.inj hA'
      rw [(adopt_new g).1, (adopt_new g).2]
      exact ⟨none, 0, rfl, by omega, .inl ⟨rfl, rfl, rfl, rfl⟩⟩
  · rcases hlive κ hl with ⟨g1, g2⟩ | g2
    · rcases hlive κ' hl' with ⟨g3, g4⟩ | g4
      · rw [g2, g4]; exact h.sep κ κ' g1 g3 hne
      · rw [g4]; simp
    · rw [g2]; simp
  · rcases hlive κ hl with ⟨g1, g2⟩ | g2
    · rw [g2] at hm; exact (h.bad.2 b hb).2 κ g1 hm
    · rw [g2] at hm; simp at hm
  · rcases hlive κ hl with ⟨g1, g2⟩ | g2
    · rw [g2] at hm; exact h.dk κ g1 hd b hm
    · rw [g2] at hm; simp at hm

variable {Q : Exit → St → Prop} {x y c : Code}

theorem AW_into (k : Into σ' σ) (h : AW P N w0 c Q σ') : AW P N w0 c Q σ := fun a w hs => h a w (k _ _ _ _ hs)
/-- Two pieces, what holds between them told by a state of our own. -/
theorem AW_mid {ι : Type} (S : ι → St) (I : ι → Prop) (hx : ∀ K : St → Prop, (∀ i σ', I i → Into (S i) σ' → K σ') → AW P N w0 x (thenK K Q) σ) (hy : ∀ i, I i → AW P N w0 y Q (S i)) : AW P N w0 (.seq x y) Q σ :=
  AW_seq fun K hK => hx K fun i σ' hi hk => hK σ' (AW_into hk (hy i hi))
/-- A loop: I n i: with n rounds at hand. -/
theorem AW_go {ι : Type} (S : ι → St) (I : Nat → ι → Prop) (n0 : Nat) (i0 : ι) (h0 : I n0 i0) (hk : Into (S i0) σ) (hz : ∀ i, ¬ I 0 i)
    (body : ∀ (KL : St → Prop) (n : Nat) (i : ι), (∀ i' σ', I n i' → Into (S i') σ' → KL σ') → I (n + 1) i → AW P N w0 c (thenK KL Q) (S i)) : AW P N w0 (.loop c) Q σ := by
  have key : ∀ n i a w, I n i → Sim N w0 (S i) a w → Code.rounds P c (fun e a w => ∃ σ', Q e σ' ∧ Sim N w0 σ' a w) n a w := by
    intro n
    induction n with
    | zero => intro i a w hI; exact (hz i hI).elim
    | succ n ih =>
      intro i a w hI hsim
      rw [rounds_succ]
      refine Code.wp_mono (fun e a' w' hq => ?_) (body (fun σ' => ∃ i', I n i' ∧ Into (S i') σ') n i (fun i' σ' h1 h2 => ⟨i', h1, h2⟩) hI a w hsim)
      obtain ⟨σ', h1, h2⟩ := hq
      cases e with
      | normal =>
        obtain ⟨i', hI', hk'⟩ := h1
        exact ih i' a' w' hI' (hk' _ _ _ _ h2)
      | _ => exact ⟨σ', h1, h2⟩
  intro a w hs
  exact wp_loop_rounds n0 (key _ i0 a w h0 (hk _ _ _ _ hs))

/-- A call that is to be told by a contract. -/
def CallBy (P : Program) (f : Nat) (ds : List DV) (pu : Bool) (X : Bool → Bool → List DV → Prop) : Prop := ∃ fr dp rs, Ctr P f ds fr rs ∧ (fr = false → pu = true) ∧ X fr dp rs
@[congr] theorem CallBy_congr {f : Nat} {ds ds' : List DV} {pu pu' : Bool} {X : Bool → Bool → List DV → Prop} (h : ds = ds') (hp : pu = pu') : CallBy P f ds pu X = CallBy P f ds' pu' X := by rw [h, hp]
theorem by_ctr {f : Nat} {ds ds' : List DV} {fr pu : Bool} {rs : List DV} {X : Bool → Bool → List DV → Prop} (dp : Bool) (h : Ctr P f ds fr rs) (hd : ds' = ds) (hp : fr = false → pu = true) (hx : X fr dp rs) : CallBy P f ds' pu X :=
  ⟨fr, dp, rs, hd ▸ h, hp, hx⟩
theorem aCall_some {ops : Array Oper} {o : Oper} {rest : List Oper} {K : St → Prop} {f : Nat} {ds : List DV} {pu : Bool} {p : Prop} : aCall P ops o rest σ K f (some (ds, pu, p)) = (p ∧ CallBy P f ds pu fun fr dp rs => aNext P ops rest σ K (callEff σ o.dst fr dp rs)) := rfl
theorem aGuard_some {ops : Array Oper} {o : Oper} {rest : List Oper} {K : St → Prop} {want b : Bool} : aGuard P ops o rest σ K want (some b) = if b = want then aRun P ops o rest σ K (callOf o.op) else awpOps P ops rest (σ.kill o.dst) K := by
  unfold aGuard
  cases b <;> cases want <;> simp
theorem aGuard_none {ops : Array Oper} {o : Oper} {rest : List Oper} {K : St → Prop} {want : Bool} : aGuard P ops o rest σ K want none = False := rfl
theorem aCall_none {ops : Array Oper} {o : Oper} {rest : List Oper} {K : St → Prop} {f : Nat} : aCall P ops o rest σ K f none = False := rfl
theorem cCall_some {ops : Array Oper} {σ0 : St} {K : St → Prop} {B As : List (List Nat)} {o : Oper} {rest : List Oper} {i : Nat} {es : List (Nat × Eff)} {f : Nat} {ds : List DV} {pu : Bool} {p : Prop} :
    cCall P ops σ0 K B As o rest i es σ f (some (ds, pu, p)) = (p ∧ CallBy P f ds pu fun fr dp rs => cNext P ops σ0 K B As rest i es (callEff σ o.dst fr dp rs)) := rfl
theorem cCall_none {ops : Array Oper} {σ0 : St} {K : St → Prop} {B As : List (List Nat)} {o : Oper} {rest : List Oper} {i : Nat} {es : List (Nat × Eff)} {f : Nat} : cCall P ops σ0 K B As o rest i es σ f none = False := rfl
end

section
variable {α β γ : Type}
/-- The element at a place. -/
def at? (xs : List α) (i : Int) : Option α := if 0 ≤ i then xs[i.toNat]? else none
theorem at_spec {xs : List α} {i : Int} {x : α} (h : at? xs i = some x) : 0 ≤ i ∧ xs[i.toNat]? = some x ∧ i.toNat < xs.length ∧ ∀ h, xs[i.toNat]'h = x := by
  unfold at? at h
  split at h
  · exact ⟨by assumption, h, (List.getElem?_eq_some_iff.1 h).1, fun _ => (List.getElem?_eq_some_iff.1 h).2⟩
  · cases h
/-- The two rows behind one another, if they have room. -/
def app? (b : Nat) (xs ys : List α) : Option (List α) := if xs.length + ys.length ≤ 140737488355328 ∧ (xs.length + ys.length) * b ≤ 140737488355328 then some (xs ++ ys) else none
theorem app_spec {b : Nat} {xs ys zs : List α} (h : app? b xs ys = some zs) : zs = xs ++ ys ∧ xs.length + ys.length ≤ 140737488355328 ∧ (xs.length + ys.length) * b ≤ 140737488355328 := by
  unfold app? at h
  split at h
  · exact ⟨(Option.some.inj h).symm, by assumption⟩
  · cases h
/-- A length that a new row may have. -/
def mk? (b : Nat) (n : Int) : Option Nat := if 0 ≤ n ∧ n ≤ 9223372036854775807 ∧ (b : Int) * n ≤ 281474976710656 then some n.toNat else none
theorem mk_spec {b : Nat} {n : Int} {m : Nat} (h : mk? b n = some m) : m = n.toNat ∧ 0 ≤ n ∧ n ≤ 9223372036854775807 ∧ (b : Int) * n ≤ 281474976710656 := by
  unfold mk? at h
  split at h
  · exact ⟨(Option.some.inj h).symm, by assumption⟩
  · cases h
def nz? (b : Int) : Option Unit := if b ≠ 0 then some () else none
theorem nz_spec {b : Int} {u : Unit} (h : nz? b = some u) : b ≠ 0 := by
  unfold nz? at h
  split at h
  · assumption
  · cases h
def sub? (xs : List α) (l h : Int) : Option (List α) := if 0 ≤ l ∧ l ≤ h ∧ h ≤ xs.length then some ((xs.take h.toNat).drop l.toNat) else none
theorem sub_spec {xs ys : List α} {l r : Int} (h : sub? xs l r = some ys) : ys = (xs.take r.toNat).drop l.toNat ∧ 0 ≤ l ∧ l ≤ r ∧ r ≤ xs.length := by
  unfold sub? at h
  split at h
  · exact ⟨(Option.some.inj h).symm, by assumption⟩
  · cases h
def ssub? (s : ByteArray) (l h : Int) : Option ByteArray := if 0 ≤ l ∧ l ≤ h ∧ h ≤ s.size then some (s.extract l.toNat h.toNat) else none
theorem ssub_spec {s t : ByteArray} {l r : Int} (h : ssub? s l r = some t) : t = s.extract l.toNat r.toNat ∧ 0 ≤ l ∧ l ≤ r ∧ r ≤ s.size := by
  unfold ssub? at h
  split at h
  · exact ⟨(Option.some.inj h).symm, by assumption⟩
  · cases h
def cat? (s t : ByteArray) : Option ByteArray := if s.size + t.size ≤ 9223372036854775807 then some (s ++ t) else none
theorem cat_spec {s t u : ByteArray} (h : cat? s t = some u) : u = s ++ t ∧ s.size + t.size ≤ 9223372036854775807 := by
  unfold cat? at h
  split at h
  · exact ⟨(Option.some.inj h).symm, by assumption⟩
  · cases h
theorem bind_some {o : Option α} {f : α → Option β} {r : β} (h : o.bind f = some r) : ∃ x, o = some x ∧ f x = some r := Option.bind_eq_some_iff.1 h
theorem ne_true {b : Bool} (h : b = false) : ¬ b = true := by simp [h]

def iC (n : Int) : List L := [.int .i64 n]
def sC (s : ByteArray) : List L := [.str s]
def bC (b : Bool) : List L := [.bool b]
/-- A slice as an element. -/
def lC (c : α → List L) (xs : List α) : List L := [.sl (xs.map c)]
end
end Go.Proofs.Ytopjlbifglacpaa.Am
