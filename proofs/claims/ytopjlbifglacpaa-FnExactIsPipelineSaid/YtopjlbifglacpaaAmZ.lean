/- A region one of whose calls writes over its argument's memory. -/
import Derived.Test.YtopjlbifglacpaaAmY
set_option linter.unusedSimpArgs false
set_option linter.unusedVariables false
namespace Go.Proofs.Ytopjlbifglacpaa.Am
open Go.RowKit

def chkW (σ : St) (τs : List Nat) (m : List (Nat × List (List L))) : Prop :=
  (∀ τ ∈ τs, ∃ A es, σ.ar.lookup τ = some (some A) ∧ m.lookup τ = some es ∧ A.es.length = es.length) ∧ ∀ p ∈ m, p.1 ∈ τs
def wroteSt (σ : St) (d : Nat) (k : Int) (m : List (Nat × List (List L))) : St :=
  ⟨(σ.wrote m).nt, (d, .one (.l (.int .i64 k))) :: (σ.wrote m).tm, (σ.wrote m).bx, (σ.wrote m).ar⟩

def wOp (P : Program) (ops : Array Oper) (post : List Oper) (σ : St) (K : St → Prop) (d f : Nat) (x : V) (k : Int) : Option (DV × List Nat × Prop) → Prop
  | some (dv, τs, p) => p ∧ τs.Nodup ∧ d < σ.nt ∧ ∃ d' k', MCtr P f dv k d' k' ∧ chkW σ τs (newV x d') ∧ awpOps P ops post (wroteSt σ d k' (newV x d')) K
  | none => False
def wArgs (P : Program) (ops : Array Oper) (post : List Oper) (σ : St) (K : St → Prop) (d f : Nat) : Option (List V) → Prop
  | some [x, .one (.l (.int .i64 k))] => wOp P ops post σ K d f x k (wrV σ x)
  | _ => False
def wCall (P : Program) (ops : Array Oper) (σ : St) (K : St → Prop) : List Oper → Prop
  | ⟨some d, .call { callee := .value (.func f), args := xs, argTypes := _ }, _, _, _, none⟩ :: post => wArgs P ops post σ K d f (opds σ xs.toList)
  | _ => False

section
variable {e : Env} {σ : St} {w : World} {N : Nat → Prop} {w0 : Bs} {a : Act} {P : Program} {ops : Array Oper}

theorem awpOps_then {Q : Exit → Act → World → Prop} {tail : List Oper} : ∀ {l : List Oper} {σ : St} {K : St → Prop}, awpOps P ops l σ K → ∀ {a : Act} {w : World}, Sim N w0 σ a w → (∀ σ' a' w', K σ' → Sim N w0 σ' a' w' → wpList P ops Q tail a' w') → wpList P ops Q (l ++ tail) a w
  | [], σ, K, h, a, w, hs, hQ => hQ _ _ _ (by simpa [awpOps_nil] using h) hs
  | ⟨d, op, ty, pos, af, gd⟩ :: rest, σ, K, h, a, w, ⟨e, hs⟩, hQ => by
    have run : aRun P ops ⟨d, op, ty, pos, af, gd⟩ rest σ K (callOf op) → ∀ K' : Act → World → Prop, (∀ a w, wpList P ops Q (rest ++ tail) a w → K' a w) → (Oper.mk d op ty pos af gd).wp P a w K' Q := by
      intro hr K' hK'
      have fin : ∀ g : Eff, Ev P σ ⟨d, op, ty, pos, af, gd⟩ g → awpOps P ops rest (σ.app g) K → (Oper.mk d op ty pos af gd).wp P a w K' Q :=
        fun g hev hrest => hev.sound hs fun a' w' hs' => hK' _ _ (awpOps_then hrest hs' hQ)
      unfold aRun at hr
      split at hr
      · rename_i f xs hc
        unfold aCall at hr
        split at hr
        · rename_i ds pu p hd
          obtain ⟨hp, fr, dp, rs, h5, h6, h7⟩ := hr
          unfold aNext at h7
          split at h7
          · rename_i g hg
            obtain ⟨vs, hvs, hd⟩ := Option.bind_eq_some_iff.1 hd
            exact fin g (.call f xs vs ds pu p fr dp rs g hc hvs hd hp h5 h6 hg) h7.2
          · exact h7.elim
        · exact hr.elim
      · unfold aNext at hr
        split at hr
        · rename_i g hg
          exact fin g (.step g hg hr.1) hr.2
        · exact hr.elim
    refine wpList_step fun K' hK' => ?_
    cases gd with
    | none =>
      rw [awpOps_plain] at h
      simp only [Region.wanted, if_true]
      exact run h K' hK'
    | some g =>
      obtain ⟨j, want⟩ := g
      rw [awpOps_guard] at h
      unfold aGuard at h
      split at h
      · rename_i b hy
        have hy' := yld_sound hs hy
        by_cases hb : b = want
        · have : Region.wanted (Oper.mk d op ty pos af (some (j, want))) (yielded ops a.tmps) = true := by
            show (yielded ops a.tmps j == some want) = true
            rw [hy']; simp [hb]
          rw [if_pos this]
          exact run (h.1 hb) K' hK'
        · have : Region.wanted (Oper.mk d op ty pos af (some (j, want))) (yielded ops a.tmps) = false := by
            show (yielded ops a.tmps j == some want) = false
            rw [hy']; simp [hb]
          rw [if_neg (by simp [this])]
          exact hK' _ _ (awpOps_then (h.2 (by cases b <;> cases want <;> simp_all)) ⟨e, hs.kill d⟩ hQ)
      · exact h.elim

theorem dvOw.rp {d : DV} {v : Value} {F : List Nat} (h : dvOw N w d v F) : dvRel w d v F := by
  cases d with
  | one x => exact Ow.rp h
  | agg xs => obtain ⟨vs, h0, h1⟩ := h; exact ⟨vs, h0, h1.rp⟩
theorem dvOw.blocks {d : DV} {v : Value} {F : List Nat} (h : dvOw N w d v F) : ∀ b ∈ F, PlainB w b := by
  cases d with
  | one x => exact fun b hb => (Ow.blocks h b hb).2
  | agg xs => obtain ⟨vs, h0, h1⟩ := h; exact fun b hb => (h1.blocks b hb).2

theorem opds_cons {o : Operand} {r : List Operand} {vs : List V} (h : opds σ (o :: r) = some vs) : ∃ v vs', opd σ o = some v ∧ opds σ r = some vs' ∧ vs = v :: vs' := by
  simp only [opds] at h
  split at h
  · rename_i v vs' h1 h2
    exact ⟨v, vs', h1, h2, (Option.some.inj h).symm⟩
  · cases h
theorem opds_two {l : List Operand} {x y : V} (h : opds σ l = some [x, y]) : ∃ o1 o2, l = [o1, o2] ∧ opd σ o1 = some x ∧ opd σ o2 = some y := by
  cases l with
  | nil => simp [opds] at h
  | cons o1 r =>
    obtain ⟨v, vs', h1, h2, h3⟩ := opds_cons h
    obtain ⟨rfl, rfl⟩ := List.cons.inj h3
    cases r with
    | nil => simp [opds] at h2
    | cons o2 r =>
      obtain ⟨v, vs', h4, h5, h6⟩ := opds_cons h2
      obtain ⟨rfl, rfl⟩ := List.cons.inj h6
      cases r with
      | nil => exact ⟨o1, o2, rfl, h1, h4⟩
      | cons o3 r =>
        obtain ⟨v, vs', _, _, h9⟩ := opds_cons h5
        cases h9

theorem wCall_sound (hbad : ∀ b, w0.bad b → ¬ N b) {Q : Exit → Act → World → Prop} {l : List Oper} {K : St → Prop} (hw : wCall P ops σ K l) (hs : Sim N w0 σ a w) (hQ : ∀ σ' a' w', K σ' → Sim N w0 σ' a' w' → Q .normal a' w') : wpList P ops Q l a w := by
  obtain ⟨e, h⟩ := hs
  unfold wCall at hw
  split at hw
  · rename_i d f xs ts ty pos af post
    unfold wArgs at hw
    split at hw
    · rename_i x k hops
      unfold wOp at hw
      split at hw
      · rename_i dv τs p hwr
        obtain ⟨hp, hnd, hd, d', k', hM, ⟨c1, c2⟩, hrest⟩ := hw
        obtain ⟨o1, o2, hxs, ho1⟩ := opds_two hops
        have r1 := opd_rel h ho1.1
        have r2 := opd_rel h ho1.2
        obtain ⟨F2, r2, _⟩ := r2
        simp only [Rp] at r2
        obtain ⟨hk, _, hkin⟩ := r2
        -- the argument
        have harg : dvOw N w dv (a.eval o1) (τs.flatMap e.φ) ∧ (∀ τ ∈ τs, (∃ A, σ.ar.lookup τ = some (some A) ∧ A.fr = true) ∧ 1000000 ≤ τ) := by
          cases x with
          | one c =>
            simp only [wrV] at hwr
            obtain ⟨⟨y, τ', p'⟩, h1, h2⟩ := Option.map_eq_some_iff.1 hwr
            simp only [Prod.mk.injEq] at h2
            obtain ⟨rfl, rfl, rfl⟩ := h2
            obtain ⟨g1, g2, _⟩ := wrC_rel h r1 h1 hp
            exact ⟨g1, g2⟩
          | agg cs =>
            simp only [wrV] at hwr
            obtain ⟨⟨y, τ', p'⟩, h1, h2⟩ := Option.map_eq_some_iff.1 hwr
            simp only [Prod.mk.injEq] at h2
            obtain ⟨rfl, rfl, rfl⟩ := h2
            obtain ⟨vs, hv, r1⟩ := r1
            obtain ⟨g1, g2, _⟩ := wrL_rel h r1 h1 hp
            exact ⟨⟨vs, hv, g1⟩, g2⟩
          | tup ps => simp [wrV] at hwr
          | dead => simp [wrV] at hwr
        obtain ⟨hok, hcall⟩ := hM
        have hrun : (execOp a.eval ⟨some d, .call { callee := .value (.func f), args := xs, argTypes := ts }, ty, pos, af, none⟩).run P w = .ok (.enter f #[a.eval o1, a.eval o2]) w := by
          unfold callOk at hok
          split at hok
          · rename_i fn hfn
            simp only [Bool.and_eq_true, bne_iff_ne, ne_eq] at hok
            obtain ⟨c, hb⟩ : ∃ c, fn.body = some c := Option.isSome_iff_exists.1 hok.2
            have hargs : xs.map a.eval = #[a.eval o1, a.eval o2] := by rw [← Array.toList_inj]; simp [hxs]
            rw [← hargs]
            simp [execOp, resolve, Act.eval, Deferred.ofValue, invoke, callFunc, hfn, hok.1, hb]
          · cases hok
        refine wpList_step fun K' hK' => ?_
        simp only [Region.wanted, if_true]
        unfold Oper.wp
        rw [hrun, Oper.upon_enter]
        rw [hk]
        refine (hcall w _ _ harg.1.rp (given_nodup h (fun τ hτ => (harg.2 τ hτ).1) hnd) harg.1.blocks).mono fun en w' hR => ?_
        obtain ⟨rfl, hk', hrel, hch⟩ := hR
        simp only
        have hcell : ∀ (τ : Nat) (es : List (List L)), (τ, es) ∈ newV x d' → ∃ G, Rp w' (.sl es) (e.ρ τ) G ∧ ∀ b ∈ G, b ∈ τs.flatMap e.φ := by
          intro τ es hm
          cases x with
          | one c =>
            cases d' with
            | one y =>
              simp only [newV] at hm
              obtain ⟨i, n, h1, h2⟩ := newL_mem hm
              cases i with
              | zero =>
                simp at h1 h2
                subst h1 h2
                simp only [wrV] at hwr
                obtain ⟨⟨y, τ', p'⟩, h1, h2⟩ := Option.map_eq_some_iff.1 hwr
                simp only [Prod.mk.injEq] at h2
                obtain ⟨rfl, rfl, rfl⟩ := h2
                have r1' : CV.rel e σ w (.own τ n) (a.eval o1) := r1
                obtain ⟨_, _, g3⟩ := wrC_rel h r1' h1 hp
                rw [← g3 τ n rfl]
                exact ⟨_, hrel, fun b hb => hb⟩
              | succ i => simp at h1
            | agg ys => simp [newV] at hm
          | agg cs =>
            cases d' with
            | one y => simp [newV] at hm
            | agg ys =>
              simp only [newV] at hm
              obtain ⟨i, n, h1, h2⟩ := newL_mem hm
              simp only [wrV] at hwr
              obtain ⟨⟨y, τ', p'⟩, q1, q2⟩ := Option.map_eq_some_iff.1 hwr
              simp only [Prod.mk.injEq] at q2
              obtain ⟨rfl, rfl, rfl⟩ := q2
              obtain ⟨vs, hv, r1⟩ := r1
              obtain ⟨_, _, g3⟩ := wrL_rel h r1 q1 hp
              obtain ⟨vs', hv', hrel⟩ := hrel
              rw [hv] at hv'
              injection hv' with hv'
              have hvv : vs = vs' := by simpa using congrArg Array.toList hv'
              subst hvv
              obtain ⟨v, G, j1, j2, j3⟩ := hrel.at h2
              rw [← g3 i τ n v h1 j1]
              exact ⟨G, j2, j3⟩
          | tup ps => cases d' <;> simp [newV] at hm
          | dead => cases d' <;> simp [newV] at hm
        have h' := h.wrote hbad (m := newV x d') harg.2 hch (fun τ es he => hcell τ es (lookup_mem he)) (fun τ hτ => by obtain ⟨A, es, _, g2, _⟩ := c1 τ hτ; rw [g2]; rfl) (fun τ es he => by
          have hτ := c2 _ (lookup_mem he)
          refine ⟨hτ, fun A hA => ?_⟩
          obtain ⟨B, es', g1, g2, g3⟩ := c1 τ hτ
          rw [hA] at g1
          obtain rfl := Option.some.inj (Option.some.inj g1)
          rw [he] at g2
          obtain rfl := Option.some.inj g2
          exact g3)
        have h2 := h'.put (d := d) (x := .one (.l (.int .i64 k'))) (v := .int .i64 k') hd ⟨[], by simp [Rp, hk'], by simp⟩
        exact hK' _ _ (awpOps_sound hrest ⟨_, h2⟩ hQ)
      · exact hw.elim
    · exact hw.elim
  · exact hw.elim

/-- A region whose operation number n is a call that writes. -/
theorem AW_write {Q : Exit → St → Prop} (hbad : ∀ b, w0.bad b → ¬ N b) {id : Nat} {l : List Oper} (n : Nat) (h : awpOps P l.toArray (l.take n) σ (fun σ1 => wCall P l.toArray σ1 (fun σ' => Q .normal σ') (l.drop n))) : AW P N w0 (.region id l.toArray false) Q σ := fun a w hs => by
  refine wp_region_lit ?_
  have := awpOps_then (Q := fun e a w => ∃ σ', Q e σ' ∧ Sim N w0 σ' a w) (tail := l.drop n) h hs fun σ' a' w' h1 h2 => wCall_sound hbad h1 h2 fun σ' a' w' h1 h2 => ⟨σ', h1, h2⟩
  rwa [List.take_append_drop] at this
/-- A loop, its end told by a word of its own (KL). -/
theorem AW_turns {Q : Exit → St → Prop} {c : Code} {ι : Type} (S : ι → St) (I : ι → Prop) (μ : ι → Nat) (i0 : ι) (h0 : I i0) (hk : Keeps (S i0) σ) (body : ∀ (KL : St → Prop) (i : ι), (∀ (i' : ι) σ', I i' → μ i' < μ i → Keeps (S i') σ' → KL σ') → I i → AW P N w0 c (thenK KL Q) (S i)) : AW P N w0 (.loop c) Q σ :=
  AW_loop S I μ i0 h0 hk fun i hi => body _ i (fun i' σ' h1 h2 h3 => ⟨i', ⟨h1, h2⟩, h3⟩) hi
end

end Go.Proofs.Ytopjlbifglacpaa.Am
