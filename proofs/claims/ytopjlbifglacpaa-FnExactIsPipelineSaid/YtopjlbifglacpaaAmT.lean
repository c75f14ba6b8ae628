/- The way into a function and out of it. -/
import Derived.Test.YtopjlbifglacpaaAmS
set_option linter.unusedSimpArgs false
set_option linter.unusedVariables false
namespace Go.Proofs.Ytopjlbifglacpaa.Am
open Go.RowKit

def inV : DV → V
  | .one x => .one (.l x)
  | .agg xs => .agg (xs.map .l)
def inTm : Nat → List DV → List (Nat × V)
  | _, [] => []
  | k, d :: ds => (k, inV d) :: inTm (k + 1) ds

def resV (P : Program) (σ : St) : ResultVar → Option V
  | .tmp t => σ.tm.lookup t
  | .cell t ty => match σ.tm.lookup t, ti P ty with
    | some (.one (.box k off)), some i => match σ.bx.lookup k with
      | some cs => pick1 i cs off
      | none => none
    | _, _ => none
def resVs (P : Program) (σ : St) : List ResultVar → Option (List V)
  | [] => some []
  | r :: rs => match resV P σ r, resVs P σ rs with
    | some v, some vs => some (v :: vs)
    | _, _ => none

def absV (σ : St) : V → Option (DV × Bool × List Nat × Prop)
  | .one c => (absC σ c).map fun r => (.one r.1, r.2)
  | .agg cs => (absL σ cs).map fun r => (.agg r.1, r.2)
  | _ => none
def absVs (σ : St) : List V → Option (List DV × Bool × List Nat × Prop)
  | [] => some ([], true, [], True)
  | v :: vs => match absV σ v, absVs σ vs with
    | some (x, f, τ, p), some (xs, g, τs, q) => some (x :: xs, f && g, τ ++ τs, p ∧ q)
    | _, _ => none

def outN (rs : List DV) : Option (List DV × Bool × List Nat × Prop) → Prop
  | some (ds, f, τs, p) => p ∧ f = true ∧ τs.Nodup ∧ ds = rs
  | none => False
def outB (rs : List DV) : Option (List DV × Bool × Prop) → Prop
  | some (ds, pu, p) => p ∧ pu = true ∧ ds = rs
  | none => False
/-- The results, as the contract says them. -/
def outOk (P : Program) (rv : Array ResultVar) (fr : Bool) (rs : List DV) (σ : St) : Prop :=
  if fr then outN rs ((resVs P σ rv.toList).bind (absVs σ)) else outB rs ((resVs P σ rv.toList).bind (datVs σ))

def endQ (P : Program) (rv : Array ResultVar) (fr : Bool) (rs : List DV) : Exit → St → Prop
  | .normal, σ => outOk P rv fr rs σ
  | .ret, σ => outOk P rv fr rs σ
  | _, _ => False

section
variable {e : Env} {σ : St} {w : World} {N : Nat → Prop} {w0 : Bs} {a : Act} {P : Program}

theorem absV_rel (h : SimE N w0 e σ a w) {x : V} {v : Value} (hr : x.rel e σ w v) {d : DV} {f : Bool} {τs : List Nat} {p : Prop} (ha : absV σ x = some (d, f, τs, p)) (hp : p) (hf : f = true) : dvOw N w d v (τs.flatMap e.φ) ∧ ∀ τ ∈ τs, ∃ A, σ.ar.lookup τ = some (some A) ∧ A.fr = true := by
  cases x with
  | one c =>
    simp only [absV] at ha
    obtain ⟨⟨y, f', τ', p'⟩, h1, h2⟩ := Option.map_eq_some_iff.1 ha
    simp only [Prod.mk.injEq] at h2
    obtain ⟨rfl, rfl, rfl, rfl⟩ := h2
    obtain ⟨_, g2, g3⟩ := absC_rel h hr h1 hp
    exact ⟨g2 hf, fun τ hτ => by obtain ⟨A, hA, hA2, _⟩ := g3 τ hτ; exact ⟨A, hA, hA2 hf⟩⟩
  | agg cs =>
    simp only [absV] at ha
    obtain ⟨⟨y, f', τ', p'⟩, h1, h2⟩ := Option.map_eq_some_iff.1 ha
    simp only [Prod.mk.injEq] at h2
    obtain ⟨rfl, rfl, rfl, rfl⟩ := h2
    obtain ⟨vs, rfl, hr⟩ := hr
    obtain ⟨_, g2, g3, _⟩ := absL_rel h hr h1 hp
    exact ⟨⟨vs, rfl, g2 hf⟩, fun τ hτ => by obtain ⟨A, hA, hA2, _⟩ := g3 τ hτ; exact ⟨A, hA, hA2 hf⟩⟩
  | tup ps => simp [absV] at ha
  | dead => simp [absV] at ha

def relVs (e : Env) (σ : St) (w : World) : List V → List Value → Prop
  | [], us => us = []
  | v :: vs, us => ∃ u us', us = u :: us' ∧ v.rel e σ w u ∧ relVs e σ w vs us'

theorem absVs_rel (h : SimE N w0 e σ a w) : ∀ {vs : List V} {us : List Value}, relVs e σ w vs us → ∀ {ds : List DV} {f : Bool} {τs : List Nat} {p : Prop}, absVs σ vs = some (ds, f, τs, p) → p → f = true → dvsOw N w ds us (τs.flatMap e.φ) ∧ ∀ τ ∈ τs, ∃ A, σ.ar.lookup τ = some (some A) ∧ A.fr = true
  | [], us, hr, ds, f, τs, p, ha, hp, hf => by
    simp only [relVs] at hr
    subst hr
    simp only [absVs, Option.some.injEq, Prod.mk.injEq] at ha
    obtain ⟨rfl, rfl, rfl, rfl⟩ := ha
    simp [dvsOw]
  | v :: vs, us, hr, ds, f, τs, p, ha, hp, hf => by
    simp only [relVs] at hr
    obtain ⟨u, us', rfl, h1, h2⟩ := hr
    simp only [absVs] at ha
    split at ha
    · rename_i x f1 τ1 p1 xs2 f2 τ2 p2 e1 e2
      simp only [Option.some.injEq, Prod.mk.injEq] at ha
      obtain ⟨rfl, rfl, rfl, rfl⟩ := ha
      simp only [Bool.and_eq_true] at hf
      obtain ⟨k1, k2⟩ := absV_rel h h1 e1 hp.1 hf.1
      obtain ⟨g1, g2⟩ := absVs_rel h h2 e2 hp.2 hf.2
      refine ⟨?_, fun τ hτ => by rcases List.mem_append.1 hτ with hτ | hτ; exact k2 τ hτ; exact g2 τ hτ⟩
      simp only [dvsOw, List.flatMap_append]
      exact ⟨u, us', _, _, rfl, rfl, k1, g1⟩
    · cases ha
theorem datVs_relVs (h : SimE N w0 e σ a w) : ∀ {vs : List V} {us : List Value}, relVs e σ w vs us → ∀ {ds : List DV} {f : Bool} {p : Prop}, datVs σ vs = some (ds, f, p) → p → ∃ F, dvsRel w ds us F ∧ (f = true → ∀ b ∈ F, ¬ Mut e σ b)
  | [], us, hr, ds, f, p, hd, hp => by
    simp only [relVs] at hr
    subst hr
    simp only [datVs, Option.some.injEq, Prod.mk.injEq] at hd
    obtain ⟨rfl, rfl, rfl⟩ := hd
    exact ⟨[], by simp [dvsRel], by simp⟩
  | v :: vs, us, hr, ds, f, p, hd, hp => by
    simp only [relVs] at hr
    obtain ⟨u, us', rfl, h1, h2⟩ := hr
    simp only [datVs] at hd
    split at hd
    · rename_i x f1 p1 xs2 f2 p2 e1 e2
      simp only [Option.some.injEq, Prod.mk.injEq] at hd
      obtain ⟨rfl, rfl, rfl⟩ := hd
      obtain ⟨F1, k1, k2⟩ := datV_rel h h1 e1 hp.1
      obtain ⟨F2, g1, g2⟩ := datVs_relVs h h2 e2 hp.2
      refine ⟨F1 ++ F2, by simp only [dvsRel]; exact ⟨_, _, F1, F2, rfl, rfl, k1, g1⟩, fun hf b hb => ?_⟩
      simp only [Bool.and_eq_true] at hf
      rcases List.mem_append.1 hb with hb | hb
      · exact k2 hf.1 b hb
      · exact g2 hf.2 b hb
    · cases hd

def resF (tmps : Array Value) : ResultVar → Sem Value
  | .tmp t => pure (tmps.getD t undef)
  | .cell p t => do loadVar t (← asAddr (tmps.getD p undef))

theorem resVs_run (h : SimE N w0 e σ a w) : ∀ {rv : List ResultVar} {vs : List V}, resVs P σ rv = some vs → ∃ us, (rv.mapM (resF a.tmps)).run P w = .ok us w ∧ relVs e σ w vs us
  | [], vs, hv => by
    simp only [resVs, Option.some.injEq] at hv
    subst hv
    exact ⟨[], by simp, by simp [relVs]⟩
  | r :: rv, vs, hv => by
    simp only [resVs] at hv
    split at hv
    · rename_i v vs' h1 h2
      obtain rfl := Option.some.inj hv
      obtain ⟨us, g1, g2⟩ := resVs_run h h2
      rw [List.mapM_cons]
      cases r with
      | tmp t =>
        refine ⟨a.tmps.getD t undef :: us, ?_, by simp only [relVs]; exact ⟨_, _, rfl, h.tm t v h1, g2⟩⟩
        simp only [resF, Sem.run_bind, Sem.run_pure, Result.andThen_ok] at g1 ⊢
        rw [g1]
        rfl
      | cell t ty =>
        simp only [resV] at h1
        split at h1
        · rename_i k off i ht hi
          split at h1
          · rename_i cs hcs
            obtain ⟨u, k1, k2⟩ := load_box (P := P) h hcs hi h1
            obtain ⟨_, hp⟩ := h.tm t _ ht
            refine ⟨u :: us, ?_, by simp only [relVs]; exact ⟨_, _, rfl, k2, g2⟩⟩
            have ha : asAddr (a.tmps.getD t undef) = pure ⟨e.β k, off, none⟩ := by rw [hp]; rfl
            have hr : (resF a.tmps (.cell t ty)).run P w = .ok u w := by simp only [resF, Sem.run_bind, ha, Sem.run_pure, Result.andThen_ok, k1]
            rw [Sem.run_bind, hr, Result.andThen_ok, Sem.run_bind, g1]
            rfl
          · cases h1
        · cases h1
    · cases hv

theorem results_run {fn : Func} (h : SimE N w0 e σ a w) {vs : List V} (hv : resVs P σ fn.results.toList = some vs) : ∃ us, (results fn a.tmps).run P w = .ok (retV us) w ∧ relVs e σ w vs us := by
  obtain ⟨us, g1, g2⟩ := resVs_run (P := P) h hv
  refine ⟨us, ?_, g2⟩
  have hh : results fn a.tmps = (do let vs ← fn.results.mapM (resF a.tmps); pure (if h : vs.size = 1 then vs[0] else .tuple vs)) := by
    unfold results
    congr 1
  rw [hh, Array.mapM_eq_mapM_toList, Sem.run_bind, Sem.run_map, g1]
  simp only [Result.andThen_ok, Sem.run_pure]
  congr 1
  cases us with
  | nil => rfl
  | cons u us =>
    cases us with
    | nil => rfl
    | cons u' us => rfl

theorem inTm_lookup : ∀ {ds : List DV} {vs : List Value} {F : List Nat} {k t : Nat} {x : V} {e : Env} {σ : St}, dvsRel w ds vs F → (∀ b ∈ F, ¬ Mut e σ b) → (inTm k ds).lookup t = some x → ∃ j v, t = k + j ∧ vs[j]? = some v ∧ x.rel e σ w v
  | [], vs, F, k, t, x, e, σ, _, _, hl => by simp [inTm] at hl
  | d :: ds, vs, F, k, t, x, e, σ, h, hF, hl => by
    simp only [dvsRel] at h
    obtain ⟨v, vs', F1, F2, rfl, rfl, h1, h2⟩ := h
    simp only [inTm, lookup_cons] at hl
    by_cases ht : t = k
    · rw [if_pos ht] at hl
      obtain rfl := Option.some.inj hl
      refine ⟨0, v, by simp [ht], rfl, ?_⟩
      cases d with
      | one x => exact ⟨F1, h1, fun b hb => hF b (by simp [hb])⟩
      | agg xs => obtain ⟨us, rfl, h1⟩ := h1; exact ⟨us, rfl, relL_of_RpL h1 fun b hb => hF b (by simp [hb])⟩
    · rw [if_neg ht] at hl
      obtain ⟨j, u, g1, g2, g3⟩ := inTm_lookup h2 (fun b hb => hF b (by simp [hb])) hl
      exact ⟨j + 1, u, by omega, by simpa using g2, g3⟩

theorem dvsRel.len : ∀ {ds : List DV} {vs : List Value} {F : List Nat}, dvsRel w ds vs F → vs.length = ds.length
  | [], _, _, h => by simp only [dvsRel] at h; simp [h.1]
  | d :: ds, _, _, h => by
    simp only [dvsRel] at h
    obtain ⟨v, vs', F1, F2, rfl, rfl, h1, h2⟩ := h
    simp [dvsRel.len h2]

/-- A contract out of a walk. -/
theorem Ctr.of_walk {f : Nat} {fn : Func} {c : Code} {nt : Nat} {rv : Array ResultVar} (hok : callOk P f = true) (hf : P.funcs[f]? = some fn) (hb : fn.body = some c) (hnt : fn.ntmps = nt) (hrv : fn.results = rv) {ds : List DV} {fr : Bool} {rs : List DV} (hds : ds.length ≤ nt)
    (h : ∀ N w0, (∀ b, w0.bad b → ¬ N b) → AW P N w0 c (endQ P rv fr rs) ⟨nt, inTm 0 ds, [], []⟩) : Ctr P f ds fr rs := by
  subst hnt hrv
  refine ⟨hok, fun w vs FA hFA => ?_⟩
  refine calls_of_wp hf hb ?_
  have hlen := hFA.len
  let e0 : Env := ⟨fun _ => 0, fun _ => undef, fun _ => [], fun b => b < w.heap.size ∧ b ∉ FA⟩
  have hsim : SimE (w.heap.size ≤ ·) ⟨w, e0.bad⟩ e0 ⟨fn.ntmps, inTm 0 ds, [], []⟩ { tmps := vs.toArray ++ Array.replicate (fn.ntmps - vs.toArray.size) undef, defers := [] } w := by
    refine ⟨by simp; omega, rfl, fun t x ht => ?_, by simp, by simp, fun κ κ' hl => ?_, ⟨rfl, rfl, rfl, Nat.le_refl _, fun _ _ _ => rfl, fun b hb => hb⟩, ⟨fun _ h => h, fun b hb => ⟨hb.1, fun κ hl => ?_⟩⟩, fun κ _ hd => ?_⟩
    · obtain ⟨j, v, rfl, g2, g3⟩ := inTm_lookup (e := e0) (σ := ⟨fn.ntmps, inTm 0 ds, [], []⟩) hFA (fun b hb hm => by
        rcases hm with h0 | ⟨_, _, h1, _⟩ | ⟨_, _, h1, _⟩
        · exact h0.2 hb
        · simp at h1
        · simp at h1) ht
      have hj : j < vs.length := (List.getElem?_eq_some_iff.1 g2).1
      have : (vs.toArray ++ Array.replicate (fn.ntmps - vs.toArray.size) undef).getD (0 + j) undef = v := by
        rw [Array.getD_eq_getD_getElem?, Nat.zero_add, Array.getElem?_append_left (by simpa using hj)]
        simp [g2]
      rw [this]
      exact g3
    · cases κ with
      | b k => obtain ⟨_, h1⟩ := hl; simp at h1
      | a τ => obtain ⟨_, h1⟩ := hl; simp at h1
    · cases κ with
      | b k => obtain ⟨_, h1⟩ := hl; simp at h1
      | a τ => obtain ⟨_, h1⟩ := hl; simp at h1
    · cases κ with
      | b k => exact hd.elim
      | a τ => intro b hb; cases hb
  refine Code.wp_mono (fun ex a' w' hq => ?_) (h (w.heap.size ≤ ·) ⟨w, e0.bad⟩ (fun b hb hn => by have := hb.1; have : w.heap.size ≤ b := hn; omega) _ _ ⟨e0, hsim⟩)
  obtain ⟨σ', h1, e', h2⟩ := hq
  have fin : outOk P fn.results fr rs σ' → a'.defers = [] ∧ ∃ v, (results fn a'.tmps).run P w' = .ok v w' ∧ ∃ us, Ending.returned v = .returned (retV us) ∧ resOk fr (w.heap.size ≤ ·) w' FA rs us ∧ Below w.heap.size w w' := by
    intro ho
    have hbelow : Below w.heap.size w w' := ⟨h2.fr.os, h2.fr.tape, h2.fr.output, h2.fr.size, fun b hb => h2.fr.block b hb (by omega)⟩
    unfold outOk at ho
    cases fr
    · simp only [Bool.false_eq_true, if_false] at ho
      cases hq : (resVs P σ' fn.results.toList).bind (datVs σ') with
      | none => rw [hq] at ho; exact ho.elim
      | some r =>
        obtain ⟨ds', pu, p⟩ := r
        rw [hq] at ho
        obtain ⟨hp, hpu, rfl⟩ := ho
        obtain ⟨vs', hvs, hd⟩ := Option.bind_eq_some_iff.1 hq
        obtain ⟨us, k1, k2⟩ := results_run (P := P) h2 hvs
        obtain ⟨F, g1, g2⟩ := datVs_relVs h2 k2 hd hp
        refine ⟨h2.df, _, k1, us, rfl, ?_, hbelow⟩
        simp only [resOk, Bool.false_eq_true, if_false]
        refine ⟨F, g1, fun b hb => ?_⟩
        by_cases h3 : w.heap.size ≤ b
        · exact .inr h3
        · by_cases h4 : b ∈ FA
          · exact .inl h4
          · exact absurd (.inl (h2.bad.1 b ⟨by omega, h4⟩)) (g2 hpu b hb)
    · simp only [if_true] at ho
      cases hq : (resVs P σ' fn.results.toList).bind (absVs σ') with
      | none => rw [hq] at ho; exact ho.elim
      | some r =>
        obtain ⟨ds', f', τs, p⟩ := r
        rw [hq] at ho
        obtain ⟨hp, hf', hnd, rfl⟩ := ho
        obtain ⟨vs', hvs, hd⟩ := Option.bind_eq_some_iff.1 hq
        obtain ⟨us, k1, k2⟩ := results_run (P := P) h2 hvs
        obtain ⟨g1, g2⟩ := absVs_rel h2 k2 hd hp hf'
        refine ⟨h2.df, _, k1, us, rfl, ?_, hbelow⟩
        simp only [resOk, if_true]
        exact ⟨_, g1, given_nodup h2 g2 hnd⟩
  cases ex with
  | normal => exact fin h1
  | ret => exact fin h1
  | _ => exact h1.elim
end

end Go.Proofs.Ytopjlbifglacpaa.Am
