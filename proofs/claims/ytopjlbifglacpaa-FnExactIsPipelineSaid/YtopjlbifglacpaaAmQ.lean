/- Calls by contract: what is handed over, what comes back. -/
import Derived.Test.YtopjlbifglacpaaAmP
set_option linter.unusedSimpArgs false
set_option linter.unusedVariables false
namespace Go.Proofs.Ytopjlbifglacpaa.Am
open Go.RowKit

/-- An argument or a result: of one cell, or a struct's cells. -/
inductive DV where
  | one (x : L)
  | agg (xs : List L)

def dvRel (w : World) : DV → Value → List Nat → Prop
  | .one x, v, F => Rp w x v F
  | .agg xs, v, F => ∃ vs, v = .agg vs.toArray ∧ RpL w xs vs F
def dvOw (N : Nat → Prop) (w : World) : DV → Value → List Nat → Prop
  | .one x, v, F => Ow N w x v F
  | .agg xs, v, F => ∃ vs, v = .agg vs.toArray ∧ OwL N w xs vs F
def dvsRel (w : World) : List DV → List Value → List Nat → Prop
  | [], vs, F => vs = [] ∧ F = []
  | d :: ds, vs, F => ∃ v vs' F1 F2, vs = v :: vs' ∧ F = F1 ++ F2 ∧ dvRel w d v F1 ∧ dvsRel w ds vs' F2
def dvsOw (N : Nat → Prop) (w : World) : List DV → List Value → List Nat → Prop
  | [], vs, F => vs = [] ∧ F = []
  | d :: ds, vs, F => ∃ v vs' F1 F2, vs = v :: vs' ∧ F = F1 ++ F2 ∧ dvOw N w d v F1 ∧ dvsOw N w ds vs' F2

/-- All results new (fr), or read out of the arguments. -/
def resOk (fr : Bool) (N : Nat → Prop) (w : World) (FA : List Nat) (rs : List DV) (us : List Value) : Prop :=
  if fr then ∃ F, dvsOw N w rs us F ∧ F.Nodup else ∃ F, dvsRel w rs us F ∧ ∀ b ∈ F, b ∈ FA ∨ N b

def retV : List Value → Value
  | [u] => u
  | us => .tuple us.toArray

def callOk (P : Program) (f : Nat) : Bool :=
  match P.funcs[f]? with
  | some fn => fn.name != "runtime.NumGoroutine" && fn.body.isSome
  | none => false

/-- The function's contract at these arguments: it returns these results, and nothing that was there has changed. -/
def Ctr (P : Program) (f : Nat) (ds : List DV) (fr : Bool) (rs : List DV) : Prop :=
  callOk P f = true ∧ ∀ (w : World) (vs : List Value) (FA : List Nat), dvsRel w ds vs FA →
    Calls P f vs.toArray w fun e w' => ∃ us, e = .returned (retV us) ∧ resOk fr (w.heap.size ≤ ·) w' FA rs us ∧ Below w.heap.size w w'

/-- A cell as plain data, read only: its datum; whether none of it may be written; what must hold. -/
def datC (σ : St) : CV → Option (L × Bool × Prop)
  | .l x => some (x, true, True)
  | .nil => some (.sl [], true, True)
  | .own τ n => match σ.ar.lookup τ with
    | some (some A) => some (.sl A.es, false, A.es.length = n)
    | _ => none
  | _ => none
def datL (σ : St) : List CV → Option (List L × Bool × Prop)
  | [] => some ([], true, True)
  | c :: cs => match datC σ c, datL σ cs with
    | some (x, f, p), some (xs, g, q) => some (x :: xs, f && g, p ∧ q)
    | _, _ => none
def datV (σ : St) : V → Option (DV × Bool × Prop)
  | .one c => (datC σ c).map fun r => (.one r.1, r.2)
  | .agg cs => (datL σ cs).map fun r => (.agg r.1, r.2)
  | _ => none
def datVs (σ : St) : List V → Option (List DV × Bool × Prop)
  | [] => some ([], true, True)
  | v :: vs => match datV σ v, datVs σ vs with
    | some (x, f, p), some (xs, g, q) => some (x :: xs, f && g, p ∧ q)
    | _, _ => none

def impC (τ : Nat) : L → CV × List (Nat × Arr)
  | .sl es => (.own τ es.length, [(τ, ⟨true, es⟩)])
  | x => (.l x, [])
/-- New cells come in: each slice an array of the caller's own. -/
def impL (τ : Nat) : List L → List CV × List (Nat × Arr)
  | [] => ([], [])
  | x :: xs => ((impC τ x).1 :: (impL (τ + (impC τ x).2.length) xs).1, (impC τ x).2 ++ (impL (τ + (impC τ x).2.length) xs).2)
def impD (τ : Nat) : List DV → List (Bool × List CV) × List (Nat × Arr)
  | [] => ([], [])
  | .one x :: ds => ((false, [(impC τ x).1]) :: (impD (τ + (impC τ x).2.length) ds).1, (impC τ x).2 ++ (impD (τ + (impC τ x).2.length) ds).2)
  | .agg xs :: ds => ((true, (impL τ xs).1) :: (impD (τ + (impL τ xs).2.length) ds).1, (impL τ xs).2 ++ (impD (τ + (impL τ xs).2.length) ds).2)
def ptD : DV → Bool × List CV
  | .one x => (false, [.l x])
  | .agg xs => (true, xs.map .l)
def retC : List (Bool × List CV) → V
  | [(false, [c])] => .one c
  | [(true, cs)] => .agg cs
  | ps => .tup ps

/-- Where a call's arrays get their numbers; dp: arrays all of whose blocks may be written. -/
def base (dp : Bool) (d : Nat) : Nat := if dp then 64 * d + 1000000 else 64 * d

/-- What a call of a contract leaves. -/
def callEff (σ : St) (dst : Option Nat) (fr dp : Bool) (rs : List DV) : Option Eff :=
  match dst with
  | none => some ⟨True, [], [], []⟩
  | some d => if d < σ.nt then
      if fr then
        if (impD (base dp d) rs).2.all (fun p => (σ.ar.lookup p.1).isNone) then
          some ⟨True, [(d, retC (impD (base dp d) rs).1)], [], (impD (base dp d) rs).2.map fun p => (p.1, some p.2)⟩
        else none
      else some ⟨True, [(d, retC (rs.map ptD))], [], []⟩
    else none

section
variable {e : Env} {σ : St} {w : World} {N : Nat → Prop} {w0 : Bs} {a : Act} {P : Program}

theorem datC_rel (h : SimE N w0 e σ a w) {c : CV} {v : Value} (hr : c.rel e σ w v) {x : L} {f : Bool} {p : Prop} (hd : datC σ c = some (x, f, p)) (hp : p) : ∃ F, Rp w x v F ∧ (f = true → ∀ b ∈ F, ¬ Mut e σ b) := by
  unfold datC at hd
  split at hd
  · simp only [Option.some.injEq, Prod.mk.injEq] at hd
    obtain ⟨rfl, rfl, rfl⟩ := hd
    obtain ⟨F, h1, h2⟩ := hr
    exact ⟨F, h1, fun _ => h2⟩
  · simp only [Option.some.injEq, Prod.mk.injEq] at hd
    obtain ⟨rfl, rfl, rfl⟩ := hd
    have hv : v = .slice none 0 0 := hr
    subst hv
    refine ⟨[], ?_, by simp⟩
    simp only [Rp]; exact ⟨none, 0, rfl, Nat.le_refl _, by omega, .inl (by simp)⟩
  · rename_i τ n
    split at hd
    · rename_i A hA
      simp only [Option.some.injEq, Prod.mk.injEq] at hd
      obtain ⟨rfl, rfl, rfl⟩ := hd
      obtain ⟨A', hA', h1, _⟩ := hr
      rw [hA] at hA'
      obtain rfl := Option.some.inj hA'
      have hv := (h1 A rfl).2 hp
      subst hv
      obtain ⟨p', c, hρ, g1, g2, hc | ⟨b, vs, Fs, W, rfl, q2, q3, q4, q5⟩⟩ := h.elemsAny hA
      · refine ⟨[], ?_, by simp⟩
        simp only [Rp]
        exact ⟨p', c, hρ, g1, g2, .inl (by simp [hc])⟩
      · refine ⟨b :: Fs, ?_, by simp⟩
        simp only [Rp]
        exact ⟨_, c, hρ, g1, g2, .inr ⟨b, 0, vs, Fs, rfl, (h.blk_lt (κ := .a τ) ⟨A, hA⟩ b q5).1, rfl, q2, q4⟩⟩
    · cases hd
  · cases hd
theorem datL_rel (h : SimE N w0 e σ a w) : ∀ {cs : List CV} {vs : List Value}, relL e σ w cs vs → ∀ {xs : List L} {f : Bool} {p : Prop}, datL σ cs = some (xs, f, p) → p → ∃ F, RpL w xs vs F ∧ (f = true → ∀ b ∈ F, ¬ Mut e σ b)
  | [], vs, hr, xs, f, p, hd, hp => by
    simp only [relL] at hr
    subst hr
    simp only [datL, Option.some.injEq, Prod.mk.injEq] at hd
    obtain ⟨rfl, rfl, rfl⟩ := hd
    exact ⟨[], by simp [RpL], by simp⟩
  | c :: cs, vs, hr, xs, f, p, hd, hp => by
    simp only [relL] at hr
    obtain ⟨v, vs', rfl, h1, h2⟩ := hr
    simp only [datL] at hd
    split at hd
    · rename_i x f1 p1 xs2 f2 p2 e1 e2
      simp only [Option.some.injEq, Prod.mk.injEq] at hd
      obtain ⟨rfl, rfl, rfl⟩ := hd
      obtain ⟨F1, k1, k2⟩ := datC_rel h h1 e1 hp.1
      obtain ⟨F2, g1, g2⟩ := datL_rel h h2 e2 hp.2
      refine ⟨F1 ++ F2, by simp only [RpL]; exact ⟨v, vs', F1, F2, rfl, rfl, k1, g1⟩, fun hf b hb => ?_⟩
      simp only [Bool.and_eq_true] at hf
      rcases List.mem_append.1 hb with hb | hb
      · exact k2 hf.1 b hb
      · exact g2 hf.2 b hb
    · cases hd
theorem datV_rel (h : SimE N w0 e σ a w) {x : V} {v : Value} (hr : x.rel e σ w v) {d : DV} {f : Bool} {p : Prop} (hd : datV σ x = some (d, f, p)) (hp : p) : ∃ F, dvRel w d v F ∧ (f = true → ∀ b ∈ F, ¬ Mut e σ b) := by
  cases x with
  | one c =>
    simp only [datV] at hd
    obtain ⟨⟨y, f', p'⟩, h1, h2⟩ := Option.map_eq_some_iff.1 hd
    simp only [Prod.mk.injEq] at h2
    obtain ⟨rfl, rfl, rfl⟩ := h2
    exact datC_rel h hr h1 hp
  | agg cs =>
    simp only [datV] at hd
    obtain ⟨⟨y, f', p'⟩, h1, h2⟩ := Option.map_eq_some_iff.1 hd
    simp only [Prod.mk.injEq] at h2
    obtain ⟨rfl, rfl, rfl⟩ := h2
    obtain ⟨vs, rfl, hr⟩ := hr
    obtain ⟨F, g1, g2⟩ := datL_rel h hr h1 hp
    exact ⟨F, ⟨vs, rfl, g1⟩, g2⟩
  | tup ps => simp [datV] at hd
  | dead => simp [datV] at hd
theorem datVs_rel (h : SimE N w0 e σ a w) : ∀ {ps : List Operand} {vs : List V}, opds σ ps = some vs → ∀ {ds : List DV} {f : Bool} {p : Prop}, datVs σ vs = some (ds, f, p) → p → ∃ F, dvsRel w ds (ps.map a.eval) F ∧ (f = true → ∀ b ∈ F, ¬ Mut e σ b)
  | [], vs, ho, ds, f, p, hd, hp => by
    simp only [opds, Option.some.injEq] at ho
    subst ho
    simp only [datVs, Option.some.injEq, Prod.mk.injEq] at hd
    obtain ⟨rfl, rfl, rfl⟩ := hd
    exact ⟨[], by simp [dvsRel], by simp⟩
  | o :: ps, vs, ho, ds, f, p, hd, hp => by
    simp only [opds] at ho
    split at ho
    · rename_i v vs' hv hvs
      obtain rfl := Option.some.inj ho
      simp only [datVs] at hd
      split at hd
      · rename_i x f1 p1 xs2 f2 p2 e1 e2
        simp only [Option.some.injEq, Prod.mk.injEq] at hd
        obtain ⟨rfl, rfl, rfl⟩ := hd
        obtain ⟨F1, k1, k2⟩ := datV_rel h (opd_rel h hv) e1 hp.1
        obtain ⟨F2, g1, g2⟩ := datVs_rel h hvs e2 hp.2
        refine ⟨F1 ++ F2, by simp only [List.map_cons, dvsRel]; exact ⟨_, _, F1, F2, rfl, rfl, k1, g1⟩, fun hf b hb => ?_⟩
        simp only [Bool.and_eq_true] at hf
        rcases List.mem_append.1 hb with hb | hb
        · exact k2 hf.1 b hb
        · exact g2 hf.2 b hb
      · cases hd
    · cases ho

/-- The arrays that come in, each with its value and its blocks. -/
structure Inc where
  τ : Nat
  A : Arr
  v : Value
  F : List Nat

def incEnv (e : Env) (q : List Inc) (dp : Bool) : Env :=
  ⟨e.β, fun κ => ((q.find? (·.τ == κ)).map (·.v)).getD (e.ρ κ), fun κ => ((q.find? (·.τ == κ)).map (·.F)).getD (e.φ κ), fun b => e.bad b ∨ ∃ i ∈ q, 1000000 ≤ i.τ ∧ b ∈ i.F⟩

def incOk (N' : Nat → Prop) (w' : World) (q : Inc) : Prop := Ow N' w' (.sl q.A.es) q.v q.F ∧ q.A.fr = true

/-- What the cells say, whatever the rest. -/
def incRel (q : List Inc) (w' : World) : List CV → List Value → Prop := fun cs vs =>
  ∀ (e' : Env) (σ' : St), (∀ i ∈ q, e'.ρ i.τ = i.v ∧ σ'.ar.lookup i.τ = some (some i.A)) → relL e' σ' w' cs vs

theorem impC_sound {N' : Nat → Prop} {w' : World} {τ : Nat} {x : L} {v : Value} {F : List Nat} (h : Ow N' w' x v F) : ∃ q : List Inc, q.map (fun i => (i.τ, i.A)) = (impC τ x).2 ∧ (∀ i ∈ q, incOk N' w' i) ∧ F = q.flatMap (·.F) ∧
    (∀ (e' : Env) (σ' : St), (∀ i ∈ q, e'.ρ i.τ = i.v ∧ σ'.ar.lookup i.τ = some (some i.A)) → (impC τ x).1.rel e' σ' w' v) := by
  cases x with
  | sl es =>
    refine ⟨[⟨τ, ⟨true, es⟩, v, F⟩], rfl, by simp [incOk, h], by simp, fun e' σ' hq => ?_⟩
    obtain ⟨g1, g2⟩ := hq _ (List.mem_singleton.2 rfl)
    simp only [Ow] at h
    obtain ⟨A, c, h1, h2, h3⟩ := h
    refine ⟨some ⟨true, es⟩, g2, fun B hB => ?_, A, c, h1, ?_⟩
    · obtain rfl := Option.some.inj hB
      exact ⟨Nat.le_refl _, fun _ => g1.symm⟩
    · rcases h3 with ⟨h4, _⟩ | ⟨b, t, cur, Fs, W, _, _, _, h4, _⟩
      · simp [h4]
      · omega
  | int k n => simp only [Ow] at h; exact ⟨[], rfl, by simp, by simp [h.2.1], fun e' σ' _ => ⟨[], by simp [Rp, h.1, h.2.2], by simp⟩⟩
  | bool b => simp only [Ow] at h; exact ⟨[], rfl, by simp, by simp [h.2], fun e' σ' _ => ⟨[], by simp [Rp, h.1], by simp⟩⟩
  | str s => simp only [Ow] at h; exact ⟨[], rfl, by simp, by simp [h.2.1], fun e' σ' _ => ⟨[], by simp [Rp, h.1, h.2.2], by simp⟩⟩

theorem impL_sound {N' : Nat → Prop} {w' : World} : ∀ {xs : List L} {τ : Nat} {vs : List Value} {F : List Nat}, OwL N' w' xs vs F → ∃ q : List Inc, q.map (fun i => (i.τ, i.A)) = (impL τ xs).2 ∧ (∀ i ∈ q, incOk N' w' i) ∧ F = q.flatMap (·.F) ∧
    (∀ (e' : Env) (σ' : St), (∀ i ∈ q, e'.ρ i.τ = i.v ∧ σ'.ar.lookup i.τ = some (some i.A)) → relL e' σ' w' (impL τ xs).1 vs)
  | [], τ, vs, F, h => by simp only [OwL] at h; exact ⟨[], rfl, by simp, by simp [h.2], fun e' σ' _ => by simp [impL, relL, h.1]⟩
  | x :: xs, τ, vs, F, h => by
    simp only [OwL] at h
    obtain ⟨v, vs', F1, F2, rfl, rfl, h1, h2⟩ := h
    obtain ⟨q1, a1, a2, a3, a4⟩ := impC_sound (τ := τ) h1
    obtain ⟨q2, b1, b2, b3, b4⟩ := impL_sound (τ := τ + (impC τ x).2.length) h2
    refine ⟨q1 ++ q2, by simp [impL, a1, b1], fun i hi => by rcases List.mem_append.1 hi with hi | hi; exact a2 i hi; exact b2 i hi, by simp [a3, b3], fun e' σ' hq => ?_⟩
    simp only [impL, relL]
    exact ⟨v, vs', rfl, a4 e' σ' fun i hi => hq i (by simp [hi]), b4 e' σ' fun i hi => hq i (by simp [hi])⟩

theorem impD_sound {N' : Nat → Prop} {w' : World} : ∀ {ds : List DV} {τ : Nat} {vs : List Value} {F : List Nat}, dvsOw N' w' ds vs F → ∃ q : List Inc, q.map (fun i => (i.τ, i.A)) = (impD τ ds).2 ∧ (∀ i ∈ q, incOk N' w' i) ∧ F = q.flatMap (·.F) ∧
    (∀ (e' : Env) (σ' : St), (∀ i ∈ q, e'.ρ i.τ = i.v ∧ σ'.ar.lookup i.τ = some (some i.A)) → ptsRel e' σ' w' (impD τ ds).1 vs)
  | [], τ, vs, F, h => by simp only [dvsOw] at h; exact ⟨[], rfl, by simp, by simp [h.2], fun e' σ' _ => by simp [impD, ptsRel, h.1]⟩
  | .one x :: xs, τ, vs, F, h => by
    simp only [dvsOw] at h
    obtain ⟨v, vs', F1, F2, rfl, rfl, h1, h2⟩ := h
    obtain ⟨q1, a1, a2, a3, a4⟩ := impC_sound (τ := τ) h1
    obtain ⟨q2, b1, b2, b3, b4⟩ := impD_sound (τ := τ + (impC τ x).2.length) h2
    refine ⟨q1 ++ q2, by simp [impD, a1, b1], fun i hi => by rcases List.mem_append.1 hi with hi | hi; exact a2 i hi; exact b2 i hi, by simp [a3, b3], fun e' σ' hq => ?_⟩
    simp only [impD, ptsRel]
    exact ⟨v, vs', rfl, ⟨_, rfl, a4 e' σ' fun i hi => hq i (by simp [hi])⟩, b4 e' σ' fun i hi => hq i (by simp [hi])⟩
  | .agg xs :: ds, τ, vs, F, h => by
    simp only [dvsOw] at h
    obtain ⟨v, vs', F1, F2, rfl, rfl, ⟨us, rfl, h1⟩, h2⟩ := h
    obtain ⟨q1, a1, a2, a3, a4⟩ := impL_sound (τ := τ) h1
    obtain ⟨q2, b1, b2, b3, b4⟩ := impD_sound (τ := τ + (impL τ xs).2.length) h2
    refine ⟨q1 ++ q2, by simp [impD, a1, b1], fun i hi => by rcases List.mem_append.1 hi with hi | hi; exact a2 i hi; exact b2 i hi, by simp [a3, b3], fun e' σ' hq => ?_⟩
    simp only [impD, ptsRel]
    exact ⟨_, vs', rfl, ⟨us, rfl, a4 e' σ' fun i hi => hq i (by simp [hi])⟩, b4 e' σ' fun i hi => hq i (by simp [hi])⟩

theorem impC_keys (τ : Nat) (x : L) : ∀ p ∈ (impC τ x).2, p.1 = τ := by cases x <;> simp [impC]
theorem impL_keys : ∀ (xs : List L) (τ : Nat), ((impL τ xs).2.map (·.1)).Nodup ∧ ∀ p ∈ (impL τ xs).2, τ ≤ p.1 ∧ p.1 < τ + (impL τ xs).2.length
  | [], τ => by simp [impL]
  | x :: xs, τ => by
    obtain ⟨h1, h2⟩ := impL_keys xs (τ + (impC τ x).2.length)
    cases x with
    | sl es =>
      simp only [impL, impC, List.length_cons, List.length_nil, Nat.zero_add, List.cons_append, List.nil_append, List.map_cons] at h1 h2 ⊢
      refine ⟨List.nodup_cons.2 ⟨fun hm => ?_, h1⟩, fun p hp => ?_⟩
      · obtain ⟨p, hp, hp2⟩ := List.mem_map.1 hm
        have := h2 p hp
        omega
      · rcases List.mem_cons.1 hp with rfl | hp
        · simp
        · have := h2 p hp; omega
    | _ => simpa [impL, impC] using And.intro h1 h2
theorem impD_keys : ∀ (ds : List DV) (τ : Nat), ((impD τ ds).2.map (·.1)).Nodup ∧ ∀ p ∈ (impD τ ds).2, τ ≤ p.1 ∧ p.1 < τ + (impD τ ds).2.length
  | [], τ => by simp [impD]
  | .one x :: ds, τ => by
    obtain ⟨h1, h2⟩ := impD_keys ds (τ + (impC τ x).2.length)
    cases x with
    | sl es =>
      simp only [impD, impC, List.length_cons, List.length_nil, Nat.zero_add, List.cons_append, List.nil_append, List.map_cons] at h1 h2 ⊢
      refine ⟨List.nodup_cons.2 ⟨fun hm => ?_, h1⟩, fun p hp => ?_⟩
      · obtain ⟨p, hp, hp2⟩ := List.mem_map.1 hm
        have := h2 p hp
        omega
      · rcases List.mem_cons.1 hp with rfl | hp
        · simp
        · have := h2 p hp; omega
    | _ => simpa [impD, impC] using And.intro h1 h2
  | .agg xs :: ds, τ => by
    obtain ⟨h1, h2⟩ := impD_keys ds (τ + (impL τ xs).2.length)
    obtain ⟨g1, g2⟩ := impL_keys xs τ
    simp only [impD, List.map_append, List.length_append]
    refine ⟨List.nodup_append.2 ⟨g1, h1, fun x hx y hy hxy => ?_⟩, fun p hp => ?_⟩
    · subst hxy
      obtain ⟨p, hp, rfl⟩ := List.mem_map.1 hx
      obtain ⟨r, hr, hr2⟩ := List.mem_map.1 hy
      have := g2 p hp
      have := h2 r hr
      omega
    · rcases List.mem_append.1 hp with hp | hp
      · have := g2 p hp; omega
      · have := h2 p hp; omega
end

end Go.Proofs.Ytopjlbifglacpaa.Am
