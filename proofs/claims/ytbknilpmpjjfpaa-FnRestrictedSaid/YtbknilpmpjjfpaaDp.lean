/- An array of the call's own becomes a deep one. -/
import Derived.Test.YtbknilpmpjjfpaaPkC
set_option linter.unusedSimpArgs false
set_option linter.unusedVariables false
namespace Go.Proofs.Ytbknilpmpjjfpaa.Am
open Go.RowKit
section
variable {e e' : Env} {σ σ' : St} {w w' : World} {N : Nat → Prop} {w0 : Bs} {a : Act} {P : Program}
def dpC (N : Nat → Prop) : CV → Prop
  | .l x => x.flat = true
  | .kept v (.sl es) => flatE es = true ∧ OldK N v
  | .kept _ _ => False
  | .adr _ => False
  | _ => True
def dpV (N : Nat → Prop) : V → Prop
  | .one c => dpC N c
  | .agg cs => ∀ c ∈ cs, dpC N c
  | .tup ps => ∀ p ∈ ps, ∀ c ∈ p.2, dpC N c
  | .dead => True
def dpA : Option Arr → Prop
  | some A => A.fr = true ∨ flatE A.es = true
  | none => True
def dpSt (N : Nat → Prop) (σ : St) : Prop := (∀ p ∈ σ.tm, dpV N p.2) ∧ (∀ p ∈ σ.bx, ∀ c ∈ p.2, dpC N c) ∧ ∀ p ∈ σ.ar, dpA p.2
theorem mem_of_lookup {α : Type} : ∀ {l : List (Nat × α)} {k : Nat} {v : α}, l.lookup k = some v → (k, v) ∈ l
  | [], _, _, h => by simp at h
  | (j, x) :: l, k, v, h => by
    simp only [lookup_cons] at h
    split at h
    · rename_i hk; subst hk; obtain rfl := Option.some.inj h; simp
    · exact List.mem_cons_of_mem _ (mem_of_lookup h)
theorem SimE.deepen (h : SimE N w0 e σ a w) {τ τ2 : Nat} {A : Arr} (hA : σ.ar.lookup τ = some (some A)) (hfr : A.fr = true) (h2 : σ.ar.lookup τ2 = none) (hd : τ < 1000000) (hd2 : 1000000 ≤ τ2) (hS : dpSt N σ) :
    SimE N w0 ⟨e.β, fun κ => if κ = τ2 then e.ρ τ else e.ρ κ, fun κ => if κ = τ2 then e.φ τ else e.φ κ, fun b => e.bad b ∨ b ∈ e.φ τ⟩ (σ.ren τ τ2) a w := by
  have hne : τ ≠ τ2 := fun e' => by rw [← e', hA] at h2; cases h2
  have look2 : (σ.ren τ τ2).ar.lookup τ2 = some (some A) := by simp [St.ren, hA]
  have lookτ : (σ.ren τ τ2).ar.lookup τ = some none := by simp only [St.ren, lookup_cons, if_neg hne, if_true]
  have look : ∀ κ, κ ≠ τ2 → κ ≠ τ → (σ.ren τ τ2).ar.lookup κ = σ.ar.lookup κ := fun κ k1 k2 => by simp only [St.ren, lookup_cons, if_neg k1, if_neg k2]
  have bxl : ∀ k cs, (σ.ren τ τ2).bx.lookup k = some cs → ∃ ds, σ.bx.lookup k = some ds ∧ cs = ds.map (renC τ τ2) := fun k cs hk => by
    have h1 : (σ.bx.lookup k).map (fun ds => ds.map (renC τ τ2)) = some cs := by rw [← lookup_map]; exact hk
    obtain ⟨ds, q1, q2⟩ := Option.map_eq_some_iff.1 h1
    exact ⟨ds, q1, q2.symm⟩
  have bxr : ∀ k ds, σ.bx.lookup k = some ds → (σ.ren τ τ2).bx.lookup k = some (ds.map (renC τ τ2)) := fun k ds hk => by
    show (σ.bx.map fun p => (p.1, p.2.map (renC τ τ2))).lookup k = _
    rw [lookup_map, hk]; rfl
  obtain ⟨e', he'⟩ : ∃ e' : Env, e' = ⟨e.β, fun κ => if κ = τ2 then e.ρ τ else e.ρ κ, fun κ => if κ = τ2 then e.φ τ else e.φ κ, fun b => e.bad b ∨ b ∈ e.φ τ⟩ := ⟨_, rfl⟩
  rw [← he']
  have r2 : e'.ρ τ2 = e.ρ τ ∧ e'.φ τ2 = e.φ τ := by rw [he']; simp
  have rk : ∀ κ, κ ≠ τ2 → e'.ρ κ = e.ρ κ ∧ e'.φ κ = e.φ κ := fun κ hk => by rw [he']; simp [hk]
  have rβ : e'.β = e.β := by rw [he']
  have rb : ∀ b, e'.bad b ↔ (e.bad b ∨ b ∈ e.φ τ) := fun b => by rw [he']
  have hNφ : ∀ b, b ∈ e.φ τ → N b := fun b hb => (h.blk_lt (κ := .a τ) ⟨A, hA⟩ b hb).2
  have hmu : ∀ b, Mut e' (σ.ren τ τ2) b → Mut e σ b ∨ b ∈ e.φ τ := fun b hm => by
    rcases hm with h0 | ⟨k, cs, h1, h3⟩ | ⟨κ, B, h1, h3⟩
    · exact ((rb b).1 h0).imp .inl id
    · obtain ⟨ds, q1, _⟩ := bxl k cs h1
      exact .inl (.inr (.inl ⟨k, ds, q1, rβ ▸ h3⟩))
    · by_cases k1 : κ = τ2
      · subst k1
        rw [r2.1] at h3
        exact .inl (.inr (.inr ⟨τ, A, hA, h3⟩))
      · by_cases k2 : κ = τ
        · rw [k2, lookτ] at h1; cases h1
        · rw [look κ k1 k2] at h1
          rw [(rk κ k1).1] at h3
          exact .inl (.inr (.inr ⟨κ, B, h1, h3⟩))
  have hC : ∀ (c : CV) (v : Value), dpC N c → c.rel e σ w v → (renC τ τ2 c).rel e' (σ.ren τ τ2) w v := fun c v hq hr => by
    cases c with
    | l x =>
      obtain ⟨F, q1, q2⟩ := hr
      have hF : F = [] := (q1.flat (N := N) hq).1
      subst hF
      exact ⟨[], q1, by simp⟩
    | nil => exact hr
    | vw κ n lo m W => exact CV.rel.cells hr
    | any => exact hr
    | kept v0 x =>
      obtain ⟨rfl, F, q1, q2⟩ := hr
      cases x with
      | sl es =>
        obtain ⟨F', g1, g2⟩ := hq.2 w es F hq.1 q1
        refine ⟨rfl, F', g1, fun b hb hm => ?_⟩
        rcases hmu b hm with g | g
        · exact q2 b (g2 b hb).2 g
        · exact (g2 b hb).1 (hNφ b g)
      | _ => exact hq.elim
    | np => exact hr
    | own κ n =>
      obtain ⟨B, q1, q2, q3⟩ := hr
      simp only [renC]
      by_cases k2 : κ = τ
      · subst k2
        rw [if_pos rfl]
        rw [hA] at q1
        obtain rfl := Option.some.inj q1
        refine ⟨_, look2, fun C hC => ?_, q3⟩
        rw [r2.1]
        exact q2 C hC
      · rw [if_neg k2]
        have k1 : κ ≠ τ2 := fun e1 => by rw [e1, h2] at q1; cases q1
        refine ⟨B, by rw [look κ k1 k2]; exact q1, fun C hC => ?_, q3⟩
        rw [(rk κ k1).1]
        exact q2 C hC
    | box k off =>
      obtain ⟨⟨cs, q1⟩, q2⟩ := hr
      exact ⟨⟨_, bxr k cs q1⟩, by rw [rβ]; exact q2⟩
    | adr ls => exact hq.elim
    | elt κ n i W off =>
      obtain ⟨B, q1, q2, q3⟩ := hr
      by_cases k2 : κ = τ
      · subst k2
        exact ⟨none, lookτ, fun C hC => (nomatch hC), q3⟩
      · have k1 : κ ≠ τ2 := fun e1 => by rw [e1, h2] at q1; cases q1
        refine ⟨B, by rw [look κ k1 k2]; exact q1, fun C hC => ?_, q3⟩
        rw [(rk κ k1).1]
        exact q2 C hC
    | nst κ j W off m =>
      obtain ⟨B, q1, q2, q3⟩ := hr
      by_cases k2 : κ = τ
      · subst k2
        exact ⟨none, lookτ, fun C hC => (nomatch hC), q3⟩
      · have k1 : κ ≠ τ2 := fun e1 => by rw [e1, h2] at q1; cases q1
        refine ⟨B, by rw [look κ k1 k2]; exact q1, fun C hC => ?_, q3⟩
        rw [(rk κ k1).1]
        exact q2 C hC
    | nel κ j W off i =>
      obtain ⟨B, q1, q2, q3⟩ := hr
      by_cases k2 : κ = τ
      · subst k2
        exact ⟨none, lookτ, fun C hC => (nomatch hC), q3⟩
      · have k1 : κ ≠ τ2 := fun e1 => by rw [e1, h2] at q1; cases q1
        refine ⟨B, by rw [look κ k1 k2]; exact q1, fun C hC => ?_, q3⟩
        rw [(rk κ k1).1]
        exact q2 C hC
  have hL : ∀ (cs : List CV) (vs : List Value), (∀ c ∈ cs, dpC N c) → relL e σ w cs vs → relL e' (σ.ren τ τ2) w (cs.map (renC τ τ2)) vs := fun cs => by
    induction cs with
    | nil => intro vs _ hr; exact hr
    | cons c cs ih =>
      intro vs hq hr
      simp only [Am.relL] at hr
      obtain ⟨v, vs', rfl, q1, q2⟩ := hr
      simp only [List.map_cons, Am.relL]
      exact ⟨v, vs', rfl, hC _ _ (hq c (by simp)) q1, ih _ (fun x hx => hq x (by simp [hx])) q2⟩
  have hP : ∀ (ps : List (Bool × List CV)) (vs : List Value), (∀ p ∈ ps, ∀ c ∈ p.2, dpC N c) → ptsRel e σ w ps vs → ptsRel e' (σ.ren τ τ2) w (ps.map fun (p : Bool × List CV) => (p.1, p.2.map (renC τ τ2))) vs := fun ps => by
    induction ps with
    | nil => intro vs _ hr; exact hr
    | cons p ps ih =>
      intro vs hq hr
      simp only [ptsRel] at hr
      obtain ⟨v, vs', rfl, q1, q2⟩ := hr
      simp only [List.map_cons, ptsRel]
      refine ⟨v, vs', rfl, ?_, ih _ (fun x hx => hq x (by simp [hx])) q2⟩
      have hq1 := hq p (by simp)
      obtain ⟨b, cs⟩ := p
      cases b
      · obtain ⟨c, rfl, q1⟩ := q1
        exact ⟨_, rfl, hC _ _ (hq1 c (by simp)) q1⟩
      · obtain ⟨us, rfl, q1⟩ := q1
        exact ⟨us, rfl, hL _ _ hq1 q1⟩
  have hV : ∀ (x : V) (v : Value), dpV N x → x.rel e σ w v → (renV τ τ2 x).rel e' (σ.ren τ τ2) w v := fun x v hq hr => by
    cases x with
    | one c => exact hC c v hq hr
    | agg cs => obtain ⟨us, rfl, q1⟩ := hr; exact ⟨us, rfl, hL _ _ hq q1⟩
    | tup ps => obtain ⟨us, rfl, q1⟩ := hr; exact ⟨us, rfl, hP _ _ hq q1⟩
    | dead => exact hr
  have hlive : ∀ κ, live (σ.ren τ τ2) κ → ∃ κ0, live σ κ0 ∧ blk e' κ = blk e κ0 ∧ True ∧ (κ0 = κ ∨ (κ0 = .a τ ∧ κ = .a τ2)) := fun κ hl => by
    cases κ with
    | b k =>
      obtain ⟨cs, q1⟩ := hl
      obtain ⟨ds, q2, _⟩ := bxl k cs q1
      exact ⟨.b k, ⟨ds, q2⟩, by simp [blk, rβ], trivial, .inl rfl⟩
    | a κ =>
      obtain ⟨B, q1⟩ := hl
      by_cases k1 : κ = τ2
      · subst k1
        exact ⟨.a τ, ⟨A, hA⟩, by simp only [blk]; exact r2.2, trivial, .inr ⟨rfl, rfl⟩⟩
      · by_cases k2 : κ = τ
        · rw [k2, lookτ] at q1; cases q1
        · rw [look κ k1 k2] at q1
          exact ⟨.a κ, ⟨B, q1⟩, by simp only [blk]; exact (rk κ k1).2, trivial, .inl rfl⟩
  have noτ : ¬ live (σ.ren τ τ2) (.a τ) := fun ⟨B, q1⟩ => by rw [lookτ] at q1; cases q1
  refine ⟨h.nt, h.df, fun t x ht => ?_, fun k cs hk => ?_, fun κ B hB => ?_, fun κ κ' hl hl' hn => ?_, h.fr, ⟨fun b hb => (rb b).2 (.inl (h.bad.1 b hb)), fun b hb => ⟨?_, fun κ hl hbk => ?_⟩⟩, fun κ hl hdp b hb => ?_, fun k cs hk hle => ?_⟩
  · have h1 : (σ.tm.lookup t).map (renV τ τ2) = some x := by rw [← lookup_map]; exact ht
    obtain ⟨x0, q1, rfl⟩ := Option.map_eq_some_iff.1 h1
    exact hV _ _ (hS.1 _ (mem_of_lookup q1)) (h.tm t x0 q1)
  · obtain ⟨ds, q1, rfl⟩ := bxl k cs hk
    obtain ⟨g1, cur, ty, g2, g3⟩ := h.bx k ds q1
    rw [rβ]
    exact ⟨g1, cur, ty, g2, hL _ _ (hS.2.1 _ (mem_of_lookup q1)) g3⟩
  · have key : ∀ κ0, σ.ar.lookup κ0 = some (some B) → ArrOk N (Mut e' (σ.ren τ τ2)) w B (e.ρ κ0) (e.φ κ0) := fun κ0 q0 => by
      obtain ⟨p, c, hv, hc, h4 | ⟨b, t, cur, Fs, W, q1, q2, q3, q4, q5, q6, q7, q8⟩⟩ := h.ar κ0 B q0
      · exact ⟨p, c, hv, hc, .inl h4⟩
      · refine ⟨p, c, hv, hc, .inr ⟨b, t, cur, Fs, W, q1, q2, q3, q4, q5, q6, q7, ?_⟩⟩
        rcases q8 with q8 | ⟨g1, g2, g3, g4⟩
        · exact .inl q8
        · have hF : Fs = [] := by
            have h9 : B.fr = true ∨ flatE B.es = true := hS.2.2 _ (mem_of_lookup q0)
            rcases h9 with h9 | h9
            · rw [g1] at h9; cases h9
            · exact (g3.flat (N := N) h9).1
          subst hF
          exact .inr ⟨g1, g2, g3, by simp⟩
    by_cases k1 : κ = τ2
    · subst k1
      rw [look2] at hB
      obtain rfl := Option.some.inj (Option.some.inj hB)
      rw [r2.1, r2.2]
      exact key τ hA
    · by_cases k2 : κ = τ
      · rw [k2, lookτ] at hB; cases hB
      · rw [look κ k1 k2] at hB
        rw [(rk κ k1).1, (rk κ k1).2]
        exact key κ hB
  · obtain ⟨κ0, g1, g2, _, g3⟩ := hlive κ hl
    obtain ⟨κ0', g1', g2', _, g3'⟩ := hlive κ' hl'
    rw [g2, g2']
    refine h.sep κ0 κ0' g1 g1' fun heq => ?_
    rcases g3 with g3 | ⟨g3, g4⟩ <;> rcases g3' with g3' | ⟨g3', g4'⟩
    · exact hn (by rw [← g3, ← g3', heq])
    · exact noτ (by rw [← g3', ← heq, g3]; exact hl)
    · exact noτ (by rw [← g3, heq, g3']; exact hl')
    · exact hn (by rw [g4, g4'])
  · rcases (rb b).1 hb with hb | hb
    · exact (h.bad.2 b hb).1
    · exact (h.blk_lt (κ := .a τ) ⟨A, hA⟩ b hb).1
  · obtain ⟨κ0, g1, g2, _, g3⟩ := hlive κ hl
    rw [g2] at hbk
    rcases g3 with rfl | ⟨rfl, rfl⟩
    · rcases (rb b).1 hb with hb | hb
      · exact (h.bad.2 b hb).2 κ0 g1 hbk
      · by_cases e1 : κ0 = .a τ
        · exact absurd (e1 ▸ hl) noτ
        · exact absurd hb (h.sep κ0 (.a τ) g1 ⟨A, hA⟩ e1 b hbk)
    · exact hd2
  · obtain ⟨κ0, g1, g2, _, g3⟩ := hlive κ hl
    rw [g2] at hb
    rcases g3 with rfl | ⟨rfl, _⟩
    · exact (rb b).2 (.inl (h.dk κ0 g1 hdp b hb))
    · exact (rb b).2 (.inr hb)
  · obtain ⟨ds, q1, _⟩ := bxl k cs hk
    rw [rβ]
    exact h.pn k ds q1 hle
end
section
variable {σ σ' : St} {N : Nat → Prop} {w0 : Bs} {P : Program} {x : Code} {Q : Exit → St → Prop} {F : True}
def dpOk (N : Nat → Prop) (τ τ2 : Nat) (σ : St) : Prop := (match σ.ar.lookup τ with | some (some A) => A.fr = true | _ => False) ∧ σ.ar.lookup τ2 = none ∧ τ < 1000000 ∧ 1000000 ≤ τ2 ∧ dpSt N σ
theorem AW_dp (τ τ2 : Nat) (hA : dpOk N τ τ2 σ) (h : AW P N w0 x Q σ') (k : Lift σ' (σ.ren τ τ2) := by constructor <;> simp [go_sem, F]) : AW P N w0 x Q σ := fun a w ⟨e, hs⟩ => by
  obtain ⟨h1, h2, h3, h4, h5⟩ := hA
  split at h1
  · rename_i A hA
    exact h a w (k.into _ _ _ _ ⟨_, hs.deepen hA h1 h2 h3 h4 h5⟩)
  · exact h1.elim
end
end Go.Proofs.Ytbknilpmpjjfpaa.Am
