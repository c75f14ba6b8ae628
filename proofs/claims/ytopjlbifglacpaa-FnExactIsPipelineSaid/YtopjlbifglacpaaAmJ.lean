/- Arrays of the call's own: what is given away to one, and what a step that turns one owes. -/
import Derived.Test.YtopjlbifglacpaaAmI
set_option linter.unusedSimpArgs false
set_option linter.unusedVariables false
namespace Go.Proofs.Ytopjlbifglacpaa.Am
open Go.RowKit

section
variable {e : Env} {σ : St} {w : World} {N : Nat → Prop} {w0 : Bs} {a : Act} {P : Program}

/-- The blocks of what is given away: nobody writes them, or they are the top of an array that is given away. -/
def Given (e : Env) (σ : St) (τs : List Nat) (F : List Nat) : Prop := ∀ b ∈ F, ¬ Mut e σ b ∨ ∃ τ ∈ τs, (e.ρ τ).ownBlock = some b

theorem Given.append {τs τs' F F' : List Nat} (h : Given e σ τs F) (k : Given e σ τs' F') : Given e σ (τs ++ τs') (F ++ F') := by
  intro b hb
  rcases List.mem_append.1 hb with hb | hb
  · rcases h b hb with h1 | ⟨τ, h1, h2⟩
    · exact .inl h1
    · exact .inr ⟨τ, by simp [h1], h2⟩
  · rcases k b hb with h1 | ⟨τ, h1, h2⟩
    · exact .inl h1
    · exact .inr ⟨τ, by simp [h1], h2⟩

theorem absC_rel (h : SimE N w0 e σ a w) {c : CV} {v : Value} (hr : c.rel e σ w v) {x : L} {f : Bool} {τs : List Nat} {p : Prop} (ha : absC σ c = some (x, f, τs, p)) (hp : p) :
    (∃ F, Rp w x v F ∧ Given e σ τs F) ∧ (f = true → Ow N w x v (τs.flatMap e.φ)) ∧ (∀ τ ∈ τs, ∃ A, σ.ar.lookup τ = some (some A) ∧ (f = true → A.fr = true) ∧ τ < 1000000) := by
  unfold absC at ha
  split at ha
  · simp only [Option.some.injEq, Prod.mk.injEq] at ha
    obtain ⟨rfl, rfl, rfl, rfl⟩ := ha
    obtain ⟨F, h1, h2⟩ := hr
    refine ⟨⟨F, h1, fun b hb => .inl (h2 b hb)⟩, fun hf => ?_, by simp⟩
    exact (h1.flat (N := N) hf).2
  · simp only [Option.some.injEq, Prod.mk.injEq] at ha
    obtain ⟨rfl, rfl, rfl, rfl⟩ := ha
    have hv : v = .slice none 0 0 := hr
    subst hv
    refine ⟨⟨[], ?_, by simp [Given]⟩, fun _ => ?_, by simp⟩
    · simp only [Rp]; exact ⟨none, 0, rfl, Nat.le_refl _, by omega, .inl (by simp)⟩
    · simp only [Ow]; exact ⟨none, 0, rfl, by omega, .inl (by simp)⟩
  · rename_i τ n
    split at ha
    · rename_i A hA
      split at ha
      rotate_left
      · cases ha
      rename_i hdp
      simp only [Option.some.injEq, Prod.mk.injEq] at ha
      obtain ⟨rfl, rfl, rfl, rfl⟩ := ha
      obtain ⟨A', hA', h1, _⟩ := hr
      rw [hA] at hA'
      obtain rfl := Option.some.inj hA'
      have hv := (h1 A rfl).2 hp
      subst hv
      have hok := h.ar τ A hA
      refine ⟨?_, fun hf => ?_, fun κ hκ => ?_⟩
      · obtain ⟨p', c, hρ, g1, g2, hc | ⟨b, vs, Fs, W, rfl, q2, q3, q4, q5, q6⟩⟩ := h.elems hA hdp
        · refine ⟨[], ?_, by simp [Given]⟩
          simp only [Rp]
          exact ⟨p', c, hρ, g1, g2, .inl (by simp [hc])⟩
        · refine ⟨b :: Fs, ?_, ?_⟩
          · simp only [Rp]
            exact ⟨_, c, hρ, g1, g2, .inr ⟨b, 0, vs, Fs, rfl, (h.blk_lt (κ := .a τ) ⟨A, hA⟩ b q5).1, rfl, q2, q4⟩⟩
          · intro x hx
            rcases List.mem_cons.1 hx with rfl | hx
            · exact .inr ⟨τ, by simp, by rw [hρ]; rfl⟩
            · exact .inl (q6 x hx)
      · obtain ⟨p', c, hρ, g1, hc | ⟨b, t, cur, Fs, W, rfl, q1, q2, q3, q4, q5, q6, q7⟩⟩ := hok
        · obtain ⟨k1, rfl, rfl, k4⟩ := hc
          simp only [Ow, List.flatMap_cons, List.flatMap_nil, List.append_nil]
          exact ⟨_, _, hρ, g1, .inl (by simp [k1, k4])⟩
        · rcases q7 with ⟨k1, k2, k3, k4⟩ | ⟨k1, _⟩
          · simp only [Ow, List.flatMap_cons, List.flatMap_nil, List.append_nil]
            exact ⟨_, c, hρ, g1, .inr ⟨b, t, cur, Fs, W, rfl, q1, q2, q3, q4, q5, q6, k2, k4⟩⟩
          · rw [hf] at k1; cases k1
      · obtain rfl := List.mem_singleton.1 hκ
        exact ⟨A, hA, fun hf => hf, hdp⟩
    · cases ha
  · cases ha

theorem absL_rel (h : SimE N w0 e σ a w) : ∀ {cs : List CV} {vs : List Value}, relL e σ w cs vs → ∀ {xs : List L} {f : Bool} {τs : List Nat} {p : Prop}, absL σ cs = some (xs, f, τs, p) → p →
    (∃ F, RpL w xs vs F ∧ Given e σ τs F) ∧ (f = true → OwL N w xs vs (τs.flatMap e.φ)) ∧ (∀ τ ∈ τs, ∃ A, σ.ar.lookup τ = some (some A) ∧ (f = true → A.fr = true) ∧ τ < 1000000) ∧ xs.length = cs.length
  | [], vs, hr, xs, f, τs, p, ha, hp => by
    simp only [relL] at hr
    subst hr
    simp only [absL, Option.some.injEq, Prod.mk.injEq] at ha
    obtain ⟨rfl, rfl, rfl, rfl⟩ := ha
    exact ⟨⟨[], by simp [RpL], by simp [Given]⟩, fun _ => by simp [OwL], by simp, rfl⟩
  | c :: cs, vs, hr, xs, f, τs, p, ha, hp => by
    simp only [relL] at hr
    obtain ⟨v, vs', rfl, h1, h2⟩ := hr
    simp only [absL] at ha
    split at ha
    · rename_i x f1 τ1 p1 xs2 f2 τ2 p2 e1 e2
      simp only [Option.some.injEq, Prod.mk.injEq] at ha
      obtain ⟨rfl, rfl, rfl, rfl⟩ := ha
      obtain ⟨⟨F1, k1, k2⟩, k3, k4⟩ := absC_rel h h1 e1 hp.1
      obtain ⟨⟨F2, g1, g2⟩, g3, g4, g5⟩ := absL_rel h h2 e2 hp.2
      refine ⟨⟨F1 ++ F2, ?_, k2.append g2⟩, fun hf => ?_, fun τ hτ => ?_, by simp [g5]⟩
      · simp only [RpL]; exact ⟨v, vs', F1, F2, rfl, rfl, k1, g1⟩
      · simp only [Bool.and_eq_true] at hf
        simp only [OwL, List.flatMap_append]
        exact ⟨v, vs', _, _, rfl, rfl, k3 hf.1, g3 hf.2⟩
      · rcases List.mem_append.1 hτ with hτ | hτ
        · obtain ⟨A, hA, hf, hd⟩ := k4 τ hτ
          exact ⟨A, hA, fun h => hf (by simp only [Bool.and_eq_true] at h; exact h.1), hd⟩
        · obtain ⟨A, hA, hf, hd⟩ := g4 τ hτ
          exact ⟨A, hA, fun h => hf (by simp only [Bool.and_eq_true] at h; exact h.2), hd⟩
    · cases ha

/-- The cells of several elements behind one another. -/
def relE (e : Env) (σ : St) (w : World) : List (List CV) → List Value → Prop
  | [], vs => vs = []
  | c :: cs, vs => ∃ v1 v2, vs = v1 ++ v2 ∧ relL e σ w c v1 ∧ relE e σ w cs v2

theorem absE_rel (h : SimE N w0 e σ a w) : ∀ {cs : List (List CV)} {vs : List Value}, relE e σ w cs vs → ∀ {xs : List (List L)} {f : Bool} {τs : List Nat} {p : Prop}, absE σ cs = some (xs, f, τs, p) → p →
    (∃ F, RpE w xs vs F ∧ Given e σ τs F) ∧ (f = true → OwE N w xs vs (τs.flatMap e.φ)) ∧ (∀ τ ∈ τs, ∃ A, σ.ar.lookup τ = some (some A) ∧ (f = true → A.fr = true) ∧ τ < 1000000) ∧ xs.map List.length = cs.map List.length
  | [], vs, hr, xs, f, τs, p, ha, hp => by
    simp only [relE] at hr
    subst hr
    simp only [absE, Option.some.injEq, Prod.mk.injEq] at ha
    obtain ⟨rfl, rfl, rfl, rfl⟩ := ha
    exact ⟨⟨[], by simp [RpE], by simp [Given]⟩, fun _ => by simp [OwE], by simp, rfl⟩
  | c :: cs, vs, hr, xs, f, τs, p, ha, hp => by
    simp only [relE] at hr
    obtain ⟨v, vs', rfl, h1, h2⟩ := hr
    simp only [absE] at ha
    split at ha
    · rename_i x f1 τ1 p1 xs2 f2 τ2 p2 e1 e2
      simp only [Option.some.injEq, Prod.mk.injEq] at ha
      obtain ⟨rfl, rfl, rfl, rfl⟩ := ha
      obtain ⟨⟨F1, k1, k2⟩, k3, k4, k5⟩ := absL_rel h h1 e1 hp.1
      obtain ⟨⟨F2, g1, g2⟩, g3, g4, g5⟩ := absE_rel h h2 e2 hp.2
      refine ⟨⟨F1 ++ F2, ?_, k2.append g2⟩, fun hf => ?_, fun τ hτ => ?_, by simp [g5, k5]⟩
      · simp only [RpE]; exact ⟨v, vs', F1, F2, rfl, rfl, k1, g1⟩
      · simp only [Bool.and_eq_true] at hf
        simp only [OwE, List.flatMap_append]
        exact ⟨v, vs', _, _, rfl, rfl, k3 hf.1, g3 hf.2⟩
      · rcases List.mem_append.1 hτ with hτ | hτ
        · obtain ⟨A, hA, hf, hd⟩ := k4 τ hτ
          exact ⟨A, hA, fun h => hf (by simp only [Bool.and_eq_true] at h; exact h.1), hd⟩
        · obtain ⟨A, hA, hf, hd⟩ := g4 τ hτ
          exact ⟨A, hA, fun h => hf (by simp only [Bool.and_eq_true] at h; exact h.2), hd⟩
    · cases ha

/-- Each array's blocks once; arrays apart: their blocks behind one another are met once. -/
theorem given_nodup (h : SimE N w0 e σ a w) : ∀ {τs : List Nat}, (∀ τ ∈ τs, ∃ A, σ.ar.lookup τ = some (some A) ∧ A.fr = true) → τs.Nodup → (τs.flatMap e.φ).Nodup
  | [], _, _ => by simp
  | τ :: τs, hl, hn => by
    obtain ⟨hn1, hn2⟩ := List.nodup_cons.1 hn
    obtain ⟨A, hA, hf⟩ := hl τ (by simp)
    simp only [List.flatMap_cons]
    refine List.nodup_append.2 ⟨?_, given_nodup h (fun κ hκ => hl κ (by simp [hκ])) hn2, fun b hb b' hb' hbb => ?_⟩
    · obtain ⟨p', c, hρ, g1, hc | ⟨b, t, cur, Fs, W, rfl, q1, q2, q3, q4, q5, q6, q7⟩⟩ := h.ar τ A hA
      · rw [hc.2.2.2]; exact List.nodup_nil
      · rcases q7 with ⟨k1, k2, k3, k4⟩ | ⟨k1, _⟩
        · exact k3
        · rw [hf] at k1; cases k1
    · subst hbb
      obtain ⟨κ, hκ, hbκ⟩ := List.mem_flatMap.1 hb'
      obtain ⟨B, hB, _⟩ := hl κ (by simp [hκ])
      exact h.sep (.a τ) (.a κ) ⟨A, hA⟩ ⟨B, hB⟩ (by rintro ⟨⟩; exact hn1 hκ) b hb hbκ

def envA (e : Env) (τ : Nat) (v : Value) (F : List Nat) : Env := ⟨e.β, fun κ => if κ = τ then v else e.ρ κ, fun κ => if κ = τ then F else e.φ κ, e.bad⟩
def stA (σ : St) (tm : List (Nat × V)) (τ : Nat) (A : Arr) (τs : List Nat) : St := ⟨σ.nt, tm, σ.bx, (τ, some A) :: (τs.map (fun κ => (κ, none)) ++ σ.ar)⟩

theorem lookup_tomb (τs : List Nat) (l : List (Nat × Option Arr)) (κ : Nat) : (τs.map (fun κ => (κ, (none : Option Arr))) ++ l).lookup κ = if κ ∈ τs then some none else l.lookup κ := by
  induction τs with
  | nil => simp
  | cons τ τs ih =>
    simp only [List.map_cons, List.cons_append, lookup_cons, ih, List.mem_cons]
    by_cases h1 : κ = τ
    · simp [h1]
    · simp [h1]

theorem stA_lookup (tm : List (Nat × V)) (τ : Nat) (A : Arr) (τs : List Nat) (κ : Nat) : (stA σ tm τ A τs).ar.lookup κ = if κ = τ then some (some A) else if κ ∈ τs then some none else σ.ar.lookup κ := by
  simp only [stA, lookup_cons, lookup_tomb]

/-- What may be written behind the step: the array's top, and what could be written before, less what was given away. -/
theorem mut_after {tm : List (Nat × V)} {τ : Nat} {A : Arr} {τs : List Nat} {v : Value} {F : List Nat} {b : Nat} (hm : Mut (envA e τ v F) (stA σ tm τ A τs) b) :
    v.ownBlock = some b ∨ (e.bad b ∨ (∃ k cs, σ.bx.lookup k = some cs ∧ e.β k = b) ∨ ∃ κ B, κ ≠ τ ∧ κ ∉ τs ∧ σ.ar.lookup κ = some (some B) ∧ (e.ρ κ).ownBlock = some b) := by
  rcases hm with h0 | ⟨k, cs, h1, h2⟩ | ⟨κ, B, h1, h2⟩
  · exact .inr (.inl h0)
  · exact .inr (.inr (.inl ⟨k, cs, h1, h2⟩))
  · rw [stA_lookup] at h1
    by_cases h3 : κ = τ
    · subst h3
      simp only [envA, if_true] at h2
      exact .inl h2
    · rw [if_neg h3] at h1
      simp only [envA, if_neg h3] at h2
      by_cases h4 : κ ∈ τs
      · rw [if_pos h4] at h1; cases h1
      · rw [if_neg h4] at h1
        exact .inr (.inr (.inr ⟨κ, B, h3, h4, h1, h2⟩))

/-- What was given away is not written afterwards. -/
theorem given_after (h : SimE N w0 e σ a w) {tm : List (Nat × V)} {τ : Nat} {A : Arr} {τs : List Nat} {v : Value} {F G : List Nat} (hg : Given e σ τs G) (hl : ∀ κ ∈ τs, ∃ B, σ.ar.lookup κ = some (some B) ∧ κ < 1000000) (hτ : τ ∉ τs)
    (hG : ∀ b ∈ G, b < w.heap.size) (ht : ∀ b, v.ownBlock = some b → (∃ A, σ.ar.lookup τ = some (some A) ∧ (e.ρ τ).ownBlock = some b) ∨ w.heap.size ≤ b) : ∀ b ∈ G, ¬ Mut (envA e τ v F) (stA σ tm τ A τs) b := by
  intro b hb hm
  have hlt := hG b hb
  rcases mut_after hm with h1 | h1
  · rcases ht b h1 with ⟨B, h2, h3⟩ | h2
    · rcases hg b hb with h4 | ⟨κ, h4, h5⟩
      · exact h4 (.inr (.inr ⟨τ, B, h2, h3⟩))
      · obtain ⟨C, hC, _⟩ := hl κ h4
        exact h.sep (.a τ) (.a κ) ⟨B, h2⟩ ⟨C, hC⟩ (by rintro ⟨⟩; exact hτ h4) b ((h.ar τ B h2).own h3).1 ((h.ar κ C hC).own h5).1
    · omega
  · rcases hg b hb with h4 | ⟨κ, h4, h5⟩
    · apply h4
      rcases h1 with h0 | ⟨k, cs, h1, h2⟩ | ⟨κ, B, _, _, h1, h2⟩
      · exact .inl h0
      · exact .inr (.inl ⟨k, cs, h1, h2⟩)
      · exact .inr (.inr ⟨κ, B, h1, h2⟩)
    · obtain ⟨C, hC, hCd⟩ := hl κ h4
      rcases h1 with h0 | ⟨k, cs, h1, h2⟩ | ⟨κ', B, h6, h7, h1, h2⟩
      · have : 1000000 ≤ κ := (h.bad.2 b h0).2 (.a κ) ⟨C, hC⟩ ((h.ar κ C hC).own h5).1
        omega
      · exact h.sep (.b k) (.a κ) ⟨cs, h1⟩ ⟨C, hC⟩ (by simp) b (by simp [blk, h2]) ((h.ar κ C hC).own h5).1
      · exact h.sep (.a κ') (.a κ) ⟨B, h1⟩ ⟨C, hC⟩ (by rintro ⟨⟩; exact h7 h4) b ((h.ar κ' B h1).own h2).1 ((h.ar κ C hC).own h5).1

/-- A step that turns one array (or makes it), and gives others away to it. -/
theorem SimE.setArr (h : SimE N w0 e σ a w) {w' : World} {τ : Nat} {A' : Arr} {τs : List Nat} {v' : Value} {F' : List Nat} {row : Option Nat} {tm : List (Nat × V)} {a' : Act}
    (hnd : τ < 1000000) (hl : ∀ κ ∈ τs, ∃ B, σ.ar.lookup κ = some (some B) ∧ κ < 1000000) (hτ : τ ∉ τs) (hg : w.grownBy w' row)
    (hrow : ∀ b, row = some b → ∃ A, σ.ar.lookup τ = some (some A) ∧ (e.ρ τ).ownBlock = some b)
    (hold : ∀ A, σ.ar.lookup τ = some A → ∃ B, A = some B ∧ B.es.length ≤ A'.es.length ∧ (A'.es.length = B.es.length → v' = e.ρ τ))
    (htop : ∀ b, v'.ownBlock = some b → (∃ A, σ.ar.lookup τ = some (some A) ∧ (e.ρ τ).ownBlock = some b) ∨ w.heap.size ≤ b)
    (hF : ∀ b ∈ F', (∃ A, σ.ar.lookup τ = some (some A) ∧ b ∈ e.φ τ) ∨ (∃ κ ∈ τs, b ∈ e.φ κ) ∨ w.heap.size ≤ b)
    (hok : ArrOk N (Mut (envA e τ v' F') (stA σ tm τ A' τs)) w' A' v' F')
    (hnt : a'.tmps.size = σ.nt) (hdf : a'.defers = [])
    (htm : Up e σ w (envA e τ v' F') (stA σ tm τ A' τs) w' → ∀ t x, tm.lookup t = some x → (σ.tm.lookup t = some x ∧ a'.tmps.getD t undef = a.tmps.getD t undef) ∨ x.rel (envA e τ v' F') (stA σ tm τ A' τs) w' (a'.tmps.getD t undef)) :
    SimE N w0 (envA e τ v' F') (stA σ tm τ A' τs) a' w' := by
  have rowMut : ∀ b, row = some b → Mut e σ b := fun b hb => by obtain ⟨A, h1, h2⟩ := hrow b hb; exact .inr (.inr ⟨τ, A, h1, h2⟩)
  have u : Up e σ w (envA e τ v' F') (stA σ tm τ A' τs) w' := by
    refine ⟨hg.size, fun b hb hm => hg.block b hb (fun e => hm (rowMut b e.symm)), fun b hb hm => ?_, fun k cs hk => ⟨⟨cs, hk⟩, rfl⟩, fun κ B hB => ?_⟩
    · rcases mut_after hm with h1 | h1
      · rcases htop b h1 with ⟨B, h2, h3⟩ | h2
        · exact .inr (.inr ⟨τ, B, h2, h3⟩)
        · omega
      · rcases h1 with h0 | ⟨k, cs, h1, h2⟩ | ⟨κ, B, _, _, h1, h2⟩
        · exact .inl h0
        · exact .inr (.inl ⟨k, cs, h1, h2⟩)
        · exact .inr (.inr ⟨κ, B, h1, h2⟩)
    · rw [stA_lookup]
      by_cases h1 : κ = τ
      · subst h1
        rw [if_pos rfl]
        obtain ⟨B', k1, k2, k3⟩ := hold B hB
        refine ⟨_, rfl, fun C hC => ⟨B', k1, ?_⟩⟩
        obtain rfl := Option.some.inj hC
        exact ⟨k2, fun hn => by simp only [envA, if_true]; exact k3 hn⟩
      · rw [if_neg h1]
        by_cases h2 : κ ∈ τs
        · rw [if_pos h2]; exact ⟨none, rfl, by simp⟩
        · rw [if_neg h2]
          exact ⟨B, hB, fun C hC => ⟨C, hC, Nat.le_refl _, fun _ => by simp [envA, h1]⟩⟩
  refine h.turn u (fun κ => κ = .a τ) hnt hdf (htm u) (fun k cs hk _ => ⟨hk, ?_⟩) (fun κ B hB hK => ?_) (fun k cs _ hK => by cases hK) (fun κ B hB hK => ?_) (fun κ hl' hK b hb => ?_) (fun κ κ' _ _ hne h1 h2 => absurd (h1.trans h2.symm) hne)
    (h.fr.grown hg fun b hb => by obtain ⟨A, h1, h2⟩ := hrow b hb; exact ((h.ar τ A h1).own h2).2.1) (fun _ h => h) (fun _ h => .inl h) (fun κ _ hK hd => by subst hK; have : 1000000 ≤ τ := hd; omega)
  · refine hg.block _ (h.blk_lt (κ := .b k) ⟨cs, hk⟩ _ (by simp [blk])).1 (fun e' => ?_)
    obtain ⟨A, h1, h2⟩ := hrow _ e'.symm
    exact h.sep (.b k) (.a τ) ⟨cs, hk⟩ ⟨A, h1⟩ (by simp) (e.β k) (by simp [blk]) ((h.ar τ A h1).own h2).1
  · have h1 : κ ≠ τ := fun e' => hK (by rw [e'])
    rw [stA_lookup, if_neg h1] at hB
    by_cases h2 : κ ∈ τs
    · rw [if_pos h2] at hB; cases hB
    · rw [if_neg h2] at hB
      refine ⟨hB, by simp [envA, h1], by simp [envA, h1], fun b hb => hg.block b (h.blk_lt (κ := .a κ) ⟨B, hB⟩ b hb).1 (fun e' => ?_)⟩
      obtain ⟨A, h3, h4⟩ := hrow b e'.symm
      exact h.sep (.a κ) (.a τ) ⟨B, hB⟩ ⟨A, h3⟩ (by simp [h1]) b hb ((h.ar τ A h3).own h4).1
  · injection hK with hK
    subst hK
    rw [stA_lookup, if_pos rfl] at hB
    obtain rfl := Option.some.inj (Option.some.inj hB)
    simp only [envA, if_true]
    exact hok
  · subst hK
    simp only [blk, envA, if_true] at hb
    rcases hF b hb with ⟨A, h1, h2⟩ | ⟨κ, h1, h2⟩ | h1
    · exact .inl ⟨⟨A, h1⟩, h2⟩
    · obtain ⟨B, hB, hBd⟩ := hl κ h1
      refine .inr (.inl ⟨.a κ, .inl ?_, ⟨B, hB⟩, h2, fun hdk => ?_⟩)
      rotate_left
      · have : 1000000 ≤ κ := hdk
        omega
      rintro ⟨C, hC⟩
      rw [stA_lookup, if_neg (by rintro rfl; exact hτ h1), if_pos h1] at hC
      cases hC
    · exact .inr (.inr h1)
end

end Go.Proofs.Ytopjlbifglacpaa.Am
