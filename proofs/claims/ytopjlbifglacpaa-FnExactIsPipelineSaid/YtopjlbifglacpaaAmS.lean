/- Walks over a function's text told as plain data: regions, branches, loops, the way in and the way out. -/
import Derived.Test.YtopjlbifglacpaaAmR
import Derived.LoopN
set_option linter.unusedSimpArgs false
set_option linter.unusedVariables false
namespace Go.Proofs.Ytopjlbifglacpaa.Am
open Go.RowKit

def stepE (P : Program) (σ : St) (o : Oper) : Option Eff :=
  match valOp P σ o.op with
  | some (x, s) => match o.dst with
    | some d => if d < σ.nt then some ⟨s, [(d, x)], [], []⟩ else none
    | none => some ⟨s, [], [], []⟩
  | none => memOp P σ o.dst o.op

def callOf : Op → Option (Nat × List Operand)
  | .call { callee := .value (.func f), args := xs, argTypes := _ } => some (f, xs.toList)
  | _ => none

def yld (σ : St) (ops : Array Oper) (j : Nat) (want : Bool) : Option Bool :=
  match (ops[j]?).bind (·.dst) with
  | some d => match σ.tm.lookup d with
    | some (.one (.l (.bool b))) => some b
    | some .dead => some (!want)
    | _ => none
  | none => none

def St.kill (σ : St) : Option Nat → St
  | some d => { σ with tm := (d, .dead) :: σ.tm }
  | none => σ

mutual
/-- The operations one after another. -/
def awpOps (P : Program) (ops : Array Oper) : List Oper → St → (St → Prop) → Prop
  | [], σ, K => K σ
  | o :: rest, σ, K => match o.guard with
    | none => match callOf o.op with
      | some (f, xs) => match (opds σ xs).bind (datVs σ) with
        | some (ds, pu, p) => p ∧ ∃ fr dp rs, Ctr P f ds fr rs ∧ (fr = false → pu = true) ∧ (match callEff σ o.dst fr dp rs with | some g => g.side ∧ awpOps P ops rest (σ.app g) K | none => False)
        | none => False
      | none => match stepE P σ o with | some g => g.side ∧ awpOps P ops rest (σ.app g) K | none => False
    | some (j, want) => match yld σ ops j want with
      | some b => (b = want → match callOf o.op with
        | some (f, xs) => match (opds σ xs).bind (datVs σ) with
          | some (ds, pu, p) => p ∧ ∃ fr dp rs, Ctr P f ds fr rs ∧ (fr = false → pu = true) ∧ (match callEff σ o.dst fr dp rs with | some g => g.side ∧ awpOps P ops rest (σ.app g) K | none => False)
          | none => False
        | none => match stepE P σ o with | some g => g.side ∧ awpOps P ops rest (σ.app g) K | none => False) ∧
        ((!b) = want → awpOps P ops rest (σ.kill o.dst) K)
      | none => False
end

/-- What follows an operation's effect. -/
def aNext (P : Program) (ops : Array Oper) (rest : List Oper) (σ : St) (K : St → Prop) : Option Eff → Prop
  | some g => g.side ∧ awpOps P ops rest (σ.app g) K
  | none => False
def aCall (P : Program) (ops : Array Oper) (o : Oper) (rest : List Oper) (σ : St) (K : St → Prop) (f : Nat) : Option (List DV × Bool × Prop) → Prop
  | some (ds, pu, p) => p ∧ ∃ fr dp rs, Ctr P f ds fr rs ∧ (fr = false → pu = true) ∧ aNext P ops rest σ K (callEff σ o.dst fr dp rs)
  | none => False
def aRun (P : Program) (ops : Array Oper) (o : Oper) (rest : List Oper) (σ : St) (K : St → Prop) : Option (Nat × List Operand) → Prop
  | some (f, xs) => aCall P ops o rest σ K f ((opds σ xs).bind (datVs σ))
  | none => aNext P ops rest σ K (stepE P σ o)
def aGuard (P : Program) (ops : Array Oper) (o : Oper) (rest : List Oper) (σ : St) (K : St → Prop) (want : Bool) : Option Bool → Prop
  | some b => (b = want → aRun P ops o rest σ K (callOf o.op)) ∧ ((!b) = want → awpOps P ops rest (σ.kill o.dst) K)
  | none => False

section
variable {P : Program} {ops : Array Oper} {σ : St} {K : St → Prop} {o : Oper} {rest : List Oper}
theorem awpOps_nil : awpOps P ops [] σ K = K σ := by unfold awpOps; rfl
theorem awpOps_plain (d : Option Nat) (op : Op) (ty : Nat) (pos : String) (af : Array Edge) : awpOps P ops (⟨d, op, ty, pos, af, none⟩ :: rest) σ K = aRun P ops ⟨d, op, ty, pos, af, none⟩ rest σ K (callOf op) := by
  rw [awpOps]
  simp only [aRun, aCall, aNext]
theorem awpOps_guard (d : Option Nat) (op : Op) (ty : Nat) (pos : String) (af : Array Edge) (j : Nat) (want : Bool) : awpOps P ops (⟨d, op, ty, pos, af, some (j, want)⟩ :: rest) σ K = aGuard P ops ⟨d, op, ty, pos, af, some (j, want)⟩ rest σ K want (yld σ ops j want) := by
  rw [awpOps]
  simp only [aGuard, aRun, aCall, aNext]
end

/-- An operation's step, as a relation. -/
inductive Ev (P : Program) (σ : St) (o : Oper) : Eff → Prop where
  | step (g : Eff) (h : stepE P σ o = some g) (hs : g.side) : Ev P σ o g
  | call (f : Nat) (xs : List Operand) (vs : List V) (ds : List DV) (pu : Bool) (p : Prop) (fr dp : Bool) (rs : List DV) (g : Eff) (h1 : callOf o.op = some (f, xs)) (h2 : opds σ xs = some vs) (h3 : datVs σ vs = some (ds, pu, p)) (h4 : p) (h5 : Ctr P f ds fr rs) (h6 : fr = false → pu = true) (h7 : callEff σ o.dst fr dp rs = some g) : Ev P σ o g

section
variable {e : Env} {σ : St} {w : World} {N : Nat → Prop} {w0 : Bs} {a : Act} {P : Program} {ops : Array Oper}

theorem app_nil (σ : St) (s : Prop) : σ.app ⟨s, [], [], []⟩ = σ := rfl

theorem Ev.sound {o : Oper} {g : Eff} (he : Ev P σ o g) (h : SimE N w0 e σ a w) {K : Act → World → Prop} {Q : Exit → Act → World → Prop} (hK : ∀ a' w', Sim N w0 (σ.app g) a' w' → K a' w') : o.wp P a w K Q := by
  cases he with
  | step g h1 hs =>
    unfold stepE at h1
    split at h1
    · rename_i x s hv
      split at h1
      · rename_i d hd
        split at h1
        · rename_i hlt
          obtain rfl := Option.some.inj h1
          obtain ⟨u, k1, k2⟩ := valOp_sound h hv hs
          unfold Oper.wp
          rw [k1, Oper.upon_value, hd]
          exact hK _ _ ⟨e, h.put hlt k2⟩
        · cases h1
      · rename_i hd
        obtain rfl := Option.some.inj h1
        obtain ⟨u, k1, k2⟩ := valOp_sound h hv hs
        unfold Oper.wp
        rw [k1, Oper.upon_value, hd]
        exact hK _ _ ⟨e, h⟩
    · obtain ⟨w', e', ⟨u, k1, k2⟩ | ⟨k1, k2⟩⟩ := memOp_sound h h1 hs
      · unfold Oper.wp
        rw [k1, Oper.upon_value]
        exact hK _ _ ⟨e', k2⟩
      · unfold Oper.wp
        rw [k1, Oper.upon_skip]
        exact hK _ _ ⟨e', k2⟩
  | call f xs vs ds pu p fr dp rs g h1 h2 h3 h4 h5 h6 h7 =>
    unfold callOf at h1
    split at h1
    · rename_i f' xs' ts ho
      obtain ⟨rfl, rfl⟩ := Prod.mk.inj (Option.some.inj h1)
      exact call_sound h ho h2 h3 h4 h5 h6 h7 fun e' a' w' hs => hK _ _ ⟨e', hs⟩
    · cases h1

theorem yld_sound (h : SimE N w0 e σ a w) {j : Nat} {b want : Bool} (hy : yld σ ops j want = some b) : (yielded ops a.tmps j == some want) = (b == want) := by
  unfold yld at hy
  split at hy
  · rename_i d hd
    split at hy
    · rename_i b' hb
      obtain rfl := Option.some.inj hy
      obtain ⟨F, h1, _⟩ := h.tm d _ hb
      simp only [Rp] at h1
      unfold yielded
      rw [hd]
      simp only [Option.bind_some]
      have h2 := h1.1
      rw [Array.getD_eq_getD_getElem?] at h2
      cases hq : a.tmps[d]? with
      | none => rw [hq] at h2; simp [undef] at h2
      | some v => rw [hq] at h2; simp at h2; subst h2; cases b' <;> cases want <;> rfl
    · rename_i hb
      obtain rfl := Option.some.inj hy
      have h2 : a.tmps.getD d undef = undef := h.tm d _ hb
      unfold yielded
      rw [hd]
      simp only [Option.bind_some]
      rw [Array.getD_eq_getD_getElem?] at h2
      cases hq : a.tmps[d]? with
      | none => cases want <;> rfl
      | some v => rw [hq] at h2; simp at h2; subst h2; cases want <;> rfl
    · cases hy
  · cases hy

theorem SimE.kill (h : SimE N w0 e σ a w) (d : Option Nat) : SimE N w0 e (σ.kill d) (a.put d undef) w := by
  cases d with
  | none => exact h
  | some d => exact h.put_dead

theorem awpOps_sound {Q : Exit → Act → World → Prop} : ∀ {l : List Oper} {σ : St} {K : St → Prop}, awpOps P ops l σ K → ∀ {a : Act} {w : World}, Sim N w0 σ a w → (∀ σ' a' w', K σ' → Sim N w0 σ' a' w' → Q .normal a' w') → wpList P ops Q l a w
  | [], σ, K, h, a, w, hs, hQ => hQ _ _ _ (by simpa [awpOps_nil] using h) hs
  | ⟨d, op, ty, pos, af, gd⟩ :: rest, σ, K, h, a, w, ⟨e, hs⟩, hQ => by
    have run : aRun P ops ⟨d, op, ty, pos, af, gd⟩ rest σ K (callOf op) → ∀ K' : Act → World → Prop, (∀ a w, wpList P ops Q rest a w → K' a w) → (Oper.mk d op ty pos af gd).wp P a w K' Q := by
      intro hr K' hK'
      have fin : ∀ g : Eff, Ev P σ ⟨d, op, ty, pos, af, gd⟩ g → awpOps P ops rest (σ.app g) K → (Oper.mk d op ty pos af gd).wp P a w K' Q :=
        fun g hev hrest => hev.sound hs fun a' w' hs' => hK' _ _ (awpOps_sound hrest hs' hQ)
      unfold aRun at hr
      split at hr
      · rename_i f xs hc
        unfold aCall at hr
        split at hr
        · rename_i ds pu p hd
          obtain ⟨hp, fr, dp, rs, h5, h6, h7⟩ := hr
          unfold aNext at h7
          split at h7
          · rename_i g hg
            obtain ⟨vs, hvs, hd⟩ := Option.bind_eq_some_iff.1 hd
            exact fin g (.call f xs vs ds pu p fr dp rs g hc hvs hd hp h5 h6 hg) h7.2
          · exact h7.elim
        · exact hr.elim
      · unfold aNext at hr
        split at hr
        · rename_i g hg
          exact fin g (.step g hg hr.1) hr.2
        · exact hr.elim
    refine wpList_step fun K' hK' => ?_
    cases gd with
    | none =>
      rw [awpOps_plain] at h
      simp only [Region.wanted, if_true]
      exact run h K' hK'
    | some g =>
      obtain ⟨j, want⟩ := g
      rw [awpOps_guard] at h
      unfold aGuard at h
      split at h
      · rename_i b hy
        have hy' := yld_sound hs hy
        by_cases hb : b = want
        · have : Region.wanted (Oper.mk d op ty pos af (some (j, want))) (yielded ops a.tmps) = true := by
            show (yielded ops a.tmps j == some want) = true
            rw [hy']; simp [hb]
          rw [if_pos this]
          exact run (h.1 hb) K' hK'
        · have : Region.wanted (Oper.mk d op ty pos af (some (j, want))) (yielded ops a.tmps) = false := by
            show (yielded ops a.tmps j == some want) = false
            rw [hy']; simp [hb]
          rw [if_neg (by simp [this])]
          exact hK' _ _ (awpOps_sound (h.2 (by cases b <;> cases want <;> simp_all)) ⟨e, hs.kill d⟩ hQ)
      · exact h.elim
end

/-- The code, walked from the state: each way it ends is as Q says. -/
def AW (P : Program) (N : Nat → Prop) (w0 : Bs) (c : Code) (Q : Exit → St → Prop) (σ : St) : Prop :=
  ∀ a w, Sim N w0 σ a w → c.wp P (fun e a w => ∃ σ', Q e σ' ∧ Sim N w0 σ' a w) a w

def thenK (K : St → Prop) (Q : Exit → St → Prop) : Exit → St → Prop
  | .normal, σ => K σ
  | e, σ => Q e σ
def inB (id : Nat) (Q : Exit → St → Prop) : Exit → St → Prop
  | .exit j, σ => if j = id then Q .normal σ else Q (.exit j) σ
  | e, σ => Q e σ

/-- What a state keeps of another. -/
def okC (σ : St) : CV → Bool
  | .l _ | .nil | .adr _ => true
  | .own τ _ => (σ.ar.lookup τ).isSome
  | .elt τ _ _ _ _ => (σ.ar.lookup τ).isSome
  | .box k _ => (σ.bx.lookup k).isSome
def okV (σ : St) : V → Bool
  | .one c => okC σ c
  | .agg cs => cs.all (okC σ)
  | .tup ps => ps.all fun p => p.2.all (okC σ)
  | .dead => true
def St.closed (σ : St) : Bool := σ.tm.all (fun p => okV σ p.2) && σ.bx.all (fun p => p.2.all (okC σ))

structure Keeps (σ' σ : St) : Prop where
  nt : σ'.nt = σ.nt
  tm : ∀ p ∈ σ'.tm, σ.tm.lookup p.1 = some p.2
  bx : ∀ p ∈ σ'.bx, σ.bx.lookup p.1 = some p.2
  ar : ∀ p ∈ σ'.ar, σ.ar.lookup p.1 = some p.2
  cl : σ'.closed = true

theorem lookup_mem {α : Type} : ∀ {l : List (Nat × α)} {k : Nat} {v : α}, l.lookup k = some v → (k, v) ∈ l
  | [], _, _, h => by simp at h
  | (j, u) :: l, k, v, h => by
    rw [lookup_cons] at h
    by_cases hk : k = j
    · subst hk
      rw [if_pos rfl] at h
      obtain rfl := Option.some.inj h
      simp
    · rw [if_neg hk] at h
      exact List.mem_cons_of_mem _ (lookup_mem h)

section
variable {e : Env} {σ σ' : St} {w : World} {N : Nat → Prop} {w0 : Bs} {a : Act} {P : Program}

theorem Keeps.mut (k : Keeps σ' σ) {b : Nat} (h : Mut e σ' b) : Mut e σ b := by
  rcases h with h | ⟨j, cs, h1, h2⟩ | ⟨τ, A, h1, h2⟩
  · exact .inl h
  · exact .inr (.inl ⟨j, cs, k.bx _ (lookup_mem h1), h2⟩)
  · exact .inr (.inr ⟨τ, A, k.ar _ (lookup_mem h1), h2⟩)
theorem Keeps.rel (k : Keeps σ' σ) {c : CV} {v : Value} (h : c.rel e σ w v) (hc : okC σ' c = true) : c.rel e σ' w v := by
  cases c with
  | l x => obtain ⟨F, h1, h2⟩ := h; exact ⟨F, h1, fun b hb hm => h2 b hb (k.mut hm)⟩
  | nil => exact h
  | own τ n =>
    obtain ⟨A, h1, h2⟩ := h
    simp only [okC] at hc
    obtain ⟨A', hA'⟩ := Option.isSome_iff_exists.1 hc
    have := k.ar _ (lookup_mem hA')
    simp only at this
    rw [h1] at this
    obtain rfl := Option.some.inj this
    exact ⟨_, hA', h2⟩
  | box j off =>
    simp only [okC] at hc
    obtain ⟨cs, hcs⟩ := Option.isSome_iff_exists.1 hc
    exact ⟨⟨cs, hcs⟩, h.2⟩
  | adr ls =>
    obtain ⟨b, off, vs, F, h1, h2, h3, h4, h5, h6⟩ := h
    exact ⟨b, off, vs, F, h1, h2, h3, h4, fun hm => h5 (k.mut hm), fun x hx hm => h6 x hx (k.mut hm)⟩
  | elt τ n i W off =>
    obtain ⟨A, h1, h2⟩ := h
    simp only [okC] at hc
    obtain ⟨A', hA'⟩ := Option.isSome_iff_exists.1 hc
    have := k.ar _ (lookup_mem hA')
    simp only at this
    rw [h1] at this
    obtain rfl := Option.some.inj this
    exact ⟨_, hA', h2⟩
theorem Keeps.relL (k : Keeps σ' σ) : ∀ {cs : List CV} {vs : List Value}, relL e σ w cs vs → cs.all (okC σ') = true → relL e σ' w cs vs
  | [], _, h, _ => h
  | c :: cs, _, h, hc => by
    simp only [Am.relL] at h ⊢
    obtain ⟨v, vs', h0, h1, h2⟩ := h
    simp only [List.all_cons, Bool.and_eq_true] at hc
    exact ⟨v, vs', h0, k.rel h1 hc.1, k.relL h2 hc.2⟩
theorem Keeps.pts (k : Keeps σ' σ) : ∀ {ps : List (Bool × List CV)} {vs : List Value}, ptsRel e σ w ps vs → ps.all (fun p => p.2.all (okC σ')) = true → ptsRel e σ' w ps vs
  | [], _, h, _ => h
  | (b, cs) :: ps, _, h, hc => by
    simp only [ptsRel] at h ⊢
    obtain ⟨v, vs', h0, h1, h2⟩ := h
    simp only [List.all_cons, Bool.and_eq_true] at hc
    refine ⟨v, vs', h0, ?_, k.pts h2 hc.2⟩
    cases b
    · obtain ⟨c, rfl, h1⟩ := h1
      exact ⟨c, rfl, k.rel h1 (by simpa using hc.1)⟩
    · obtain ⟨us, rfl, h1⟩ := h1
      exact ⟨us, rfl, k.relL h1 hc.1⟩
theorem Keeps.relV (k : Keeps σ' σ) {x : V} {v : Value} (h : x.rel e σ w v) (hc : okV σ' x = true) : x.rel e σ' w v := by
  cases x with
  | one c => exact k.rel h hc
  | agg cs => obtain ⟨vs, h0, h1⟩ := h; exact ⟨vs, h0, k.relL h1 hc⟩
  | tup ps => obtain ⟨vs, h0, h1⟩ := h; exact ⟨vs, h0, k.pts h1 hc⟩
  | dead => exact h
theorem Keeps.sim (k : Keeps σ' σ) (h : Sim N w0 σ a w) : Sim N w0 σ' a w := by
  obtain ⟨e, h⟩ := h
  have hcl := k.cl
  simp only [St.closed, Bool.and_eq_true, List.all_eq_true] at hcl
  have hlive : ∀ κ, live σ' κ → live σ κ := by
    intro κ hl
    cases κ with
    | b j => obtain ⟨cs, h1⟩ := hl; exact ⟨cs, k.bx _ (lookup_mem h1)⟩
    | a τ => obtain ⟨A, h1⟩ := hl; exact ⟨A, k.ar _ (lookup_mem h1)⟩
  refine ⟨e, ⟨by rw [h.nt, k.nt], h.df, fun t v ht => ?_, fun j cs hj => ?_, fun τ A hA => ?_, fun κ κ' hl hl' hne => h.sep κ κ' (hlive κ hl) (hlive κ' hl') hne, h.fr, ⟨h.bad.1, fun b hb => ⟨(h.bad.2 b hb).1, fun κ hl => (h.bad.2 b hb).2 κ (hlive κ hl)⟩⟩, fun κ hl => h.dk κ (hlive κ hl)⟩⟩
  · exact k.relV (h.tm t v (k.tm _ (lookup_mem ht))) (hcl.1 _ (lookup_mem ht))
  · obtain ⟨h1, cur, ty, h2, h3⟩ := h.bx j cs (k.bx _ (lookup_mem hj))
    exact ⟨h1, cur, ty, h2, k.relL h3 (List.all_eq_true.2 (hcl.2 _ (lookup_mem hj)))⟩
  · obtain ⟨p, c, hv, hc, h4 | ⟨b, t, cur, Fs, W, q1, q2, q3, q4, q5, q6, q7, q8⟩⟩ := h.ar τ A (k.ar _ (lookup_mem hA))
    · exact ⟨p, c, hv, hc, .inl h4⟩
    · refine ⟨p, c, hv, hc, .inr ⟨b, t, cur, Fs, W, q1, q2, q3, q4, q5, q6, q7, ?_⟩⟩
      rcases q8 with q8 | ⟨g1, g2, g3, g4⟩
      · exact .inl q8
      · exact .inr ⟨g1, g2, g3, fun x hx hm => g4 x hx (k.mut hm)⟩

variable {Q : Exit → St → Prop} {x y c : Code}

theorem AW.mono {Q' : Exit → St → Prop} (h : AW P N w0 c Q σ) (hq : ∀ e σ, Q e σ → Q' e σ) : AW P N w0 c Q' σ := fun a w hs => Code.wp_mono (fun _ _ _ ⟨σ', h1, h2⟩ => ⟨σ', hq _ _ h1, h2⟩) (h a w hs)
theorem AW_weak (k : Keeps σ' σ) (h : AW P N w0 c Q σ') : AW P N w0 c Q σ := fun a w hs => h a w (k.sim hs)
theorem AW_skip (h : Q .normal σ) : AW P N w0 .skip Q σ := fun _ _ hs => wp_skip ⟨σ, h, hs⟩
theorem AW_exit {id : Nat} (h : Q (.exit id) σ) : AW P N w0 (.exit id) Q σ := fun _ _ hs => wp_exit ⟨σ, h, hs⟩
theorem AW_ret (h : Q .ret σ) : AW P N w0 .ret Q σ := fun _ _ hs => wp_ret ⟨σ, h, hs⟩
theorem AW_seq (h : ∀ K : St → Prop, (∀ σ, AW P N w0 y Q σ → K σ) → AW P N w0 x (thenK K Q) σ) : AW P N w0 (.seq x y) Q σ := fun a w hs =>
  wp_seq (Code.wp_mono (fun e a w ⟨σ', h1, h2⟩ => by
    cases e <;> first | exact h1 a w h2 | exact ⟨σ', h1, h2⟩) (h (fun σ => AW P N w0 y Q σ) (fun _ h => h) a w hs))
theorem AW_block {id : Nat} (h : AW P N w0 c (inB id Q) σ) : AW P N w0 (.block id c) Q σ := fun a w hs =>
  wp_block (Code.wp_mono (fun e a w ⟨σ', h1, h2⟩ => by
    cases e with
    | exit j =>
      simp only [Exit.inBlock]
      simp only [inB] at h1
      split
      · rename_i hj; rw [if_pos hj] at h1; exact ⟨σ', h1, h2⟩
      · rename_i hj; rw [if_neg hj] at h1; exact ⟨σ', h1, h2⟩
    | _ => exact ⟨σ', h1, h2⟩) (h a w hs))
theorem AW_cond {o : Operand} {b : Bool} (ho : opd σ o = some (.one (.l (.bool b)))) (ht : b = true → AW P N w0 x Q σ) (hf : b = false → AW P N w0 y Q σ) : AW P N w0 (.cond o x y) Q σ := fun a w ⟨e, hs⟩ =>
  wp_cond_split (bool_of hs ho) (fun h => ht h a w ⟨e, hs⟩) (fun h => hf h a w ⟨e, hs⟩)
theorem AW_region {id : Nat} {l : List Oper} (h : awpOps P l.toArray l σ (fun σ' => Q .normal σ')) : AW P N w0 (.region id l.toArray false) Q σ := fun a w hs =>
  wp_region_lit (awpOps_sound h hs fun σ' _ _ h1 h2 => ⟨σ', h1, h2⟩)
theorem AW_loop {ι : Type} (S : ι → St) (I : ι → Prop) (μ : ι → Nat) (i0 : ι) (h0 : I i0) (hk : Keeps (S i0) σ) (body : ∀ i, I i → AW P N w0 c (thenK (fun σ' => ∃ i', (I i' ∧ μ i' < μ i) ∧ Keeps (S i') σ') Q) (S i)) : AW P N w0 (.loop c) Q σ := by
  have key : ∀ n i a w, μ i < n → I i → Sim N w0 (S i) a w → Code.rounds P c (fun e a w => ∃ σ', Q e σ' ∧ Sim N w0 σ' a w) n a w := by
    intro n
    induction n with
    | zero => intro i a w hn; omega
    | succ n ih =>
      intro i a w hn hI hsim
      rw [rounds_succ]
      refine Code.wp_mono (fun e a' w' hq => ?_) (body i hI a w hsim)
      obtain ⟨σ', h1, h2⟩ := hq
      cases e with
      | normal =>
        obtain ⟨i', ⟨hI', hlt⟩, hk'⟩ := h1
        exact ih i' a' w' (by omega) hI' (hk'.sim h2)
      | _ => exact ⟨σ', h1, h2⟩
  intro a w hs
  exact wp_loop_rounds (μ i0 + 1) (key _ i0 a w (by omega) h0 (hk.sim hs))
end

end Go.Proofs.Ytopjlbifglacpaa.Am
