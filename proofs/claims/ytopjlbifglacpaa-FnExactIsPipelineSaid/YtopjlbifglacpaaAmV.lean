/- Statements whose order Go leaves open: one walk in the order of the text serves every order, where what may come in either order keeps apart. -/
import Derived.Test.YtopjlbifglacpaaAmU
import Derived.Orders
set_option linter.unusedSimpArgs false
set_option linter.unusedVariables false
namespace Go.Proofs.Ytopjlbifglacpaa.Am
open Go.RowKit

/-- Effects one after another, the latest first. -/
def appR (σ0 : St) : List (Nat × Eff) → St
  | [] => σ0
  | g :: L => (appR σ0 L).app g.2

def keysOf {α : Type} (l : List (Nat × α)) : List Nat := l.map (·.1)

/-- The state that operation i may rely on. -/
def view (σ0 : St) (es : List (Nat × Eff)) (A : List Nat) : St := appR σ0 (es.filter fun p => A.contains p.1)

def touch (g : Eff) (σ : St) : Bool := g.tm.any (fun p => (σ.tm.lookup p.1).isSome) || g.bx.any (fun p => (σ.bx.lookup p.1).isSome) || g.ar.any (fun p => (σ.ar.lookup p.1).isSome)
def apart (g h : Eff) : Bool := g.tm.all (fun p => !(keysOf h.tm).contains p.1) && g.bx.all (fun p => !(keysOf h.bx).contains p.1) && g.ar.all (fun p => !(keysOf h.ar).contains p.1)

/-- What may come in either order keeps apart. -/
def dOk (σ0 : St) (A : List (List Nat)) (es : List (Nat × Eff)) : Bool :=
  es.all fun p => es.all fun q => p.1 == q.1 || (A.getD p.1 []).contains q.1 || (A.getD q.1 []).contains p.1 || (apart q.2 p.2 && !touch q.2 (view σ0 es (A.getD p.1 [])))

/-- The lists say, for each operation, all that comes ahead of it. -/
def depsOk (l : List Oper) (A : List (List Nat)) : Bool :=
  l.length == A.length && (l.zip A).zipIdx.all fun ((o, d), i) =>
    (o.after.toList.all fun e => !Region.binds .any e || (d.contains e.on && decide (e.on < i))) &&
    d.all fun k => o.after.toList.any fun e => Region.binds .any e && (e.on == k || (A.getD e.on []).contains k)

inductive EvG (P : Program) (ops : Array Oper) (σ : St) (o : Oper) : Eff → Prop where
  | plain (g : Eff) (hg : o.guard = none) (h : Ev P σ o g) : EvG P ops σ o g
  | yes (g : Eff) (j : Nat) (want : Bool) (hg : o.guard = some (j, want)) (hy : yld σ ops j want = some want) (h : Ev P σ o g) : EvG P ops σ o g
  | no (j : Nat) (want : Bool) (hg : o.guard = some (j, want)) (hy : yld σ ops j want = some (!want)) : EvG P ops σ o ⟨True, match o.dst with | some d => [(d, .dead)] | none => [], [], []⟩

section
variable (P : Program) (ops : Array Oper) (σ0 : St) (K : St → Prop) (B : List (List Nat))
/-- The walk. -/
def awpD : List (List Nat) → List Oper → Nat → List (Nat × Eff) → Prop
  | A :: As, o :: rest, i, es => ∃ g, EvG P ops (view σ0 es A) o g ∧ awpD As rest (i + 1) ((i, g) :: es)
  | _, [], _, es => dOk σ0 B es = true ∧ K (appR σ0 es)
  | _, _, _, _ => False

def dNext (As : List (List Nat)) (rest : List Oper) (i : Nat) (es : List (Nat × Eff)) : Option Eff → Prop
  | some g => g.side ∧ awpD P ops σ0 K B As rest (i + 1) ((i, g) :: es)
  | none => False
def dCall (As : List (List Nat)) (o : Oper) (rest : List Oper) (i : Nat) (es : List (Nat × Eff)) (σ : St) (f : Nat) : Option (List DV × Bool × Prop) → Prop
  | some (ds, pu, p) => p ∧ ∃ fr dp rs, Ctr P f ds fr rs ∧ (fr = false → pu = true) ∧ dNext P ops σ0 K B As rest i es (callEff σ o.dst fr dp rs)
  | none => False
def dRun (As : List (List Nat)) (o : Oper) (rest : List Oper) (i : Nat) (es : List (Nat × Eff)) (σ : St) : Option (Nat × List Operand) → Prop
  | some (f, xs) => dCall P ops σ0 K B As o rest i es σ f ((opds σ xs).bind (datVs σ))
  | none => dNext P ops σ0 K B As rest i es (stepE P σ o)
def dGuard (As : List (List Nat)) (o : Oper) (rest : List Oper) (i : Nat) (es : List (Nat × Eff)) (σ : St) (want : Bool) : Option Bool → Prop
  | some b => if b = want then dRun P ops σ0 K B As o rest i es σ (callOf o.op) else dNext P ops σ0 K B As rest i es (some ⟨True, match o.dst with | some d => [(d, .dead)] | none => [], [], []⟩)
  | none => False
end

section
variable {P : Program} {ops : Array Oper} {σ0 : St} {K : St → Prop} {B : List (List Nat)}

theorem dRun_imp {As : List (List Nat)} {o : Oper} {rest : List Oper} {i : Nat} {es : List (Nat × Eff)} {σ : St} (h : dRun P ops σ0 K B As o rest i es σ (callOf o.op)) : ∃ g, Ev P σ o g ∧ awpD P ops σ0 K B As rest (i + 1) ((i, g) :: es) := by
  unfold dRun at h
  split at h
  · rename_i f xs hc
    unfold dCall at h
    split at h
    · rename_i ds pu p hd
      obtain ⟨hp, fr, dp, rs, h5, h6, h7⟩ := h
      unfold dNext at h7
      split at h7
      · rename_i g hg
        obtain ⟨vs, hvs, hd⟩ := Option.bind_eq_some_iff.1 hd
        exact ⟨g, .call f xs vs ds pu p fr dp rs g hc hvs hd hp h5 h6 hg, h7.2⟩
      · exact h7.elim
    · exact h.elim
  · unfold dNext at h
    split at h
    · rename_i g hg
      exact ⟨g, .step g hg h.1, h.2⟩
    · exact h.elim

theorem awpD_plain (A : List Nat) (As : List (List Nat)) (rest : List Oper) (i : Nat) (es : List (Nat × Eff)) (d : Option Nat) (op : Op) (ty : Nat) (pos : String) (af : Array Edge)
    (h : dRun P ops σ0 K B As ⟨d, op, ty, pos, af, none⟩ rest i es (view σ0 es A) (callOf op)) : awpD P ops σ0 K B (A :: As) (⟨d, op, ty, pos, af, none⟩ :: rest) i es := by
  obtain ⟨g, h1, h2⟩ := dRun_imp (o := ⟨d, op, ty, pos, af, none⟩) h
  exact ⟨g, .plain g rfl h1, h2⟩
theorem awpD_guard (A : List Nat) (As : List (List Nat)) (rest : List Oper) (i : Nat) (es : List (Nat × Eff)) (d : Option Nat) (op : Op) (ty : Nat) (pos : String) (af : Array Edge) (j : Nat) (want : Bool)
    (h : dGuard P ops σ0 K B As ⟨d, op, ty, pos, af, some (j, want)⟩ rest i es (view σ0 es A) want (yld (view σ0 es A) ops j want)) : awpD P ops σ0 K B (A :: As) (⟨d, op, ty, pos, af, some (j, want)⟩ :: rest) i es := by
  unfold dGuard at h
  split at h
  · rename_i b hy
    split at h
    · rename_i hb
      subst hb
      obtain ⟨g, h1, h2⟩ := dRun_imp (o := ⟨d, op, ty, pos, af, some (j, b)⟩) h
      exact ⟨g, .yes g j b rfl hy h1, h2⟩
    · rename_i hb
      obtain ⟨_, h⟩ := h
      refine ⟨_, .no j want rfl ?_, h⟩
      rw [hy]
      cases b <;> cases want <;> simp_all
  · exact h.elim
theorem awpD_nil (As : List (List Nat)) (i : Nat) (es : List (Nat × Eff)) (h : dOk σ0 B es = true) (hk : K (appR σ0 es)) : awpD P ops σ0 K B As [] i es := by
  cases As <;> exact ⟨h, hk⟩

theorem awpD_all : ∀ {As : List (List Nat)} {l : List Oper} {i : Nat} {es : List (Nat × Eff)}, awpD P ops σ0 K B As l i es → As.length = l.length →
    ∃ fs : List (Nat × Eff), fs.map (·.1) = (List.range' i l.length).reverse ∧ dOk σ0 B (fs ++ es) = true ∧ K (appR σ0 (fs ++ es)) ∧
      ∀ j o A, l[j]? = some o → As[j]? = some A → ∃ g, (i + j, g) ∈ fs ∧ EvG P ops (view σ0 ((fs.filter fun p => decide (p.1 < i + j)) ++ es) A) o g
  | _, [], i, es, h, hl => by
    have h' : dOk σ0 B es = true ∧ K (appR σ0 es) := by
      unfold awpD at h
      split at h
      · rename_i heq; cases heq
      · exact h
      · exact h.elim
    exact ⟨[], by simp, by simpa using h'.1, by simpa using h'.2, by simp⟩
  | [], o :: l, i, es, h, hl => by simp at hl
  | A :: As, o :: l, i, es, h, hl => by
    obtain ⟨g, h1, h2⟩ := h
    obtain ⟨fs, k1, k2, k3, k4⟩ := awpD_all h2 (by simpa using hl)
    have hkeys : ∀ p ∈ fs, i + 1 ≤ p.1 := by
      intro p hp
      have : p.1 ∈ fs.map (·.1) := List.mem_map.2 ⟨p, hp, rfl⟩
      rw [k1, List.mem_reverse, List.mem_range'_1] at this
      exact this.1
    refine ⟨fs ++ [(i, g)], ?_, by simpa using k2, by simpa using k3, ?_⟩
    · simp [k1, List.range'_succ]
    · intro j o' A' ho hA
      cases j with
      | zero =>
        simp only [List.getElem?_cons_zero, Option.some.injEq] at ho hA
        subst ho hA
        refine ⟨g, by simp, ?_⟩
        have : (fs ++ [(i, g)]).filter (fun p => decide (p.1 < i + 0)) = [] := by
          rw [List.filter_eq_nil_iff]
          intro p hp
          simp only [List.mem_append, List.mem_singleton] at hp
          rcases hp with hp | rfl
          · have := hkeys p hp; simp; omega
          · simp
        rw [this]
        exact h1
      | succ j =>
        obtain ⟨g', q1, q2⟩ := k4 j o' A' (by simpa using ho) (by simpa using hA)
        refine ⟨g', ?_, ?_⟩
        · rw [show i + (j + 1) = i + 1 + j by omega]; simp [q1]
        · rw [show i + (j + 1) = i + 1 + j by omega]
          have : (fs ++ [(i, g)]).filter (fun p => decide (p.1 < i + 1 + j)) ++ es = fs.filter (fun p => decide (p.1 < i + 1 + j)) ++ (i, g) :: es := by
            rw [List.filter_append, List.append_assoc]
            congr 1
            have : decide (i < i + 1 + j) = true := by simp; omega
            simp [this]
          rw [this]
          exact q2

theorem appR_tm (es : List (Nat × Eff)) : (appR σ0 es).tm = es.flatMap (fun p => p.2.tm) ++ σ0.tm := by
  induction es with
  | nil => rfl
  | cons p es ih => simp [appR, St.app, ih]
theorem appR_bx (es : List (Nat × Eff)) : (appR σ0 es).bx = es.flatMap (fun p => p.2.bx) ++ σ0.bx := by
  induction es with
  | nil => rfl
  | cons p es ih => simp [appR, St.app, ih]
theorem appR_ar (es : List (Nat × Eff)) : (appR σ0 es).ar = es.flatMap (fun p => p.2.ar) ++ σ0.ar := by
  induction es with
  | nil => rfl
  | cons p es ih => simp [appR, St.app, ih]
theorem appR_nt (es : List (Nat × Eff)) : (appR σ0 es).nt = σ0.nt := by
  induction es with
  | nil => rfl
  | cons p es ih => simp [appR, St.app, ih]

theorem lookup_append {α : Type} (l m : List (Nat × α)) (k : Nat) : (l ++ m).lookup k = (l.lookup k).or (m.lookup k) := by
  induction l with
  | nil => simp
  | cons p l ih =>
    obtain ⟨j, v⟩ := p
    simp only [List.cons_append, lookup_cons, ih]
    split <;> simp
theorem lookup_none_of {α : Type} {l : List (Nat × α)} {k : Nat} (h : k ∉ keysOf l) : l.lookup k = none := by
  induction l with
  | nil => rfl
  | cons p l ih =>
    obtain ⟨j, v⟩ := p
    simp only [keysOf, List.map_cons, List.mem_cons, not_or] at h
    rw [lookup_cons, if_neg h.1]
    exact ih h.2
theorem mem_keys_of {α : Type} {l : List (Nat × α)} {k : Nat} (h : l.lookup k ≠ none) : k ∈ keysOf l := by
  by_cases hk : k ∈ keysOf l
  · exact hk
  · exact absurd (lookup_none_of hk) h

section lists
variable {α : Type} (f : Nat × Eff → List (Nat × α))
theorem look_skip (base : List (Nat × α)) (sel : Nat × Eff → Bool) (k : Nat) : ∀ {L : List (Nat × Eff)}, (∀ p ∈ L, sel p = false → k ∉ keysOf (f p)) → (L.flatMap f ++ base).lookup k = ((L.filter sel).flatMap f ++ base).lookup k
  | [], _ => rfl
  | p :: L, h => by
    have ih := look_skip base sel k (L := L) fun q hq => h q (by simp [hq])
    simp only [List.flatMap_cons, List.append_assoc]
    rw [lookup_append, ih]
    cases hs : sel p
    · rw [lookup_none_of (h p (by simp) hs)]
      simp [hs]
    · rw [List.filter_cons_of_pos (by simp [hs]), List.flatMap_cons, List.append_assoc, lookup_append (f p)]
theorem look_swap (base : List (Nat × α)) (p : Nat × Eff) (k : Nat) : ∀ {L1 L2 : List (Nat × Eff)}, (∀ q ∈ L1, k ∈ keysOf (f p) → k ∉ keysOf (f q)) → ((L1 ++ p :: L2).flatMap f ++ base).lookup k = (f p ++ ((L1 ++ L2).flatMap f ++ base)).lookup k
  | [], L2, _ => by simp
  | q :: L1, L2, h => by
    have ih := look_swap base p k (L1 := L1) (L2 := L2) fun r hr => h r (by simp [hr])
    simp only [List.cons_append, List.flatMap_cons, List.append_assoc] at ih ⊢
    rw [lookup_append, ih, lookup_append (f p), lookup_append (f p), lookup_append (f q)]
    by_cases hk : k ∈ keysOf (f p)
    · rw [lookup_none_of (h q (by simp) hk)]; simp
    · rw [lookup_none_of hk]; simp
end lists

/-- States that say the same. -/
structure Eqv (σ σ' : St) : Prop where
  nt : σ'.nt = σ.nt
  tm : ∀ t, σ'.tm.lookup t = σ.tm.lookup t
  bx : ∀ t, σ'.bx.lookup t = σ.bx.lookup t
  ar : ∀ t, σ'.ar.lookup t = σ.ar.lookup t

theorem Eqv.sim {N : Nat → Prop} {w0 : Bs} {σ σ' : St} {a : Act} {w : World} (h : Eqv σ σ') (hs : Sim N w0 σ a w) : Sim N w0 σ' a w := by
  obtain ⟨e, hs⟩ := hs
  have hm : ∀ b, Mut e σ' b → Mut e σ b := by
    intro b hb
    rcases hb with hb | ⟨k, cs, h1, h2⟩ | ⟨τ, A, h1, h2⟩
    · exact .inl hb
    · exact .inr (.inl ⟨k, cs, by rw [← h.bx]; exact h1, h2⟩)
    · exact .inr (.inr ⟨τ, A, by rw [← h.ar]; exact h1, h2⟩)
  have u : Up e σ w e σ' w := ⟨Nat.le_refl _, fun _ _ _ => rfl, fun b _ hb => hm b hb, fun k cs hk => ⟨⟨cs, by rw [h.bx]; exact hk⟩, rfl⟩, fun τ A hA => ⟨A, by rw [h.ar]; exact hA, fun B hB => ⟨B, hB, Nat.le_refl _, fun _ => rfl⟩⟩⟩
  have hl : ∀ κ, live σ' κ → live σ κ := by
    intro κ hk
    cases κ with
    | b k => obtain ⟨cs, h1⟩ := hk; exact ⟨cs, by rw [← h.bx]; exact h1⟩
    | a τ => obtain ⟨A, h1⟩ := hk; exact ⟨A, by rw [← h.ar]; exact h1⟩
  refine ⟨e, ⟨by rw [hs.nt, h.nt], hs.df, fun t v ht => (hs.tm t v (by rw [← h.tm]; exact ht)).up u, fun k cs hk => ?_, fun τ A hA => (hs.ar τ A (by rw [← h.ar]; exact hA)).up u fun _ _ => rfl, fun κ κ' h1 h2 => hs.sep κ κ' (hl κ h1) (hl κ' h2), hs.fr, ⟨hs.bad.1, fun b hb => ⟨(hs.bad.2 b hb).1, fun κ h1 => (hs.bad.2 b hb).2 κ (hl κ h1)⟩⟩, fun κ h1 => hs.dk κ (hl κ h1)⟩⟩
  obtain ⟨h1, cur, ty, h2, h3⟩ := hs.bx k cs (by rw [← h.bx]; exact hk)
  exact ⟨h1, cur, ty, h2, h3.up u⟩

theorem Sim.drew {N : Nat → Prop} {w0 : Bs} {σ : St} {a : Act} {w : World} (hs : Sim N w0 σ a w) : Sim N w0 σ a { w with drawn := w.drawn + 1 } := by
  obtain ⟨e, hs⟩ := hs
  have u : Up e σ w e σ w.drew := ⟨Nat.le_refl _, fun _ _ _ => rfl, fun b _ hb => hb, fun k cs hk => ⟨⟨cs, hk⟩, rfl⟩, fun τ A hA => ⟨A, hA, fun B hB => ⟨B, hB, Nat.le_refl _, fun _ => rfl⟩⟩⟩
  refine ⟨e, ⟨hs.nt, hs.df, fun t v ht => (hs.tm t v ht).up u, fun k cs hk => ?_, fun τ A hA => (hs.ar τ A hA).up u fun _ _ => rfl, hs.sep, hs.fr.drew, hs.bad, hs.dk⟩⟩
  obtain ⟨h1, cur, ty, h2, h3⟩ := hs.bx k cs hk
  exact ⟨h1, cur, ty, h2, h3.up u⟩
end

end Go.Proofs.Ytopjlbifglacpaa.Am
