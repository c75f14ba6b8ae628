/- The walk in an open order, in a form that reckons; small rules. -/
import Derived.Test.YtopjlbifglacpaaAmW
set_option linter.unusedSimpArgs false
set_option linter.unusedVariables false
namespace Go.Proofs.Ytopjlbifglacpaa.Am
open Go.RowKit

section
variable (P : Program) (ops : Array Oper) (σ0 : St) (K : St → Prop) (B : List (List Nat))
def awpC : List (List Nat) → List Oper → Nat → List (Nat × Eff) → Prop
  | A :: As, o :: rest, i, es => match o.guard with
    | none => match callOf o.op with
      | some (f, xs) => match (opds (view σ0 es A) xs).bind (datVs (view σ0 es A)) with
        | some (ds, pu, p) => p ∧ ∃ fr dp rs, Ctr P f ds fr rs ∧ (fr = false → pu = true) ∧ (match callEff (view σ0 es A) o.dst fr dp rs with | some g => g.side ∧ awpC As rest (i + 1) ((i, g) :: es) | none => False)
        | none => False
      | none => match stepE P (view σ0 es A) o with | some g => g.side ∧ awpC As rest (i + 1) ((i, g) :: es) | none => False
    | some (j, want) => match yld (view σ0 es A) ops j want with
      | some b => if b = want then match callOf o.op with
          | some (f, xs) => match (opds (view σ0 es A) xs).bind (datVs (view σ0 es A)) with
            | some (ds, pu, p) => p ∧ ∃ fr dp rs, Ctr P f ds fr rs ∧ (fr = false → pu = true) ∧ (match callEff (view σ0 es A) o.dst fr dp rs with | some g => g.side ∧ awpC As rest (i + 1) ((i, g) :: es) | none => False)
            | none => False
          | none => match stepE P (view σ0 es A) o with | some g => g.side ∧ awpC As rest (i + 1) ((i, g) :: es) | none => False
        else awpC As rest (i + 1) ((i, ⟨True, match o.dst with | some d => [(d, .dead)] | none => [], [], []⟩) :: es)
      | none => False
  | _, [], _, es => dOk σ0 B es = true ∧ K (appR σ0 es)
  | _, _, _, _ => False

def cNext (As : List (List Nat)) (rest : List Oper) (i : Nat) (es : List (Nat × Eff)) : Option Eff → Prop
  | some g => g.side ∧ awpC P ops σ0 K B As rest (i + 1) ((i, g) :: es)
  | none => False
def cCall (As : List (List Nat)) (o : Oper) (rest : List Oper) (i : Nat) (es : List (Nat × Eff)) (σ : St) (f : Nat) : Option (List DV × Bool × Prop) → Prop
  | some (ds, pu, p) => p ∧ ∃ fr dp rs, Ctr P f ds fr rs ∧ (fr = false → pu = true) ∧ cNext P ops σ0 K B As rest i es (callEff σ o.dst fr dp rs)
  | none => False
def cRun (As : List (List Nat)) (o : Oper) (rest : List Oper) (i : Nat) (es : List (Nat × Eff)) (σ : St) : Option (Nat × List Operand) → Prop
  | some (f, xs) => cCall P ops σ0 K B As o rest i es σ f ((opds σ xs).bind (datVs σ))
  | none => cNext P ops σ0 K B As rest i es (stepE P σ o)
def cGuard (As : List (List Nat)) (o : Oper) (rest : List Oper) (i : Nat) (es : List (Nat × Eff)) (σ : St) (want : Bool) : Option Bool → Prop
  | some b => if b = want then cRun P ops σ0 K B As o rest i es σ (callOf o.op) else awpC P ops σ0 K B As rest (i + 1) ((i, ⟨True, match o.dst with | some d => [(d, .dead)] | none => [], [], []⟩) :: es)
  | none => False
end

section
variable {P : Program} {ops : Array Oper} {σ0 : St} {K : St → Prop} {B : List (List Nat)}
theorem awpC_nil (As : List (List Nat)) (i : Nat) (es : List (Nat × Eff)) : awpC P ops σ0 K B As [] i es = (dOk σ0 B es = true ∧ K (appR σ0 es)) := by cases As <;> rfl
theorem awpC_plain (A : List Nat) (As : List (List Nat)) (rest : List Oper) (i : Nat) (es : List (Nat × Eff)) (d : Option Nat) (op : Op) (ty : Nat) (pos : String) (af : Array Edge) :
    awpC P ops σ0 K B (A :: As) (⟨d, op, ty, pos, af, none⟩ :: rest) i es = cRun P ops σ0 K B As ⟨d, op, ty, pos, af, none⟩ rest i es (view σ0 es A) (callOf op) := by
  rw [awpC]
  simp only [cRun, cCall, cNext]
theorem awpC_guard (A : List Nat) (As : List (List Nat)) (rest : List Oper) (i : Nat) (es : List (Nat × Eff)) (d : Option Nat) (op : Op) (ty : Nat) (pos : String) (af : Array Edge) (j : Nat) (want : Bool) :
    awpC P ops σ0 K B (A :: As) (⟨d, op, ty, pos, af, some (j, want)⟩ :: rest) i es = cGuard P ops σ0 K B As ⟨d, op, ty, pos, af, some (j, want)⟩ rest i es (view σ0 es A) want (yld (view σ0 es A) ops j want) := by
  rw [awpC]
  simp only [cGuard, cRun, cCall, cNext]

theorem awpC_imp : ∀ {As : List (List Nat)} {l : List Oper} {i : Nat} {es : List (Nat × Eff)}, awpC P ops σ0 K B As l i es → awpD P ops σ0 K B As l i es
  | As, [], i, es, h => by rw [awpC_nil] at h; exact awpD_nil As i es h.1 h.2
  | [], o :: l, i, es, h => by unfold awpC at h; exact h.elim
  | A :: As, ⟨d, op, ty, pos, af, gd⟩ :: l, i, es, h => by
    have run : ∀ gd, cRun P ops σ0 K B As ⟨d, op, ty, pos, af, gd⟩ l i es (view σ0 es A) (callOf op) → dRun P ops σ0 K B As ⟨d, op, ty, pos, af, gd⟩ l i es (view σ0 es A) (callOf op) := by
      intro gd hr
      have nx : ∀ g, cNext P ops σ0 K B As l i es g → dNext P ops σ0 K B As l i es g := by
        intro g hg
        cases g with
        | none => exact hg
        | some g => exact ⟨hg.1, awpC_imp hg.2⟩
      unfold cRun at hr
      unfold dRun
      cases hc : callOf op with
      | none => rw [hc] at hr; exact nx _ hr
      | some p =>
        obtain ⟨f, xs⟩ := p
        rw [hc] at hr
        simp only at hr ⊢
        cases hd : (opds (view σ0 es A) xs).bind (datVs (view σ0 es A)) with
        | none => rw [hd] at hr; exact hr
        | some r =>
          obtain ⟨ds, pu, p⟩ := r
          rw [hd] at hr
          obtain ⟨h1, fr, dp, rs, h2, h3, h4⟩ := hr
          exact ⟨h1, fr, dp, rs, h2, h3, nx _ h4⟩
    cases gd with
    | none => rw [awpC_plain] at h; exact awpD_plain A As l i es d op ty pos af (run _ h)
    | some p =>
      obtain ⟨j, want⟩ := p
      rw [awpC_guard] at h
      refine awpD_guard A As l i es d op ty pos af j want ?_
      cases hy : yld (view σ0 es A) ops j want with
      | none => rw [hy] at h; exact h
      | some b =>
        rw [hy] at h
        simp only [cGuard] at h
        simp only [dGuard]
        split
        · rename_i hb; rw [if_pos hb] at h; exact run _ h
        · rename_i hb; rw [if_neg hb] at h; exact ⟨trivial, awpC_imp h⟩

theorem AW_open {N : Nat → Prop} {w0 : Bs} {Q : Exit → St → Prop} {id : Nat} {l : List Oper} (A : List (List Nat)) (hm : P.follows .mixedOrders = true) (hd : depsOk l A = true) (h : awpC P l.toArray σ0 (fun σ' => Q .normal σ') A A l 0 []) : AW P N w0 (.region id l.toArray true) Q σ0 :=
  AW_draw A hm hd (awpC_imp h)
end

section
variable {P : Program} {N : Nat → Prop} {w0 : Bs} {Q : Exit → St → Prop} {c : Code} {σ : St}

/-- A number in a state fits its kind; a slice's and a text's length fit. -/
def Ok : L → Prop
  | .int k n => InK k n
  | .bool _ => True
  | .str s => Fit s
  | .sl es => es.length ≤ 9223372036854775807
theorem Rp.ok {w : World} {x : L} {v : Value} {F : List Nat} (h : Rp w x v F) : Ok x := by
  cases x <;> simp only [Rp] at h
  · exact h.2.2
  · trivial
  · exact h.2.2
  · obtain ⟨A, c, h1, h2, h3, _⟩ := h
    show _ ≤ _
    omega
theorem AW_fact {t : Nat} {x : L} (ht : σ.tm.lookup t = some (.one (.l x))) (h : Ok x → AW P N w0 c Q σ) : AW P N w0 c Q σ := by
  intro a w hs
  obtain ⟨e, he⟩ := hs
  obtain ⟨F, h1, _⟩ := he.tm t _ ht
  exact h h1.ok a w ⟨e, he⟩

/-- What all the cells in reach of a slice's elements say. -/
def OkE (es : List (List L)) : Prop := ∀ e ∈ es, ∀ x ∈ e, Ok x
theorem RpL.ok {w : World} : ∀ {xs : List L} {vs : List Value} {F : List Nat}, RpL w xs vs F → ∀ x ∈ xs, Ok x
  | [], _, _, _ => by simp
  | x :: xs, _, _, h => by
    simp only [RpL] at h
    obtain ⟨v, vs', F1, F2, rfl, rfl, h1, h2⟩ := h
    intro y hy
    rcases List.mem_cons.1 hy with rfl | hy
    · exact h1.ok
    · exact RpL.ok h2 y hy
theorem RpE.ok {w : World} : ∀ {xs : List (List L)} {vs : List Value} {F : List Nat}, RpE w xs vs F → OkE xs
  | [], _, _, _ => by simp [OkE]
  | x :: xs, _, _, h => by
    simp only [RpE] at h
    obtain ⟨v1, v2, F1, F2, rfl, rfl, h1, h2⟩ := h
    intro y hy
    rcases List.mem_cons.1 hy with rfl | hy
    · exact h1.ok
    · exact RpE.ok h2 y hy
theorem Rp.okE {w : World} {es : List (List L)} {v : Value} {F : List Nat} (h : Rp w (.sl es) v F) : OkE es := by
  simp only [Rp] at h
  obtain ⟨A, c, h1, h2, h3, ⟨rfl, _⟩ | ⟨b, off, xs, Fs, _, _, _, _, h4⟩⟩ := h
  · simp [OkE]
  · exact h4.ok
theorem AW_factE {t : Nat} {es : List (List L)} (ht : σ.tm.lookup t = some (.one (.l (.sl es)))) (h : OkE es → AW P N w0 c Q σ) : AW P N w0 c Q σ := by
  intro a w hs
  obtain ⟨e, he⟩ := hs
  obtain ⟨F, h1, _⟩ := he.tm t _ ht
  exact h h1.okE a w ⟨e, he⟩
end

end Go.Proofs.Ytopjlbifglacpaa.Am
