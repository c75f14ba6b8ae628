/- Mirrored functions that answer: rules by which an answer, and what holds of it, is found piece by piece. Nothing of the program is used here. -/
import Derived.Test.YtbknilpmpjjfpaaPkC
set_option linter.unusedSimpArgs false
set_option linter.unusedVariables false
namespace Go.Proofs.Ytbknilpmpjjfpaa
open Go.RowKit Am
def Tot {α : Type} (p : α → Prop) (f : Nat → Option α) : Prop := ∃ v, p v ∧ Ev fun k => f k = some v
section
variable {α β γ ε σ : Type} {p : α → Prop} {q : β → Prop}
theorem Tot.ret {v : α} (h : p v) : Tot p fun _ => some v := ⟨v, h, Ev.of fun _ => rfl⟩
theorem Tot.mono {p' : α → Prop} {f : Nat → Option α} (h : Tot p f) (g : ∀ v, p v → p' v) : Tot p' f := by obtain ⟨v, h1, h2⟩ := h; exact ⟨v, g v h1, h2⟩
theorem Tot.bind {f : Nat → Option α} {g : Nat → α → Option β} (h : Tot p f) (hg : ∀ v, p v → Tot q fun k => g k v) : Tot q fun k => (f k).bind (g k) := by
  obtain ⟨v, h1, h2⟩ := h
  obtain ⟨u, h3, h4⟩ := hg v h1
  exact ⟨u, h3, (h2.and h4).mono fun k ⟨e1, e2⟩ => by simp only [e1, Option.bind_some, e2]⟩
theorem Tot.ite {b : Prop} [Decidable b] {f g : Nat → Option β} (h1 : b → Tot q f) (h2 : ¬ b → Tot q g) : Tot q fun k => if b then f k else g k := by
  by_cases h : b
  · simp only [if_pos h]; exact h1 h
  · simp only [if_neg h]; exact h2 h
theorem Tot.pred {f : Nat → Option α} (h : Tot p fun k => f (k + 1)) : Tot p f := by
  obtain ⟨v, h1, h2⟩ := h
  exact ⟨v, h1, h2.pred fun k h => h⟩
theorem Tot.of {f : Option α} {v : α} (e : f = some v) (h : p v) : Tot p fun _ => f := ⟨v, h, Ev.of fun _ => e⟩
theorem Tot.at {xs : List α} {i : Int} (h0 : 0 ≤ i) (h1 : i < xs.length) (h : ∀ x, xs[i.toNat]? = some x → x ∈ xs → p x) : Tot p fun _ => at? xs i := by
  have hl : i.toNat < xs.length := by omega
  refine .of (v := xs[i.toNat]) ?_ (h _ (List.getElem?_eq_getElem hl) (List.getElem_mem hl))
  unfold at?
  rw [if_pos h0, List.getElem?_eq_getElem hl]
theorem Tot.bindAt {xs : List α} {i : Int} {g : Nat → α → Option β} (h0 : 0 ≤ i) (h1 : i < xs.length) (h : ∀ x, xs[i.toNat]? = some x → x ∈ xs → Tot q fun k => g k x) : Tot q fun k => (at? xs i).bind (g k) :=
  Tot.bind (p := fun x => xs[i.toNat]? = some x ∧ x ∈ xs) (Tot.at h0 h1 fun x e m => ⟨e, m⟩) fun x hx => h x hx.1 hx.2
theorem Tot.bindApp {b : Nat} {xs ys : List α} {g : Nat → List α → Option β} (hb : b ≤ 128) (h0 : xs.length + ys.length ≤ 1099511627776) (h : Tot q fun k => g k (xs ++ ys)) : Tot q fun k => (app? b xs ys).bind (g k) := by
  simp only [app_ok h0 hb, Option.bind_some]; exact h
def TotL (Inv : σ → Prop) (Post : ε → Prop) (U : Nat → Nat → σ → Option ε) (f : Nat → Nat → Option ε) : Prop :=
  (∃ s, Inv s ∧ Ev fun k => ∀ m, f k m = U k m s) ∨ ∃ r, Post r ∧ Ev fun k => ∀ m, f k m = some r
variable {Inv : σ → Prop} {Post : ε → Prop} {U : Nat → Nat → σ → Option ε}
theorem TotL.bind {f : Nat → Option α} {g : Nat → Nat → α → Option ε} (h : Tot p f) (hg : ∀ v, p v → TotL Inv Post U fun k m => g k m v) : TotL Inv Post U fun k m => (f k).bind (g k m) := by
  obtain ⟨v, h1, h2⟩ := h
  rcases hg v h1 with ⟨s, h3, h4⟩ | ⟨r, h3, h4⟩
  · exact .inl ⟨s, h3, (h2.and h4).mono fun k ⟨e1, e2⟩ m => by simp only [e1, Option.bind_some, e2]⟩
  · exact .inr ⟨r, h3, (h2.and h4).mono fun k ⟨e1, e2⟩ m => by simp only [e1, Option.bind_some, e2]⟩
theorem TotL.ite {b : Prop} [Decidable b] {f g : Nat → Nat → Option ε} (h1 : b → TotL Inv Post U f) (h2 : ¬ b → TotL Inv Post U g) : TotL Inv Post U fun k m => if b then f k m else g k m := by
  by_cases h : b
  · simp only [if_pos h]; exact h1 h
  · simp only [if_neg h]; exact h2 h
theorem TotL.ret {r : ε} (h : Post r) : TotL Inv Post U fun _ _ => some r := .inr ⟨r, h, Ev.of fun _ _ => rfl⟩
theorem TotL.next {s : σ} (h : Inv s) : TotL Inv Post U fun k m => U k m s := .inl ⟨s, h, Ev.of fun _ _ => rfl⟩
theorem TotL.bindAt {xs : List α} {i : Int} {g : Nat → Nat → α → Option ε} (h0 : 0 ≤ i) (h1 : i < xs.length) (h : ∀ x, xs[i.toNat]? = some x → x ∈ xs → TotL Inv Post U fun k m => g k m x) : TotL Inv Post U fun k m => (at? xs i).bind (g k m) :=
  TotL.bind (p := fun x => xs[i.toNat]? = some x ∧ x ∈ xs) (Tot.at h0 h1 fun x e m => ⟨e, m⟩) fun x hx => h x hx.1 hx.2
theorem TotL.bindApp {b : Nat} {xs ys : List α} {g : Nat → Nat → List α → Option ε} (hb : b ≤ 128) (h0 : xs.length + ys.length ≤ 1099511627776) (h : TotL Inv Post U fun k m => g k m (xs ++ ys)) : TotL Inv Post U fun k m => (app? b xs ys).bind (g k m) := by
  simp only [app_ok h0 hb, Option.bind_some]; exact h
theorem Tot.loop (U : Nat → Nat → σ → Option ε) (Inv : σ → Prop) (μ : σ → Nat) {Post : ε → Prop} {s0 : σ} (h0 : Inv s0)
    (step : ∀ s, Inv s → TotL (fun s' => Inv s' ∧ μ s' < μ s) Post U fun k m => U k (m + 1) s) : Tot Post fun k => U k k s0 := by
  have key : ∀ n s, μ s = n → Inv s → ∃ r, Post r ∧ Ev fun k => ∀ j, μ s < j → U k j s = some r := by
    intro n
    induction n using Nat.strongRecOn with
    | _ n ih =>
      intro s hn hs
      rcases step s hs with ⟨s', ⟨h1, h2⟩, h3⟩ | ⟨r, h1, h2⟩
      · obtain ⟨r, h4, h5⟩ := ih _ (by omega) s' rfl h1
        refine ⟨r, h4, (h3.and h5).mono fun k ⟨e1, e2⟩ j hj => ?_⟩
        obtain ⟨j, rfl⟩ : ∃ i, j = i + 1 := ⟨j - 1, by omega⟩
        exact (e1 j).trans (e2 j (by omega))
      · refine ⟨r, h1, h2.mono fun k e j hj => ?_⟩
        obtain ⟨j, rfl⟩ : ∃ i, j = i + 1 := ⟨j - 1, by omega⟩
        exact e j
  obtain ⟨r, h1, h2⟩ := key _ s0 rfl h0
  exact ⟨r, h1, (h2.and (Ev.ge (μ s0 + 1))).mono fun k ⟨e, hk⟩ => e k (by omega)⟩
end
theorem TotL.next2 {A B ε : Type} {Inv : A × B → Prop} {Post : ε → Prop} {U : Nat → Nat → A × B → Option ε} {a : A} {b : B} (h : Inv (a, b)) : TotL Inv Post U fun k m => U k m (a, b) := .next h
end Go.Proofs.Ytbknilpmpjjfpaa
