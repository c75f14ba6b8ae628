/- What a step does in a state it does in every state that says as much. -/
import Derived.Test.YtopjlbifglacpaaAmT
set_option linter.unusedSimpArgs false
set_option linter.unusedVariables false
namespace Go.Proofs.Ytopjlbifglacpaa.Am
open Go.RowKit

/-- σ' says all that σ says. -/
structure Le (σ σ' : St) : Prop where
  nt : σ'.nt = σ.nt
  tm : ∀ t v, σ.tm.lookup t = some v → σ'.tm.lookup t = some v
  bx : ∀ k cs, σ.bx.lookup k = some cs → σ'.bx.lookup k = some cs
  ar : ∀ τ A, σ.ar.lookup τ = some A → σ'.ar.lookup τ = some A

section
variable {σ σ' : St} {P : Program}

theorem Le.opd (h : Le σ σ') {x : Operand} {v : V} (hx : opd σ x = some v) : opd σ' x = some v := by
  cases x with
  | tmp t => exact h.tm t v hx
  | const c => exact hx
  | global g => exact hx
  | func f => exact hx
theorem Le.num (h : Le σ σ') {x : Operand} {r : IntKind × Int} (hx : num σ x = some r) : num σ' x = some r := by
  unfold Am.num at hx ⊢
  split at hx
  · rename_i k n hk; rw [h.opd hk]; exact hx
  · cases hx
theorem Le.bound (h : Le σ σ') {d : Int} {x : Option Operand} {r : Int} (hx : bound σ d x = some r) : bound σ' d x = some r := by
  unfold Am.bound at hx ⊢
  split at hx
  · exact hx
  · obtain ⟨y, h1, h2⟩ := Option.map_eq_some_iff.1 hx
    simp only [h.num h1, Option.map_some, h2]
theorem Le.parts (h : Le σ σ') : ∀ {ps : List (Nat × Operand)} {vs : List (Nat × V)}, parts σ ps = some vs → parts σ' ps = some vs
  | [], _, hp => hp
  | (i, o) :: ps, vs, hp => by
    simp only [Am.parts] at hp ⊢
    split at hp
    · rename_i v vs' h1 h2
      rw [h.opd h1, h.parts h2]; exact hp
    · cases hp
theorem Le.opds (h : Le σ σ') : ∀ {ps : List Operand} {vs : List V}, opds σ ps = some vs → opds σ' ps = some vs
  | [], _, hp => hp
  | o :: ps, vs, hp => by
    simp only [Am.opds] at hp ⊢
    split at hp
    · rename_i v vs' h1 h2
      rw [h.opd h1, h.opds h2]; exact hp
    · cases hp

theorem Le.valOp (h : Le σ σ') {op : Op} {r : V × Prop} (hv : valOp P σ op = some r) : valOp P σ' op = some r := by
  have H1 : ∀ x, (Am.opd σ x).isSome = true → Am.opd σ' x = Am.opd σ x := fun x hx => by obtain ⟨v, hv⟩ := Option.isSome_iff_exists.1 hx; rw [h.opd hv, hv]
  have H2 : ∀ k, (σ.bx.lookup k).isSome = true → σ'.bx.lookup k = σ.bx.lookup k := fun k hx => by obtain ⟨v, hv⟩ := Option.isSome_iff_exists.1 hx; rw [h.bx k v hv, hv]
  have H3 : ∀ k, (σ.ar.lookup k).isSome = true → σ'.ar.lookup k = σ.ar.lookup k := fun k hx => by obtain ⟨v, hv⟩ := Option.isSome_iff_exists.1 hx; rw [h.ar k v hv, hv]
  have H4 : ∀ x, (Am.num σ x).isSome = true → Am.num σ' x = Am.num σ x := fun x hx => by obtain ⟨v, hv⟩ := Option.isSome_iff_exists.1 hx; rw [h.num hv, hv]
  have H5 : ∀ d x, (Am.bound σ d x).isSome = true → Am.bound σ' d x = Am.bound σ d x := fun d x hx => by obtain ⟨v, hv⟩ := Option.isSome_iff_exists.1 hx; rw [h.bound hv, hv]
  have H6 : ∀ x, (Am.parts σ x).isSome = true → Am.parts σ' x = Am.parts σ x := fun x hx => by obtain ⟨v, hv⟩ := Option.isSome_iff_exists.1 hx; rw [h.parts hv, hv]
  have H7 : ∀ x, (Am.opds σ x).isSome = true → Am.opds σ' x = Am.opds σ x := fun x hx => by obtain ⟨v, hv⟩ := Option.isSome_iff_exists.1 hx; rw [h.opds hv, hv]
  clear h
  unfold Am.valOp at hv
  repeat' (split at hv)
  all_goals first
    | (cases hv; done)
    | (simp only [Am.valOp, *, Option.isSome_some, Option.map_some]; done)
    | (obtain ⟨y, hy, heq⟩ := Option.map_eq_some_iff.1 hv; simp only [Am.valOp, *, Option.isSome_some, Option.map_some]; done)
    | (rw [← hv]; clear hv; simp [Am.valOp, *]; done)
    | (rw [← hv]; clear hv; simp_all [Am.valOp]; done)
    | skip

theorem Le.absC (h : Le σ σ') {c : CV} {r : L × Bool × List Nat × Prop} (hx : absC σ c = some r) : absC σ' c = some r := by
  unfold Am.absC at hx ⊢
  split at hx
  · exact hx
  · exact hx
  · split at hx
    · rename_i A hA; rw [h.ar _ _ hA]; exact hx
    · cases hx
  · cases hx
theorem Le.absL (h : Le σ σ') : ∀ {cs : List CV} {r : List L × Bool × List Nat × Prop}, absL σ cs = some r → absL σ' cs = some r
  | [], _, hx => hx
  | c :: cs, r, hx => by
    simp only [Am.absL] at hx ⊢
    split at hx
    · rename_i h1 h2; rw [h.absC h1, h.absL h2]; exact hx
    · cases hx
theorem Le.absE (h : Le σ σ') : ∀ {cs : List (List CV)} {r : List (List L) × Bool × List Nat × Prop}, absE σ cs = some r → absE σ' cs = some r
  | [], _, hx => hx
  | c :: cs, r, hx => by
    simp only [Am.absE] at hx ⊢
    split at hx
    · rename_i h1 h2; rw [h.absL h1, h.absE h2]; exact hx
    · cases hx
theorem Le.datC (h : Le σ σ') {c : CV} {r : L × Bool × Prop} (hx : datC σ c = some r) : datC σ' c = some r := by
  unfold Am.datC at hx ⊢
  split at hx
  · exact hx
  · exact hx
  · split at hx
    · rename_i A hA; rw [h.ar _ _ hA]; exact hx
    · cases hx
  · cases hx
theorem Le.datL (h : Le σ σ') : ∀ {cs : List CV} {r : List L × Bool × Prop}, datL σ cs = some r → datL σ' cs = some r
  | [], _, hx => hx
  | c :: cs, r, hx => by
    simp only [Am.datL] at hx ⊢
    split at hx
    · rename_i h1 h2; rw [h.datC h1, h.datL h2]; exact hx
    · cases hx
theorem Le.datV (h : Le σ σ') {c : V} {r : DV × Bool × Prop} (hx : datV σ c = some r) : datV σ' c = some r := by
  cases c with
  | one c =>
    simp only [Am.datV] at hx ⊢
    obtain ⟨y, h1, h2⟩ := Option.map_eq_some_iff.1 hx
    rw [h.datC h1, Option.map_some, h2]
  | agg cs =>
    simp only [Am.datV] at hx ⊢
    obtain ⟨y, h1, h2⟩ := Option.map_eq_some_iff.1 hx
    rw [h.datL h1, Option.map_some, h2]
  | tup ps => simp [Am.datV] at hx
  | dead => simp [Am.datV] at hx
theorem Le.datVs (h : Le σ σ') : ∀ {cs : List V} {r : List DV × Bool × Prop}, datVs σ cs = some r → datVs σ' cs = some r
  | [], _, hx => hx
  | c :: cs, r, hx => by
    simp only [Am.datVs] at hx ⊢
    split at hx
    · rename_i h1 h2; rw [h.datV h1, h.datVs h2]; exact hx
    · cases hx
theorem Le.srcV (h : Le σ σ') {x : V} {r : List (List L) × Bool × List Nat × Prop} (hx : srcV σ x = some r) : srcV σ' x = some r := by
  unfold Am.srcV at hx ⊢
  split at hx
  · exact hx
  · exact hx
  · split at hx
    · rename_i A hA; rw [h.ar _ _ hA]; exact hx
    · cases hx
  · cases hx

theorem isSome_of {α : Type} {o : Option α} {v : α} (h : o = some v) : o.isSome = true := by rw [h]; rfl

/-- What is made anew is not there. -/
structure Fresh (σ σ' : St) (g : Eff) : Prop where
  bx : ∀ p ∈ g.bx, σ.bx.lookup p.1 = none → σ'.bx.lookup p.1 = none
  ar : ∀ p ∈ g.ar, σ.ar.lookup p.1 = none → σ'.ar.lookup p.1 = none

theorem Le.memOp (h : Le σ σ') {d : Option Nat} {op : Op} {g : Eff} (hv : memOp P σ d op = some g) (hf : Fresh σ σ' g) : memOp P σ' d op = some g := by
  have H1 : ∀ x, (Am.opd σ x).isSome = true → Am.opd σ' x = Am.opd σ x := fun x hx => by obtain ⟨v, hv⟩ := Option.isSome_iff_exists.1 hx; rw [h.opd hv, hv]
  have H2 : ∀ k, (σ.bx.lookup k).isSome = true → σ'.bx.lookup k = σ.bx.lookup k := fun k hx => by obtain ⟨v, hv⟩ := Option.isSome_iff_exists.1 hx; rw [h.bx k v hv, hv]
  have H3 : ∀ k, (σ.ar.lookup k).isSome = true → σ'.ar.lookup k = σ.ar.lookup k := fun k hx => by obtain ⟨v, hv⟩ := Option.isSome_iff_exists.1 hx; rw [h.ar k v hv, hv]
  have H4 : ∀ x, (Am.num σ x).isSome = true → Am.num σ' x = Am.num σ x := fun x hx => by obtain ⟨v, hv⟩ := Option.isSome_iff_exists.1 hx; rw [h.num hv, hv]
  have H6 : ∀ x, (Am.parts σ x).isSome = true → Am.parts σ' x = Am.parts σ x := fun x hx => by obtain ⟨v, hv⟩ := Option.isSome_iff_exists.1 hx; rw [h.parts hv, hv]
  have H7 : ∀ x, (Am.absE σ x).isSome = true → Am.absE σ' x = Am.absE σ x := fun x hx => by obtain ⟨v, hv⟩ := Option.isSome_iff_exists.1 hx; rw [h.absE hv, hv]
  have H8 : ∀ x, (Am.absL σ x).isSome = true → Am.absL σ' x = Am.absL σ x := fun x hx => by obtain ⟨v, hv⟩ := Option.isSome_iff_exists.1 hx; rw [h.absL hv, hv]
  have H9 : ∀ x, (Am.srcV σ x).isSome = true → Am.srcV σ' x = Am.srcV σ x := fun x hx => by obtain ⟨v, hv⟩ := Option.isSome_iff_exists.1 hx; rw [h.srcV hv, hv]
  have H0 := h.nt
  obtain ⟨f1, f2⟩ := hf
  clear h
  unfold Am.memOp at hv
  repeat' (split at hv)
  all_goals first
    | (cases hv; done)
    | skip
  all_goals obtain rfl := Option.some.inj hv
  all_goals clear hv
  all_goals (try simp only [List.mem_cons, List.not_mem_nil, forall_eq_or_imp, false_imp_iff, implies_true, and_true, false_or, or_false, forall_eq] at f1)
  all_goals (try simp only [List.mem_cons, List.not_mem_nil, forall_eq_or_imp, false_imp_iff, implies_true, and_true, false_or, or_false, forall_eq] at f2)
  all_goals (try simp only [Option.isNone_iff_eq_none] at *)
  all_goals first
    | (simp [Am.memOp, *]; done)
    | (rename_i e1 e2 _ c e3 l1 _ k off e4 _ cs e5 l2; unfold Am.memOp; simp only [e1, H1 _ (isSome_of e2), e2, e3, if_pos l1, H1 _ (isSome_of e4), e4, H2 _ (isSome_of e5), e5, if_pos l2]; done)
    | (rename_i a1 a2 l1 _ _ _ _ _ _ _ xv a3 a4 _ _ ei ys f τs q a5 a6 l2 _ a7 l3; unfold Am.memOp; simp only [a1, a2, H0, if_pos l1, a3, H1 _ (isSome_of a4), a4, H1 _ (isSome_of a7), a7, a5, H9 _ (isSome_of a6), a6, if_pos l2, f2.1 l3, Option.isNone_none, if_true]; done)
    | (rename_i a1 a2 l1 _ _ _ _ _ _ _ xv a3 a4 _ _ ei ys f τs q a5 a6 l2 _ τ n a7 _ A a8 l3; unfold Am.memOp; simp only [a1, a2, H0, if_pos l1, a3, H1 _ (isSome_of a4), a4, H1 _ (isSome_of a7), a7, a5, H9 _ (isSome_of a6), a6, if_pos l2, H3 _ (isSome_of a8), a8, if_pos l3]; done)
    | (simp_all [Am.memOp]; done)
    | skip

theorem Le.stepE (h : Le σ σ') {o : Oper} {g : Eff} (hv : stepE P σ o = some g) (hf : Fresh σ σ' g) : stepE P σ' o = some g := by
  unfold Am.stepE at hv ⊢
  split at hv
  · rename_i x s hx
    rw [h.valOp hx]
    simp only
    split at hv
    · simp only [h.nt]; exact hv
    · exact hv
  · rename_i hn
    have hm := h.memOp hv hf
    have hn' : Am.valOp P σ' o.op = none := by
      unfold Am.memOp at hv
      split at hv
      all_goals first
        | (rename_i ho; rw [ho]; rfl)
        | (cases hv; done)
    rw [hn']
    exact hm

theorem Le.callEff (h : Le σ σ') {d : Option Nat} {fr dp : Bool} {rs : List DV} {g : Eff} (hv : callEff σ d fr dp rs = some g) (hf : Fresh σ σ' g) : callEff σ' d fr dp rs = some g := by
  unfold Am.callEff at hv ⊢
  split at hv
  · exact hv
  · rename_i d
    simp only [h.nt]
    split at hv
    · rename_i hlt
      rw [if_pos hlt]
      split at hv
      · rename_i hfr
        rw [if_pos hfr]
        split at hv
        · rename_i hall
          obtain rfl := Option.some.inj hv
          rw [if_pos]
          rw [List.all_eq_true] at hall ⊢
          intro p hp
          have h1 := hall p hp
          have := hf.ar (p.1, some p.2) (List.mem_map.2 ⟨p, hp, rfl⟩) (by simpa using h1)
          simpa using this
        · cases hv
      · rename_i hfr
        rw [if_neg hfr]; exact hv
    · cases hv

theorem Le.ev (h : Le σ σ') {o : Oper} {g : Eff} (hv : Ev P σ o g) (hf : Fresh σ σ' g) : Ev P σ' o g := by
  cases hv with
  | step g h1 h2 => exact .step g (h.stepE h1 hf) h2
  | call f xs vs ds pu p fr dp rs g h1 h2 h3 h4 h5 h6 h7 => exact .call f xs vs ds pu p fr dp rs g h1 (h.opds h2) (h.datVs h3) h4 h5 h6 (h.callEff h7 hf)
end

end Go.Proofs.Ytopjlbifglacpaa.Am
