/- A call in a walk: its results come in. -/
import Derived.Test.YtopjlbifglacpaaAmQ
set_option linter.unusedSimpArgs false
set_option linter.unusedVariables false
namespace Go.Proofs.Ytopjlbifglacpaa.Am
open Go.RowKit

section
variable {e : Env} {σ : St} {w : World} {N : Nat → Prop} {w0 : Bs} {a : Act} {P : Program}

theorem inc_find : ∀ {q : List Inc}, (q.map (·.τ)).Nodup → ∀ i ∈ q, q.find? (·.τ == i.τ) = some i
  | [], _, i, hi => by simp at hi
  | j :: q, hn, i, hi => by
    simp only [List.map_cons, List.nodup_cons] at hn
    by_cases he : j.τ = i.τ
    · have : i = j := by
        rcases List.mem_cons.1 hi with h | h
        · exact h
        · exact absurd (List.mem_map.2 ⟨i, h, he.symm⟩) hn.1
      subst this
      simp
    · have hi' : i ∈ q := by
        rcases List.mem_cons.1 hi with h | h
        · subst h; exact absurd rfl he
        · exact h
      simp only [List.find?, beq_eq_false_iff_ne.2 he]
      exact inc_find hn.2 i hi'
theorem inc_find_none {q : List Inc} {κ : Nat} (h : κ ∉ q.map (·.τ)) : q.find? (·.τ == κ) = none := by
  rw [List.find?_eq_none]
  intro i hi he
  exact h (List.mem_map.2 ⟨i, hi, by simpa using he⟩)

def incAr (q : List Inc) : List (Nat × Option Arr) := q.map fun i => (i.τ, some i.A)
theorem incAr_some : ∀ {q : List Inc} {l : List (Nat × Option Arr)}, (q.map (·.τ)).Nodup → ∀ i ∈ q, (incAr q ++ l).lookup i.τ = some (some i.A)
  | [], _, _, i, hi => by simp at hi
  | j :: q, l, hn, i, hi => by
    simp only [List.map_cons, List.nodup_cons] at hn
    simp only [incAr, List.map_cons, List.cons_append, lookup_cons]
    by_cases he : i.τ = j.τ
    · have : i = j := by
        rcases List.mem_cons.1 hi with h | h
        · exact h
        · exact absurd (List.mem_map.2 ⟨i, h, he⟩) hn.1
      subst this
      simp
    · have hi' : i ∈ q := by
        rcases List.mem_cons.1 hi with h | h
        · subst h; exact absurd rfl he
        · exact h
      rw [if_neg he]
      exact incAr_some hn.2 i hi'
theorem incAr_none : ∀ {q : List Inc} {l : List (Nat × Option Arr)} {κ : Nat}, κ ∉ q.map (·.τ) → (incAr q ++ l).lookup κ = l.lookup κ
  | [], _, _, _ => rfl
  | j :: q, l, κ, h => by
    simp only [List.map_cons, List.mem_cons, not_or] at h
    simp only [incAr, List.map_cons, List.cons_append, lookup_cons, if_neg h.1]
    exact incAr_none h.2

theorem mem_flat {q : List Inc} {i : Inc} (hi : i ∈ q) {b : Nat} (hb : b ∈ i.F) : b ∈ q.flatMap (·.F) := List.mem_flatMap.2 ⟨i, hi, hb⟩
theorem flat_apart : ∀ {q : List Inc}, (q.flatMap (·.F)).Nodup → ∀ i ∈ q, ∀ j ∈ q, i.τ ≠ j.τ → ∀ b ∈ i.F, b ∉ j.F
  | [], _, i, hi, _, _, _, _, _ => by simp at hi
  | k :: q, hn, i, hi, j, hj, hne, b, hb => by
    simp only [List.flatMap_cons] at hn
    obtain ⟨h1, h2, h3⟩ := List.nodup_append.1 hn
    rcases List.mem_cons.1 hi with hi1 | hi1 <;> rcases List.mem_cons.1 hj with hj1 | hj1
    · exact absurd (by rw [hi1, hj1]) hne
    · exact fun hb' => h3 b (hi1 ▸ hb) b (mem_flat hj1 hb') rfl
    · exact fun hb' => h3 b (hj1 ▸ hb') b (mem_flat hi1 hb) rfl
    · exact flat_apart h2 i hi1 j hj1 hne b hb
theorem flat_one : ∀ {q : List Inc}, (q.flatMap (·.F)).Nodup → ∀ i ∈ q, i.F.Nodup
  | [], _, i, hi => by simp at hi
  | k :: q, hn, i, hi => by
    simp only [List.flatMap_cons] at hn
    obtain ⟨h1, h2, h3⟩ := List.nodup_append.1 hn
    rcases List.mem_cons.1 hi with rfl | hi
    · exact h1
    · exact flat_one h2 i hi

theorem ArrOk.of_inc {M : Nat → Prop} {i : Inc} {w' : World} {N' : Nat → Prop} (h : incOk N' w' i) (hN : ∀ b, N' b → N b) (hn : i.F.Nodup) : ArrOk N M w' i.A i.v i.F := by
  obtain ⟨h1, h2⟩ := h
  have h1 := h1.mono hN
  simp only [Ow] at h1
  obtain ⟨A, c, hv, hc, h3 | ⟨b, t, cur, Fs, W, k1, k2, k3, k4, k5, k6, k7, k8, k9⟩⟩ := h1
  · exact ⟨A, c, hv, hc, .inl h3⟩
  · exact ⟨A, c, hv, hc, .inr ⟨b, t, cur, Fs, W, k1, k2, k3, k4, k5, k6, k7, .inl ⟨h2, k8, hn, k9⟩⟩⟩

/-- A call has come back with new arrays. -/
theorem SimE.incoming (h : SimE N w0 e σ a w) {w' : World} (hb : Below w.heap.size w w') {q : List Inc} (hq : ∀ i ∈ q, incOk (w.heap.size ≤ ·) w' i) (hk : (q.map (·.τ)).Nodup) (hF : (q.flatMap (·.F)).Nodup) (hn : ∀ i ∈ q, σ.ar.lookup i.τ = none) (dp : Bool)
    {tm : List (Nat × V)} {a' : Act} (hnt : a'.tmps.size = σ.nt) (hdf : a'.defers = [])
    (htm : Up e σ w (incEnv e q dp) ⟨σ.nt, tm, σ.bx, incAr q ++ σ.ar⟩ w' → (∀ i ∈ q, (incEnv e q dp).ρ i.τ = i.v ∧ (incAr q ++ σ.ar).lookup i.τ = some (some i.A)) →
      ∀ t x, tm.lookup t = some x → (σ.tm.lookup t = some x ∧ a'.tmps.getD t undef = a.tmps.getD t undef) ∨ x.rel (incEnv e q dp) ⟨σ.nt, tm, σ.bx, incAr q ++ σ.ar⟩ w' (a'.tmps.getD t undef)) :
    SimE N w0 (incEnv e q dp) ⟨σ.nt, tm, σ.bx, incAr q ++ σ.ar⟩ a' w' := by
  have hρ : ∀ i ∈ q, (incEnv e q dp).ρ i.τ = i.v := fun i hi => by simp [incEnv, inc_find hk i hi]
  have hφ : ∀ i ∈ q, (incEnv e q dp).φ i.τ = i.F := fun i hi => by simp [incEnv, inc_find hk i hi]
  have hρ' : ∀ κ, κ ∉ q.map (·.τ) → (incEnv e q dp).ρ κ = e.ρ κ := fun κ hκ => by simp [incEnv, inc_find_none hκ]
  have hφ' : ∀ κ, κ ∉ q.map (·.τ) → (incEnv e q dp).φ κ = e.φ κ := fun κ hκ => by simp [incEnv, inc_find_none hκ]
  have hlive : ∀ κ A, σ.ar.lookup κ = some A → κ ∉ q.map (·.τ) := fun κ A hA hm => by
    obtain ⟨i, hi, rfl⟩ := List.mem_map.1 hm
    rw [hn i hi] at hA; cases hA
  have hnew : ∀ i ∈ q, ∀ b ∈ i.F, w.heap.size ≤ b := fun i hi b hb' => ((hq i hi).1.blocks b hb').1
  have hlook : ∀ κ A, (incAr q ++ σ.ar).lookup κ = some (some A) → (∃ i ∈ q, i.τ = κ ∧ A = i.A) ∨ (κ ∉ q.map (·.τ) ∧ σ.ar.lookup κ = some (some A)) := by
    intro κ A hA
    by_cases hm : κ ∈ q.map (·.τ)
    · obtain ⟨i, hi, rfl⟩ := List.mem_map.1 hm
      rw [incAr_some hk i hi] at hA
      exact .inl ⟨i, hi, rfl, (Option.some.inj (Option.some.inj hA)).symm⟩
    · rw [incAr_none hm] at hA
      exact .inr ⟨hm, hA⟩
  have u : Up e σ w (incEnv e q dp) ⟨σ.nt, tm, σ.bx, incAr q ++ σ.ar⟩ w' := by
    refine ⟨hb.size, fun b hlt _ => hb.block b hlt, fun b hlt hm => ?_, fun k cs hk => ⟨⟨cs, hk⟩, rfl⟩, fun κ A hA => ?_⟩
    · rcases hm with (h0 | ⟨i, hi, _, hb'⟩) | ⟨k, cs, h1, h2⟩ | ⟨κ, A, h1, h2⟩
      · exact .inl h0
      · have := hnew i hi b hb'
        omega
      · exact .inr (.inl ⟨k, cs, h1, h2⟩)
      · rcases hlook κ A h1 with ⟨i, hi, rfl, rfl⟩ | ⟨hm, hA⟩
        · rw [hρ i hi] at h2
          have := hnew i hi b (by
            have hok := ArrOk.of_inc (N := fun b => w.heap.size ≤ b) (M := fun _ => True) (hq i hi) (fun _ h => h) (flat_one hF i hi)
            exact (hok.own h2).1)
          omega
        · rw [hρ' κ hm] at h2
          exact .inr (.inr ⟨κ, A, hA, h2⟩)
    · have hm := hlive κ A hA
      refine ⟨A, ?_, fun B hB => ⟨B, hB, Nat.le_refl _, fun _ => hρ' κ hm⟩⟩
      show (incAr q ++ σ.ar).lookup κ = some A
      rw [incAr_none hm]; exact hA
  refine h.turn u (fun κ => ∃ i ∈ q, κ = .a i.τ) hnt hdf (htm u fun i hi => ⟨hρ i hi, incAr_some hk i hi⟩) (fun k cs hk' _ => ⟨hk', hb.block _ (h.blk_lt (κ := .b k) ⟨cs, hk'⟩ _ (by simp [blk])).1⟩) (fun κ A hA hK => ?_)
    (fun k cs _ hK => by obtain ⟨i, _, h9⟩ := hK; cases h9) (fun κ A hA hK => ?_) (fun κ hl hK b hb' => ?_) (fun κ κ' _ _ hne hK hK' b hb' => ?_) (h.fr.below hb) (fun b h => .inl h) (fun b hb' => ?_) (fun κ _ hK hd b hb' => by
      obtain ⟨i, hi, rfl⟩ := hK
      simp only [blk, hφ i hi] at hb'
      exact .inr ⟨i, hi, hd, hb'⟩)
  · rcases hlook κ A hA with ⟨i, hi, rfl, rfl⟩ | ⟨hm, hA'⟩
    · exact absurd ⟨i, hi, rfl⟩ hK
    · exact ⟨hA', hρ' κ hm, hφ' κ hm, fun b hb' => hb.block b (h.blk_lt (κ := .a κ) ⟨A, hA'⟩ b hb').1⟩
  · obtain ⟨i, hi, h9⟩ := hK
    injection h9 with h9
    subst h9
    rcases hlook i.τ A hA with ⟨j, hj, hji, rfl⟩ | ⟨hm, _⟩
    · have : j = i := by
        have h1 := inc_find hk j hj
        have h2 := inc_find hk i hi
        rw [hji, h2] at h1
        exact (Option.some.inj h1).symm
      subst this
      rw [hρ j hi, hφ j hi]
      exact ArrOk.of_inc (hq j hi) (fun b hb' => h.fr.new b (Nat.le_trans h.fr.size hb')) (flat_one hF j hi)
    · exact absurd (List.mem_map.2 ⟨i, hi, rfl⟩) hm
  · obtain ⟨i, hi, rfl⟩ := hK
    simp only [blk, hφ i hi] at hb'
    exact .inr (.inr (hnew i hi b hb'))
  · obtain ⟨i, hi, rfl⟩ := hK
    obtain ⟨j, hj, rfl⟩ := hK'
    simp only [blk, hφ i hi, hφ j hj] at hb' ⊢
    exact flat_apart hF i hi j hj (fun e' => hne (by rw [e'])) b hb'
  · rcases hb' with hb' | ⟨i, hi, hdt, hbi⟩
    · exact .inl hb'
    · obtain ⟨_, cur, ty, hpl⟩ := (hq i hi).1.blocks b hbi
      refine .inr ⟨hnew i hi b hbi, lt_of_some hpl, fun κ hl hm => ?_⟩
      cases κ with
      | b k =>
        obtain ⟨cs, hcs⟩ := hl
        have h1 := (h.blk_lt (κ := .b k) ⟨cs, hcs⟩ b hm).1
        have h2 := hnew i hi b hbi
        omega
      | a κ =>
        obtain ⟨A, hA⟩ := hl
        rcases hlook κ A hA with ⟨j, hj, rfl, _⟩ | ⟨hm', hA'⟩
        · by_cases hij : i.τ = j.τ
          · rw [← hij]; exact hdt
          · simp only [blk, hφ j hj] at hm
            exact absurd hm (flat_apart hF i hi j hj hij b hbi)
        · simp only [blk, hφ' κ hm'] at hm
          have h1 := (h.blk_lt (κ := .a κ) ⟨A, hA'⟩ b hm).1
          have h2 := hnew i hi b hbi
          omega

theorem ptsRel_of_dvs {w' : World} {e' : Env} {σ' : St} : ∀ {rs : List DV} {us : List Value} {F : List Nat}, dvsRel w' rs us F → (∀ b ∈ F, ¬ Mut e' σ' b) → ptsRel e' σ' w' (rs.map ptD) us
  | [], us, F, h, _ => by simp only [dvsRel] at h; simp [ptsRel, h.1]
  | .one x :: rs, us, F, h, hF => by
    simp only [dvsRel] at h
    obtain ⟨v, vs', F1, F2, rfl, rfl, h1, h2⟩ := h
    simp only [List.map_cons, ptsRel]
    exact ⟨v, vs', rfl, ⟨_, rfl, F1, h1, fun b hb => hF b (by simp [hb])⟩, ptsRel_of_dvs h2 fun b hb => hF b (by simp [hb])⟩
  | .agg xs :: rs, us, F, h, hF => by
    simp only [dvsRel] at h
    obtain ⟨v, vs', F1, F2, rfl, rfl, ⟨us', rfl, h1⟩, h2⟩ := h
    simp only [List.map_cons, ptsRel]
    exact ⟨_, vs', rfl, ⟨us', rfl, relL_of_RpL h1 fun b hb => hF b (by simp [hb])⟩, ptsRel_of_dvs h2 fun b hb => hF b (by simp [hb])⟩

theorem retC_rel {w' : World} {e' : Env} {σ' : St} {ps : List (Bool × List CV)} {us : List Value} (h : ptsRel e' σ' w' ps us) : (retC ps).rel e' σ' w' (retV us) := by
  unfold retC
  split
  · rename_i c
    simp only [ptsRel] at h
    obtain ⟨v, vs', rfl, ⟨c', hc, h1⟩, h2⟩ := h
    subst h2
    injection hc with hc _
    subst hc
    exact h1
  · rename_i cs
    simp only [ptsRel] at h
    obtain ⟨v, vs', rfl, ⟨us, rfl, h1⟩, h2⟩ := h
    subst h2
    exact ⟨us, rfl, h1⟩
  · rename_i hn1 hn2
    cases ps with
    | nil =>
      simp only [ptsRel] at h
      subst h
      exact ⟨[], rfl, by simp [ptsRel]⟩
    | cons p ps =>
      cases ps with
      | nil =>
        simp only [ptsRel] at h
        obtain ⟨v, vs', rfl, h1, h2⟩ := h
        obtain ⟨b, cs⟩ := p
        cases b
        · obtain ⟨c, rfl, h1⟩ := h1
          exact absurd rfl (hn1 c)
        · exact absurd rfl (hn2 cs)
      | cons p' ps =>
        have h0 := h
        simp only [ptsRel] at h
        obtain ⟨v, vs', rfl, h1, v', vs'', rfl, h2, h3⟩ := h
        exact ⟨v :: v' :: vs'', rfl, h0⟩

theorem dvRel.lt {d : DV} {v : Value} {F : List Nat} (h : dvRel w d v F) : ∀ b ∈ F, b < w.heap.size := by
  cases d with
  | one x => exact Rp.lt h
  | agg xs => obtain ⟨vs, _, h⟩ := h; exact h.lt
theorem dvs_lt : ∀ {ds : List DV} {vs : List Value} {F : List Nat}, dvsRel w ds vs F → ∀ b ∈ F, b < w.heap.size
  | [], _, _, h => by simp only [dvsRel] at h; simp [h.2]
  | d :: ds, _, _, h => by
    simp only [dvsRel] at h
    obtain ⟨v, vs', F1, F2, rfl, rfl, h1, h2⟩ := h
    intro b hb
    rcases List.mem_append.1 hb with hb | hb
    · exact h1.lt b hb
    · exact dvs_lt h2 b hb

/-- A call by its contract. -/
theorem call_sound (h : SimE N w0 e σ a w) {o : Oper} {f : Nat} {xs : Array Operand} {ts : Array Nat} (ho : o.op = .call { callee := .value (.func f), args := xs, argTypes := ts })
    {vs : List V} (hvs : opds σ xs.toList = some vs) {ds : List DV} {pure_ : Bool} {p : Prop} (hd : datVs σ vs = some (ds, pure_, p)) (hp : p) {fr dp : Bool} {rs : List DV} (hc : Ctr P f ds fr rs) (hfr : fr = false → pure_ = true)
    {g : Eff} (hg : callEff σ o.dst fr dp rs = some g) {K : Act → World → Prop} {Q : Exit → Act → World → Prop} (hK : ∀ e' a' w', SimE N w0 e' (σ.app g) a' w' → K a' w') : o.wp P a w K Q := by
  obtain ⟨hok, hcall⟩ := hc
  obtain ⟨FA, hFA, hpure⟩ := datVs_rel h hvs hd hp
  have hrun : (execOp a.eval o).run P w = .ok (.enter f (xs.toList.map a.eval).toArray) w := by
    unfold callOk at hok
    split at hok
    · rename_i fn hfn
      simp only [Bool.and_eq_true, bne_iff_ne, ne_eq] at hok
      obtain ⟨c, hb⟩ : ∃ c, fn.body = some c := Option.isSome_iff_exists.1 hok.2
      have hargs : (xs.toList.map a.eval).toArray = xs.map a.eval := by rw [← Array.toList_inj]; simp
      rw [hargs]
      simp [execOp, ho, resolve, Act.eval, Deferred.ofValue, invoke, callFunc, hfn, hok.1, hb]
    · cases hok
  unfold Oper.wp
  rw [hrun, Oper.upon_enter]
  refine (hcall w _ FA hFA).mono fun en w' hR => ?_
  obtain ⟨us, rfl, hres, hbel⟩ := hR
  simp only
  unfold callEff at hg
  split at hg
  · rename_i hdst
    obtain rfl := Option.some.inj hg
    rw [hdst]
    have := h.incoming hbel (q := []) (by simp) (by simp) (by simp) (by simp) false (tm := σ.tm) (a' := a) h.nt h.df (fun u _ t x ht => .inl ⟨ht, rfl⟩)
    exact hK _ _ _ this
  · rename_i d hdst
    rw [hdst]
    split at hg
    · rename_i hlt
      split at hg
      · rename_i hfr'
        subst hfr'
        split at hg
        · rename_i hall
          obtain rfl := Option.some.inj hg
          simp only [resOk, if_true] at hres
          obtain ⟨F, k1, k2⟩ := hres
          obtain ⟨q, q1, q2, rfl, q4⟩ := impD_sound (τ := base dp d) k1
          have hkeys : q.map (·.τ) = (impD (base dp d) rs).2.map (·.1) := by rw [← q1, List.map_map]; rfl
          have har : incAr q = (impD (base dp d) rs).2.map fun p => (p.1, some p.2) := by rw [← q1, List.map_map]; rfl
          have := h.incoming hbel (q := q) q2 (by rw [hkeys]; exact (impD_keys rs (base dp d)).1) k2 (fun i hi => by
            rw [List.all_eq_true] at hall
            have := hall (i.τ, i.A) (by rw [← q1]; exact List.mem_map.2 ⟨i, hi, rfl⟩)
            simpa using this) dp (tm := (d, retC (impD (base dp d) rs).1) :: σ.tm) (a' := a.put (some d) (retV us)) (by rw [act_put_size]; exact h.nt) (by rw [act_put_defers]; exact h.df)
            (fun u hq' => tm_put (by rw [h.nt]; exact hlt) (retC_rel (q4 _ _ fun i hi => hq' i hi)))
          rw [har] at this
          exact hK _ _ _ this
        · cases hg
      · rename_i hfr'
        have hfr' : fr = false := by simpa using hfr'
        subst hfr'
        obtain rfl := Option.some.inj hg
        simp only [resOk, Bool.false_eq_true, if_false] at hres
        obtain ⟨F, k1, k2⟩ := hres
        have := h.incoming hbel (q := []) (by simp) (by simp) (by simp) (by simp) false (tm := (d, retC (rs.map ptD)) :: σ.tm) (a' := a.put (some d) (retV us)) (by rw [act_put_size]; exact h.nt) (by rw [act_put_defers]; exact h.df)
          (fun u hq' => tm_put (by rw [h.nt]; exact hlt) (retC_rel (ptsRel_of_dvs k1 fun b hb hm => by
            rcases k2 b hb with g1 | g1
            · have hbl := (dvs_lt hFA b g1)
              exact hpure (hfr rfl) b g1 (u.mt b hbl hm)
            · rcases hm with (h0 | ⟨_, h0, _⟩) | ⟨k, cs, h1, h2⟩ | ⟨κ, A, h1, h2⟩
              · have := (h.bad.2 b h0).1; omega
              · cases h0
              · have := (h.blk_lt (κ := .b k) ⟨cs, h1⟩ (e.β k) (by simp [blk])).1
                have h2' : e.β k = b := h2
                omega
              · have h1' : σ.ar.lookup κ = some (some A) := h1
                have h2' : (e.ρ κ).ownBlock = some b := h2
                have := (h.blk_lt (κ := .a κ) ⟨A, h1'⟩ b ((h.ar κ A h1').own h2').1).1
                omega)))
        exact hK _ _ _ this
    · cases hg
end

end Go.Proofs.Ytopjlbifglacpaa.Am
