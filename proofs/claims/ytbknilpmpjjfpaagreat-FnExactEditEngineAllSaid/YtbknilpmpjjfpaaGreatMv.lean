/- An element is taken out of an array of the call's own: its slices become arrays of their own. -/
import Derived.Test.YtbknilpmpjjfpaaGreatPkC
set_option linter.unusedSimpArgs false
set_option linter.unusedVariables false
namespace Go.Proofs.YtbknilpmpjjfpaaGreat.Am
open Go.RowKit
def voidL : L → L
  | .sl _ => .void
  | x => x
def flatC : CV → Bool
  | .l x => x.flat
  | .nil | .own _ _ | .box _ _ | .elt _ _ _ _ _ | .any | .np => true
  | _ => false
def flatCs : List CV → Bool
  | [] => true
  | c :: cs => flatC c && flatCs cs
def flatPs : List (Bool × List CV) → Bool
  | [] => true
  | p :: ps => flatCs p.2 && flatPs ps
def flatV : V → Bool
  | .one c => flatC c
  | .agg cs => flatCs cs
  | .tup ps => flatPs ps
  | .dead => true
def flatTm : List (Nat × V) → Bool
  | [] => true
  | p :: r => flatV p.2 && flatTm r
def flatBx : List (Nat × List CV) → Bool
  | [] => true
  | p :: r => flatCs p.2 && flatBx r
def flatAr : List (Nat × Option Arr) → Bool
  | [] => true
  | (_, none) :: r => flatAr r
  | (_, some A) :: r => A.fr && flatAr r
def flatSt (σ : St) : Bool := flatTm σ.tm && (flatBx σ.bx && flatAr σ.ar)
theorem flatTm_mem : ∀ {l : List (Nat × V)}, flatTm l = true → ∀ p ∈ l, flatV p.2 = true
  | [], _, _, hp => by simp at hp
  | q :: l, h, p, hp => by
    simp only [flatTm, Bool.and_eq_true] at h
    rcases List.mem_cons.1 hp with rfl | hp
    · exact h.1
    · exact flatTm_mem h.2 p hp
theorem flatBx_mem : ∀ {l : List (Nat × List CV)}, flatBx l = true → ∀ p ∈ l, flatCs p.2 = true
  | [], _, _, hp => by simp at hp
  | q :: l, h, p, hp => by
    simp only [flatBx, Bool.and_eq_true] at h
    rcases List.mem_cons.1 hp with rfl | hp
    · exact h.1
    · exact flatBx_mem h.2 p hp
theorem flatAr_mem : ∀ {l : List (Nat × Option Arr)}, flatAr l = true → ∀ κ B, (κ, some B) ∈ l → B.fr = true
  | [], _, _, _, hp => by simp at hp
  | (_, none) :: l, h, κ, B, hp => by
    simp only [flatAr] at h
    exact flatAr_mem h κ B (by simpa using hp)
  | (_, some A) :: l, h, κ, B, hp => by
    simp only [flatAr, Bool.and_eq_true] at h
    rcases List.mem_cons.1 hp with hp | hp
    · injection hp with _ hp; injection hp with hp; rw [hp]; exact h.1
    · exact flatAr_mem h.2 κ B hp
def St.took (σ : St) (d τ j : Nat) (A : Arr) (el : List L) : St :=
  ⟨σ.nt, (d, .agg (impL (64 * d) el).1) :: σ.tm, σ.bx, (impL (64 * d) el).2.map (fun q => (q.1, some q.2)) ++ (τ, some ⟨true, A.es.set j (el.map voidL)⟩) :: σ.ar⟩
section
variable {e : Env} {σ : St} {w : World} {N : Nat → Prop} {w0 : Bs} {a : Act} {P : Program} {ops : Array Oper}
theorem Ow.void {x : L} {v : Value} {F : List Nat} (h : Ow N w x v F) : Ow N w (voidL x) v [] := by
  cases x with
  | sl es => simp only [Ow] at h; obtain ⟨A, c, h1, _⟩ := h; simp only [voidL, Ow]; exact ⟨⟨A, _, c, h1⟩, trivial⟩
  | int k n => simp only [Ow, voidL] at h ⊢; exact ⟨h.1, trivial, h.2.2⟩
  | bool b => simp only [Ow, voidL] at h ⊢; exact ⟨h.1, trivial⟩
  | str s => simp only [Ow, voidL] at h ⊢; exact ⟨h.1, trivial, h.2.2⟩
  | void => simp only [Ow, voidL] at h ⊢; exact ⟨h.1, trivial⟩
theorem OwL.void : ∀ {xs : List L} {vs : List Value} {F : List Nat}, OwL N w xs vs F → OwL N w (xs.map voidL) vs []
  | [], vs, F, h => by simp only [OwL] at h; simp [OwL, h.1]
  | x :: xs, vs, F, h => by
    simp only [OwL] at h
    obtain ⟨v, vs', F1, F2, rfl, rfl, h1, h2⟩ := h
    simp only [List.map_cons, OwL]
    exact ⟨v, vs', [], [], rfl, rfl, h1.void, h2.void⟩
theorem OwE.take {es : List (List L)} {vs : List Value} {F : List Nat} (h : OwE N w es vs F) {W j : Nat} {el : List L} (hj : es[j]? = some el) (hW : ∀ x ∈ es, x.length = W) :
    ∃ ve F1 Fe F2, F = F1 ++ (Fe ++ F2) ∧ OwL N w el ve Fe ∧ ve.length = W ∧ (∀ i u, ve[i]? = some u → vs[j * W + i]? = some u) ∧ OwE N w (es.set j (el.map voidL)) vs (F1 ++ F2) := by
  obtain ⟨hlt, he⟩ := List.getElem?_eq_some_iff.1 hj
  have hes : es = es.take j ++ el :: es.drop (j + 1) := by rw [← he, List.getElem_cons_drop, List.take_append_drop]
  rw [hes] at h
  obtain ⟨v1, v2, F1, F2, rfl, rfl, g1, g2⟩ := h.split
  simp only [OwE] at g2
  obtain ⟨ve, v3, Fe, F3, rfl, rfl, g3, g4⟩ := g2
  have l1 : v1.length = j * W := by
    rw [g1.len, width_uniform (W := W) (fun x hx => hW x (List.mem_of_mem_take hx)), List.length_take, Nat.min_eq_left (by omega)]
  have l2 : ve.length = W := by rw [g3.len]; exact hW el (List.mem_of_getElem? hj)
  refine ⟨ve, F1, Fe, F3, rfl, g3, l2, fun i u hu => ?_, ?_⟩
  · rw [List.getElem?_append_right (by omega), show j * W + i - v1.length = i by omega, List.getElem?_append_left (List.getElem?_eq_some_iff.1 hu).1]
    exact hu
  · have hset : es.set j (el.map voidL) = es.take j ++ el.map voidL :: es.drop (j + 1) := by
      rw [List.set_eq_take_append_cons_drop, if_pos hlt]
    rw [hset]
    refine g1.append ?_
    simp only [OwE]
    exact ⟨ve, v3, [], F3, rfl, rfl, g3.void, g4⟩
theorem flatC_rel {e' : Env} {σ' : St} {c : CV} {v : Value} (h : c.rel e σ w v) (hc : flatC c = true) (hβ : e'.β = e.β) (hb : σ'.bx = σ.bx)
    (har : ∀ τ A, σ.ar.lookup τ = some A → (σ'.ar.lookup τ = some A ∨ ∃ B B', A = some B ∧ σ'.ar.lookup τ = some (some B') ∧ B'.es.length = B.es.length) ∧ e'.ρ τ = e.ρ τ) : c.rel e' σ' w v := by
  have key : ∀ {τ n : Nat} {Pv Pe : Prop} {A : Option Arr}, σ.ar.lookup τ = some A → (∀ B, A = some B → n ≤ B.es.length ∧ (B.es.length = n → Pv)) → (Pv → Pe) → ∃ A', σ'.ar.lookup τ = some A' ∧ ∀ B, A' = some B → n ≤ B.es.length ∧ (B.es.length = n → Pe) := fun {τ n Pv Pe A} hA h1 h2 => by
    obtain ⟨k | ⟨B, B', rfl, k1, k2⟩, _⟩ := har τ A hA
    · exact ⟨A, k, fun B hB => ⟨(h1 B hB).1, fun hn => h2 ((h1 B hB).2 hn)⟩⟩
    · refine ⟨_, k1, fun C hC => ?_⟩
      obtain rfl := Option.some.inj hC
      rw [k2]
      exact ⟨(h1 B rfl).1, fun hn => h2 ((h1 B rfl).2 hn)⟩
  cases c with
  | l x =>
    obtain ⟨F, h1, _⟩ := h
    obtain ⟨rfl, _⟩ := h1.flat (N := fun _ => True) hc
    exact ⟨[], h1, by simp⟩
  | nil => exact h
  | own τ n =>
    obtain ⟨A, h1, h2, h3⟩ := h
    obtain ⟨A', k1, k2⟩ := key h1 h2 fun hv => hv.trans (har τ A h1).2.symm
    exact ⟨A', k1, k2, h3⟩
  | box k off =>
    obtain ⟨⟨cs, h1⟩, h2⟩ := h
    exact ⟨⟨cs, by rw [hb]; exact h1⟩, by rw [hβ]; exact h2⟩
  | elt τ n i W off =>
    obtain ⟨A, h1, h2, h3⟩ := h
    obtain ⟨A', k1, k2⟩ := key (Pe := ∃ b, (e'.ρ τ).ownBlock = some b ∧ v = .pointer (some ⟨b, i * W + off, none⟩)) h1 h2 fun hv => by rw [(har τ A h1).2]; exact hv
    exact ⟨A', k1, k2, h3⟩
  | any => exact h
  | np => exact h
  | adr ls => cases hc
  | nst τ j W off m => cases hc
  | nel τ j W off i => cases hc
  | vw τ n lo hi W => cases hc
theorem flatL_rel {e' : Env} {σ' : St} (hβ : e'.β = e.β) (hb : σ'.bx = σ.bx)
    (har : ∀ τ A, σ.ar.lookup τ = some A → (σ'.ar.lookup τ = some A ∨ ∃ B B', A = some B ∧ σ'.ar.lookup τ = some (some B') ∧ B'.es.length = B.es.length) ∧ e'.ρ τ = e.ρ τ) : ∀ {cs : List CV} {vs : List Value}, relL e σ w cs vs → flatCs cs = true → relL e' σ' w cs vs
  | [], _, h, _ => h
  | c :: cs, _, h, hc => by
    simp only [relL] at h ⊢
    obtain ⟨v, vs', rfl, h1, h2⟩ := h
    simp only [flatCs, Bool.and_eq_true] at hc
    exact ⟨v, vs', rfl, flatC_rel h1 hc.1 hβ hb har, flatL_rel hβ hb har h2 hc.2⟩
theorem flatPs_rel {e' : Env} {σ' : St} (hβ : e'.β = e.β) (hb : σ'.bx = σ.bx)
    (har : ∀ τ A, σ.ar.lookup τ = some A → (σ'.ar.lookup τ = some A ∨ ∃ B B', A = some B ∧ σ'.ar.lookup τ = some (some B') ∧ B'.es.length = B.es.length) ∧ e'.ρ τ = e.ρ τ) : ∀ {ps : List (Bool × List CV)} {vs : List Value}, ptsRel e σ w ps vs → flatPs ps = true → ptsRel e' σ' w ps vs
  | [], _, h, _ => h
  | (b, cs) :: ps, _, h, hc => by
    simp only [ptsRel] at h ⊢
    obtain ⟨v, vs', rfl, h1, h2⟩ := h
    simp only [flatPs, Bool.and_eq_true] at hc
    refine ⟨v, vs', rfl, ?_, flatPs_rel hβ hb har h2 hc.2⟩
    cases b
    · obtain ⟨c, rfl, h3⟩ := h1
      exact ⟨c, rfl, flatC_rel h3 (by have := hc.1; simp only [flatCs, Bool.and_true] at this; exact this) hβ hb har⟩
    · obtain ⟨us, h0, h3⟩ := h1
      exact ⟨us, h0, flatL_rel hβ hb har h3 hc.1⟩
theorem SimE.take (h : SimE N w0 e σ a w) (hfl : flatSt σ = true) {d τ j : Nat} {A : Arr} {el : List L} (hd : d < σ.nt) (hA : σ.ar.lookup τ = some (some A)) (hτ : τ < 1000000) (hfr : A.fr = true) (hel : A.es[j]? = some el)
    (hnew : ∀ q ∈ (impL (64 * d) el).2, σ.ar.lookup q.1 = none ∧ q.1 < 1000000) :
    ∃ e' b ve, (e.ρ τ).ownBlock = some b ∧ ve.length = el.length ∧ At w b (j * el.length) ve ∧ SimE N w0 e' (σ.took d τ j A el) (a.put (some d) (.agg ve.toArray)) w := by
  have hok := h.ar τ A hA
  obtain ⟨p, c, hv, hc, ⟨h0, _⟩ | ⟨b, t, cur, Fs, W, rfl, h1, h2, h3, h4, h5, h6, h7⟩⟩ := hok
  · rw [h0] at hel; simp at hel
  rcases h7 with ⟨_, k2, k3, k4⟩ | ⟨k1, _⟩
  rotate_left
  · rw [hfr] at k1; cases k1
  obtain ⟨hjl, _⟩ := List.getElem?_eq_some_iff.1 hel
  have hW : el.length = W := h5 el (List.mem_of_getElem? hel)
  obtain ⟨ve, F1, Fe, F2, rfl, g1, g2, g3, g4⟩ := k4.take hel h5
  obtain ⟨q, q1, q2, q3, q4, q5⟩ := impL_sound (τ := 64 * d) g1
  subst q3
  have hkeys : (q.map (·.τ)).Nodup := by
    have := (impL_keys el (64 * d)).1
    rw [← q1, List.map_map] at this
    exact this
  have hin : ∀ i ∈ q, σ.ar.lookup i.τ = none ∧ i.τ < 1000000 := fun i hi => hnew (i.τ, i.A) (by rw [← q1]; exact List.mem_map.2 ⟨i, hi, rfl⟩)
  have hne : ∀ i ∈ q, i.τ ≠ τ := fun i hi e' => by have := (hin i hi).1; rw [e', hA] at this; cases this
  have hnd : (F1 ++ (q.flatMap (·.F) ++ F2)).Nodup := by rw [k2] at k3; exact (List.nodup_cons.1 k3).2
  have hbn : b ∉ F1 ++ (q.flatMap (·.F) ++ F2) := by rw [k2] at k3; exact (List.nodup_cons.1 k3).1
  obtain ⟨n1, n2, n3⟩ := List.nodup_append.1 hnd
  obtain ⟨n4, n5, n6⟩ := List.nodup_append.1 n2
  let e' : Env := ⟨e.β, fun κ => ((q.find? (·.τ == κ)).map (·.v)).getD (e.ρ κ), fun κ => ((q.find? (·.τ == κ)).map (·.F)).getD (if κ = τ then b :: (F1 ++ F2) else e.φ κ), e.bad⟩
  have hρ : ∀ i ∈ q, e'.ρ i.τ = i.v := fun i hi => by simp [e', inc_find hkeys i hi]
  have hφ : ∀ i ∈ q, e'.φ i.τ = i.F := fun i hi => by simp [e', inc_find hkeys i hi]
  have hold : ∀ κ, (∃ A, σ.ar.lookup κ = some A) → κ ∉ q.map (·.τ) := fun κ ⟨A, hA⟩ hm => by
    obtain ⟨i, hi, rfl⟩ := List.mem_map.1 hm
    rw [(hin i hi).1] at hA; cases hA
  have hρ' : ∀ κ, κ ∉ q.map (·.τ) → e'.ρ κ = e.ρ κ := fun κ hκ => by simp [e', inc_find_none hκ]
  have hφ' : ∀ κ, κ ∉ q.map (·.τ) → e'.φ κ = if κ = τ then b :: (F1 ++ F2) else e.φ κ := fun κ hκ => by simp [e', inc_find_none hκ]
  have hτq : τ ∉ q.map (·.τ) := hold τ ⟨_, hA⟩
  have hnewar : (impL (64 * d) el).2.map (fun q => (q.1, some q.2)) = incAr q := by
    rw [← q1, List.map_map]; rfl
  have hlk : ∀ κ, (σ.took d τ j A el).ar.lookup κ = (incAr q ++ (τ, some (⟨true, A.es.set j (el.map voidL)⟩ : Arr)) :: σ.ar).lookup κ := fun κ => by simp only [St.took, hnewar]
  have hlook : ∀ κ B, (σ.took d τ j A el).ar.lookup κ = some (some B) → (∃ i ∈ q, i.τ = κ ∧ B = i.A) ∨ (κ = τ ∧ B = ⟨true, A.es.set j (el.map voidL)⟩) ∨ (κ ∉ q.map (·.τ) ∧ κ ≠ τ ∧ σ.ar.lookup κ = some (some B)) := fun κ B hB => by
    rw [hlk] at hB
    by_cases hm : κ ∈ q.map (·.τ)
    · obtain ⟨i, hi, rfl⟩ := List.mem_map.1 hm
      rw [incAr_some hkeys i hi] at hB
      exact .inl ⟨i, hi, rfl, (Option.some.inj (Option.some.inj hB)).symm⟩
    · rw [incAr_none hm, lookup_cons] at hB
      by_cases hk : κ = τ
      · rw [if_pos hk] at hB; exact .inr (.inl ⟨hk, (Option.some.inj (Option.some.inj hB)).symm⟩)
      · rw [if_neg hk] at hB; exact .inr (.inr ⟨hm, hk, hB⟩)
  have har : ∀ κ B, σ.ar.lookup κ = some B → ((σ.took d τ j A el).ar.lookup κ = some B ∨ ∃ C C', B = some C ∧ (σ.took d τ j A el).ar.lookup κ = some (some C') ∧ C'.es.length = C.es.length) ∧ e'.ρ κ = e.ρ κ := fun κ B hB => by
    have hm := hold κ ⟨_, hB⟩
    refine ⟨?_, hρ' κ hm⟩
    rw [hlk, incAr_none hm, lookup_cons]
    by_cases hk : κ = τ
    · subst hk
      rw [hA] at hB
      obtain rfl := Option.some.inj hB
      exact .inr ⟨A, _, rfl, by rw [if_pos rfl], by simp⟩
    · rw [if_neg hk]; exact .inl hB
  simp only [flatSt, Bool.and_eq_true] at hfl
  obtain ⟨f1, f2, f3⟩ := hfl
  have hbk : ∀ κ B, σ.ar.lookup κ = some (some B) → B.fr = true := fun κ B hB => flatAr_mem f3 κ B (lookup_mem hB)
  have sub : ∀ κ, live (σ.took d τ j A el) κ → ∃ κ0, live σ κ0 ∧ (∀ x ∈ blk e' κ, x ∈ blk e κ0) ∧ (κ0 = κ ∨ (κ0 = .a τ ∧ ∃ i ∈ q, κ = .a i.τ)) := fun κ hl => by
    cases κ with
    | b k => exact ⟨.b k, hl, fun x hx => hx, .inl rfl⟩
    | a κ =>
      obtain ⟨B, hB⟩ := hl
      rcases hlook κ B hB with ⟨i, hi, rfl, _⟩ | ⟨rfl, _⟩ | ⟨g5, g6, g7⟩
      · refine ⟨.a τ, ⟨A, hA⟩, fun x hx => ?_, .inr ⟨rfl, i, hi, rfl⟩⟩
        simp only [blk, hφ i hi] at hx
        simp only [blk, k2, List.mem_cons, List.mem_append]
        exact .inr (.inr (.inl (mem_flat hi hx)))
      · refine ⟨.a κ, ⟨A, hA⟩, fun x hx => ?_, .inl rfl⟩
        simp only [blk, hφ' κ hτq, if_true] at hx
        simp only [blk, k2, List.mem_cons, List.mem_append] at hx ⊢
        rcases hx with hx | hx | hx
        · exact .inl hx
        · exact .inr (.inl hx)
        · exact .inr (.inr (.inr hx))
      · refine ⟨.a κ, ⟨B, g7⟩, fun x hx => ?_, .inl rfl⟩
        simp only [blk, hφ' κ g5, if_neg g6] at hx
        exact hx
  have ndK : ∀ κ κ0, (κ0 = κ ∨ (κ0 = .a τ ∧ ∃ i ∈ q, κ = .a i.τ)) → (deepK κ ↔ deepK κ0) := fun κ κ0 hκ => by
    rcases hκ with rfl | ⟨rfl, i, hi, rfl⟩
    · exact Iff.rfl
    · have := (hin i hi).2
      simp only [deepK]
      omega
  refine ⟨e', b, ve, by rw [hv]; rfl, by rw [g2, hW], fun i u hu => ?_, ?_⟩
  · rw [cell_of_row w b _ cur t (0, 0) h2, hW]
    have := g3 i u hu
    rw [List.getElem?_take] at this
    split at this
    · simpa using this
    · cases this
  refine ⟨by rw [act_put_size]; exact h.nt, by rw [act_put_defers]; exact h.df, fun s x hs => ?_, fun k cs hk => ?_, fun κ B hB => ?_, fun κ κ' hl hl' hne' x hx hx' => ?_, h.fr, ⟨h.bad.1, fun x hx => ⟨(h.bad.2 x hx).1, fun κ hl hm => ?_⟩⟩, fun κ hl hdp x hx => ?_, h.pn⟩
  · have hs' : ((d, V.agg (impL (64 * d) el).1) :: σ.tm).lookup s = some x := hs
    rw [lookup_cons] at hs'
    by_cases hsd : s = d
    · subst hsd
      rw [if_pos rfl] at hs'
      obtain rfl := Option.some.inj hs'
      rw [act_put_same a s _ (by rw [h.nt]; exact hd)]
      exact ⟨ve, rfl, q4 e' _ fun i hi => ⟨hρ i hi, by rw [hlk]; exact incAr_some hkeys i hi⟩⟩
    · rw [if_neg hsd] at hs'
      rw [act_put_other a d s _ hsd]
      have hr := h.tm s x hs'
      have hfx := flatTm_mem f1 _ (lookup_mem hs')
      cases x with
      | one c => exact flatC_rel (c := c) hr hfx rfl rfl har
      | agg cs => obtain ⟨vs, h0, hr⟩ := hr; exact ⟨vs, h0, flatL_rel (e := e) (σ := σ) (e' := e') (σ' := σ.took d τ j A el) rfl rfl har hr hfx⟩
      | tup ps => obtain ⟨vs, h0, hr⟩ := hr; exact ⟨vs, h0, flatPs_rel (e := e) (σ := σ) (e' := e') (σ' := σ.took d τ j A el) rfl rfl har hr hfx⟩
      | dead => exact hr
  · obtain ⟨c1, cu, ty, c2, c3⟩ := h.bx k cs hk
    exact ⟨c1, cu, ty, c2, flatL_rel (e := e) (σ := σ) (e' := e') (σ' := σ.took d τ j A el) rfl rfl har c3 (flatBx_mem f2 _ (lookup_mem hk))⟩
  · rcases hlook κ B hB with ⟨i, hi, rfl, rfl⟩ | ⟨rfl, rfl⟩ | ⟨g5, g6, g7⟩
    · rw [hρ i hi, hφ i hi]
      exact ArrOk.of_inc (q2 i hi) (fun _ h => h) (flat_one n4 i hi)
    · rw [hρ' κ hτq, hφ' κ hτq, if_pos rfl, hv]
      have hlen : (A.es.set j (el.map voidL)).length = A.es.length := by simp
      refine ⟨_, c, by rw [hlen], hc, .inr ⟨b, t, cur, F1 ++ F2, W, rfl, h1, h2, by rw [hlen]; exact h3, h4, fun x hx => ?_, fun h9 => ?_, .inl ⟨rfl, rfl, ?_, by rw [hlen]; exact g4⟩⟩⟩
      · rcases List.mem_or_eq_of_mem_set hx with h9 | rfl
        · exact h5 x h9
        · rw [List.length_map]; exact hW
      · have := congrArg List.length h9
        rw [hlen] at this
        simp at this
        rw [this] at hjl; simp at hjl
      · refine List.nodup_cons.2 ⟨fun hm => hbn ?_, List.nodup_append.2 ⟨n1, n5, fun x hx y hy => n3 x hx y (List.mem_append_right _ hy)⟩⟩
        rcases List.mem_append.1 hm with hm | hm
        · exact List.mem_append_left _ hm
        · exact List.mem_append_right _ (List.mem_append_right _ hm)
    · rw [hρ' κ g5, hφ' κ g5, if_neg g6]
      obtain ⟨p', c', r1, r2, r3 | ⟨b', t', cur', Fs', W', s1, s2, s3, s4, s5, s6, s7, s8⟩⟩ := h.ar κ B g7
      · exact ⟨p', c', r1, r2, .inl r3⟩
      · refine ⟨p', c', r1, r2, .inr ⟨b', t', cur', Fs', W', s1, s2, s3, s4, s5, s6, s7, ?_⟩⟩
        rcases s8 with s8 | ⟨s8, _⟩
        · exact .inl s8
        · rw [hbk κ B g7] at s8; cases s8
  · obtain ⟨κ0, l1, l2, l3⟩ := sub κ hl
    obtain ⟨κ1, l4, l5, l6⟩ := sub κ' hl'
    by_cases h9 : κ0 = κ1
    · subst h9
      have self : ∀ i ∈ q, live (σ.took d τ j A el) (.a τ) → x ∈ blk e' (.a τ) → x ∈ blk e' (.a i.τ) → False := fun i hi _ m1 m2 => by
        simp only [blk, hφ' τ hτq, if_true, List.mem_cons, List.mem_append] at m1
        simp only [blk, hφ i hi] at m2
        have m3 := mem_flat hi m2
        rcases m1 with rfl | m1 | m1
        · exact hbn (List.mem_append_right _ (List.mem_append_left _ m3))
        · exact n3 x m1 x (List.mem_append_left _ m3) rfl
        · exact n6 x m3 x m1 rfl
      rcases l3 with rfl | ⟨rfl, i, hi, rfl⟩ <;> rcases l6 with e9 | ⟨e9, i', hi', rfl⟩
      · exact hne' e9
      · subst e9; exact self i' hi' hl hx hx'
      · subst e9; exact self i hi hl' hx' hx
      · simp only [blk, hφ i hi, hφ i' hi'] at hx hx'
        exact flat_apart n4 i hi i' hi' (fun e9 => hne' (by rw [e9])) x hx hx'
    · exact h.sep κ0 κ1 l1 l4 h9 x (l2 x hx) (l5 x hx')
  · obtain ⟨κ0, l1, l2, l3⟩ := sub κ hl
    exact (ndK κ κ0 l3).2 ((h.bad.2 x hx).2 κ0 l1 (l2 x hm))
  · obtain ⟨κ0, l1, l2, l3⟩ := sub κ hl
    exact h.dk κ0 l1 ((ndK κ κ0 l3).1 hdp) x (l2 x hx)
def numOk (σ : St) : List (Nat × Arr) → Bool
  | [] => true
  | q :: r => (σ.ar.lookup q.1).isNone && (decide (q.1 < 1000000) && numOk σ r)
theorem numOk_mem : ∀ {l : List (Nat × Arr)}, numOk σ l = true → ∀ q ∈ l, σ.ar.lookup q.1 = none ∧ q.1 < 1000000
  | [], _, _, hq => by simp at hq
  | p :: l, h, q, hq => by
    simp only [numOk, Bool.and_eq_true, Option.isNone_iff_eq_none, decide_eq_true_eq] at h
    rcases List.mem_cons.1 hq with rfl | hq
    · exact ⟨h.1, h.2.1⟩
    · exact numOk_mem h.2.2 q hq
def tkEl (P : Program) (ops : Array Oper) (rest : List Oper) (σ : St) (K : St → Prop) (d τ n j W : Nat) (i : TI) (A : Arr) : Option (List L) → Prop
  | some el => A.es.length = n ∧ τ < 1000000 ∧ A.fr = true ∧ el.length = W ∧ i.size = W ∧ i.td.agg = some true ∧ d < σ.nt ∧ flatSt σ = true ∧ numOk σ (impL (64 * d) el).2 = true ∧ awpOps P ops rest (σ.took d τ j A el) K
  | none => False
def tkAr (P : Program) (ops : Array Oper) (rest : List Oper) (σ : St) (K : St → Prop) (d τ n j W : Nat) (i : TI) : Option (Option Arr) → Prop
  | some (some A) => tkEl P ops rest σ K d τ n j W i A A.es[j]?
  | _ => False
def tkTi (P : Program) (ops : Array Oper) (rest : List Oper) (σ : St) (K : St → Prop) (d : Nat) : Option TI → Option V → Prop
  | some i, some (.one (.elt τ n j W 0)) => tkAr P ops rest σ K d τ n j W i (σ.ar.lookup τ)
  | _, _ => False
def tkK (P : Program) (ops : Array Oper) (σ : St) (K : St → Prop) : List Oper → Prop
  | ⟨some d, .load t p, _, _, _, none⟩ :: rest => tkTi P ops rest σ K d (ti P t) (opd σ p)
  | _ => False
theorem tkK_sound {Q : Exit → Act → World → Prop} {l : List Oper} {K : St → Prop} (hw : tkK P ops σ K l) (hs : Sim N w0 σ a w) (hQ : ∀ σ' a' w', K σ' → Sim N w0 σ' a' w' → Q .normal a' w') : wpList P ops Q l a w := by
  obtain ⟨e, h⟩ := hs
  unfold tkK at hw
  split at hw
  · rename_i d t p ty pos af rest
    unfold tkTi at hw
    split at hw
    · rename_i _ _ i τ n j W hi hp
      unfold tkAr at hw
      split at hw
      · rename_i A hA
        unfold tkEl at hw
        split at hw
        · rename_i el hel
          obtain ⟨c1, c2, c3, c4, c5, c6, c7, c8, c9, hrest⟩ := hw
          obtain ⟨A', hA', r1, _⟩ := opd_rel h hp
          rw [hA] at hA'
          obtain rfl := Option.some.inj hA'
          obtain ⟨b, hb, hpv⟩ := (r1 A rfl).2 c1
          obtain ⟨e', b', ve, k1, k2, k3, k4⟩ := h.take c8 c7 hA c2 c3 hel fun q hq => numOk_mem c9 q hq
          rw [hb] at k1
          obtain rfl := Option.some.inj k1
          obtain ⟨u, m1, m2, _⟩ := run_loadVar_at (P := P) k3 hi (by rw [k2, c4, c5]) c6 (by simp)
          have m3 := m2 rfl
          subst m3
          refine wpList_step fun K' hK' => ?_
          simp only [Region.wanted, if_true]
          have : (execOp a.eval ⟨some d, .load t p, ty, pos, af, none⟩).run P w = .ok (.value (.agg ve.toArray)) w := by
            refine exec_of (s := Instr.loadAt t (a.eval p)) rfl ?_
            rw [hpv, Nat.add_zero, ← c4]
            simp [Instr.loadAt, Instr.sureAddr, m1]
          unfold Oper.wp
          rw [this, Oper.upon_value]
          exact hK' _ _ (awpOps_sound hrest ⟨e', k4⟩ hQ)
        · exact hw.elim
      · exact hw.elim
    · exact hw.elim
  · exact hw.elim
theorem AW_take {Q : Exit → St → Prop} {id : Nat} {l : List Oper} (n : Nat) (h : awpOps P l.toArray (l.take n) σ (fun σ1 => tkK P l.toArray σ1 (fun σ' => Q .normal σ') (l.drop n))) : AW P N w0 (.region id l.toArray false) Q σ := fun a w hs => by
  refine wp_region_lit ?_
  have := awpOps_then (Q := fun e a w => ∃ σ', Q e σ' ∧ Sim N w0 σ' a w) (tail := l.drop n) h hs fun σ' a' w' h1 h2 => tkK_sound h1 h2 fun σ' a' w' h1 h2 => ⟨σ', h1, h2⟩
  rwa [List.take_append_drop] at this
end
def St.renL : List (Nat × Nat) → St → St
  | [], σ => σ
  | p :: q, σ => St.renL q (σ.ren p.1 p.2)
def renOk : List (Nat × Nat) → St → Prop
  | [], _ => True
  | p :: q, σ => (match σ.ar.lookup p.1 with | some (some _) => True | _ => False) ∧ σ.ar.lookup p.2 = none ∧ p.1 < 1000000 ∧ p.2 < 1000000 ∧ renOk q (σ.ren p.1 p.2)
theorem renL_into : ∀ {q : List (Nat × Nat)} {σ : St}, renOk q σ → Into (St.renL q σ) σ
  | [], _, _ => fun _ _ _ _ h => h
  | p :: q, σ, ⟨h1, h2, h3, h4, h5⟩ => fun N w0 a w hs => renL_into h5 N w0 a w (ren_into h1 h2 h3 h4 N w0 a w hs)
theorem fin_rn {σ : St} {ι : Type} {S : ι → St} {I : ι → Prop} {K : St → Prop} (hK : ∀ i σ', I i → Into (S i) σ' → K σ') (q : List (Nat × Nat)) (σ1 : St) (i : ι) (hi : I i) (h1 : Lift σ1 σ := by constructor <;> simp [go_sem, F])
    (hA : renOk q σ1 := by simp [go_sem, renOk]) (h : Lift (S i) (St.renL q σ1) := by constructor <;> simp [go_sem, St.renL, F]) : K σ := hK i σ hi fun N w0 a w hs => h.into N w0 a w (renL_into hA N w0 a w (h1.into N w0 a w hs))
end Go.Proofs.YtbknilpmpjjfpaaGreat.Am
