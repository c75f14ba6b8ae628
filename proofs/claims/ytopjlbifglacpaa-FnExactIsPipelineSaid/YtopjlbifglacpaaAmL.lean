/- append to an array of the call's own, and stores into one. -/
import Derived.Test.YtopjlbifglacpaaAmK
set_option linter.unusedSimpArgs false
set_option linter.unusedVariables false
namespace Go.Proofs.Ytopjlbifglacpaa.Am
open Go.RowKit

section
variable {e : Env} {σ : St} {w : World} {N : Nat → Prop} {w0 : Bs} {a : Act} {P : Program}

/-- The source of an append: its elements, and what is given away with them. -/
structure Src (N : Nat → Prop) (e : Env) (σ : St) (w : World) (v : Value) (ys : List (List L)) (W : Nat) (f : Bool) (τs : List Nat) : Prop where
  ex : ∃ A c us Fx, v = .slice A ys.length c ∧ us.length = ys.length * W ∧ (A = none → ys.length = 0) ∧ (∀ ad, A = some ad → ∀ j u, us[j]? = some u → w.cell? (ad.add j) = some u) ∧ (∀ u ∈ us, u.oneCell' = true) ∧
    RpE w ys us Fx ∧ Given e σ τs Fx ∧ (f = true → ∃ G, OwE N w ys us G ∧ G.Nodup ∧ ∀ b ∈ G, ∃ κ ∈ τs, b ∈ e.φ κ)
  lv : ∀ κ ∈ τs, ∃ B, σ.ar.lookup κ = some (some B) ∧ κ < 1000000

theorem Rp.one {x : L} {v : Value} {F : List Nat} (h : Rp w x v F) : v.oneCell' = true := by
  cases x <;> simp only [Rp] at h
  · rw [h.1]; rfl
  · rw [h.1]; rfl
  · rw [h.1]; rfl
  · obtain ⟨A, c, h, _⟩ := h; rw [h]; rfl
theorem RpL.one : ∀ {xs : List L} {vs : List Value} {F : List Nat}, RpL w xs vs F → ∀ u ∈ vs, u.oneCell' = true
  | [], _, _, h => by simp only [RpL] at h; simp [h.1]
  | _ :: _, _, _, h => by
    simp only [RpL] at h
    obtain ⟨v, vs', F1, F2, rfl, rfl, h1, h2⟩ := h
    intro u hu
    rcases List.mem_cons.1 hu with rfl | hu
    · exact h1.one
    · exact RpL.one h2 u hu
theorem RpE.one : ∀ {xs : List (List L)} {vs : List Value} {F : List Nat}, RpE w xs vs F → ∀ u ∈ vs, u.oneCell' = true
  | [], _, _, h => by simp only [RpE] at h; simp [h.1]
  | _ :: _, _, _, h => by
    simp only [RpE] at h
    obtain ⟨v1, v2, F1, F2, rfl, rfl, h1, h2⟩ := h
    intro u hu
    rcases List.mem_append.1 hu with hu | hu
    · exact h1.one u hu
    · exact RpE.one h2 u hu

theorem SimE.appendTo (h : SimE N w0 e σ a w) {d τ : Nat} (hd : d < σ.nt) {A0 : Arr} {v : Value}
    (hA : (σ.ar.lookup τ = some (some A0) ∧ v = e.ρ τ) ∨ (σ.ar.lookup τ = none ∧ v = .slice none 0 0 ∧ A0 = ⟨true, []⟩)) {x : Value} {ys : List (List L)} {W : Nat} {f : Bool} {τs : List Nat} (hs : Src N e σ w x ys W f τs) (hτ : τ ∉ τs) (hdp : τ < 1000000)
    {t ty et : Nat} {ei : TI} (ht : P.underlying t = some (.slice et)) (hi : ti P et = some ei) (hsz : ei.size = W) (hz : ei.zero.length = W)
    (hW : ∀ z ∈ A0.es ++ ys, z.length = W) (hb1 : A0.es.length + ys.length ≤ 140737488355328) (hb2 : (A0.es.length + ys.length) * ei.bytes ≤ 140737488355328) :
    ∃ v' w' e', (Builtin.append_ #[t, t] ty #[v, x]).run P w = .ok v' w' ∧
      SimE N w0 e' (stA σ ((d, .one (.own τ (A0.es.length + ys.length))) :: σ.tm) τ ⟨A0.fr && f, A0.es ++ ys⟩ τs) (a.put (some d) v') w' := by
  obtain ⟨Ax, c, us, Fx, rfl, hul, hAx, hnews, h1, hrx, hgx, hox⟩ := hs.ex
  have hlv := hs.lv
  obtain ⟨j, dd, z, j1, j2, j3, j4, j5, j6, j7⟩ := ti_spec hi
  have hok : ∃ F0, ArrOk N (Mut e σ) w A0 v F0 ∧ ∀ b ∈ F0, ∃ A, σ.ar.lookup τ = some (some A) ∧ b ∈ e.φ τ := by
    rcases hA with ⟨hA, rfl⟩ | ⟨hA, rfl, rfl⟩
    · exact ⟨_, h.ar τ A0 hA, fun b hb => ⟨A0, hA, hb⟩⟩
    · exact ⟨[], ⟨none, 0, rfl, by omega, .inl ⟨rfl, rfl, rfl, rfl⟩⟩, by simp⟩
  obtain ⟨F0, hok, hF0⟩ := hok
  have hWe : ∀ z ∈ A0.es, z.length = W := fun z hz => hW z (by simp [hz])
  obtain ⟨te, xs, Fs, r1, r2, r3, r4, r5⟩ := hok.row hWe
  have vtop : ∀ b, v.ownBlock = some b → ∃ A, σ.ar.lookup τ = some (some A) ∧ (e.ρ τ).ownBlock = some b := by
    intro b hb
    rcases hA with ⟨hA, rfl⟩ | ⟨hA, rfl, rfl⟩
    · exact ⟨A0, hA, hb⟩
    · simp [Value.ownBlock] at hb
  have vmut : ∀ b, v.ownBlock = some b → Mut e σ b := fun b hb => by obtain ⟨A, g1, g2⟩ := vtop b hb; exact .inr (.inr ⟨τ, A, g1, g2⟩)
  obtain ⟨v', w', te', hrun, g1, g2, g3, g4⟩ := run_append_any (P := P) (w := w) 0 t ty et te j z W ei.bytes ht j1 j3 (by rw [j5, hsz]) j6 (by rw [← hz, ← j7]; simp) v A0.es.length xs r1 Ax ys.length c us hul hAx hnews h1 hb1 hb2 (Nat.zero_le _)
  have hFs : ∀ b ∈ Fs, ¬ Mut e σ b := by
    intro b hb
    cases hf : A0.fr
    · exact r4 hf b hb
    · obtain ⟨k1, k2, k3, k4⟩ := r3 hf
      obtain ⟨A, q1, q2⟩ := hF0 b (k3 b hb)
      rcases hA with ⟨hA, rfl⟩ | ⟨hA, rfl, rfl⟩
      · rw [hA] at q1
        obtain rfl := Option.some.inj (Option.some.inj q1)
        exact h.inner hA hdp q2 (fun e' => k4 b e' hb)
      · rw [hA] at q1; cases q1
  have hFslt : ∀ b ∈ Fs, b < w.heap.size := r2.lt
  have hFxlt : ∀ b ∈ Fx, b < w.heap.size := hrx.lt
  have given : Given e σ τs (Fs ++ Fx) := by
    intro b hb
    rcases List.mem_append.1 hb with hb | hb
    · exact .inl (hFs b hb)
    · exact hgx b hb
  have notTop : ∀ b ∈ Fs ++ Fx, v.ownBlock ≠ some b := by
    intro b hb hv
    rcases given b hb with k | ⟨κ, k1, k2⟩
    · exact k (vmut b hv)
    · obtain ⟨B, hB, _⟩ := hlv κ k1
      obtain ⟨A, q1, q2⟩ := vtop b hv
      exact h.sep (.a τ) (.a κ) ⟨A, q1⟩ ⟨B, hB⟩ (by rintro ⟨⟩; exact hτ k1) b ((h.ar τ A q1).own q2).1 ((h.ar κ B hB).own k2).1
  have keep : ∀ b, b < w.heap.size → v.ownBlock ≠ some b → w'.heap[b]? = w.heap[b]? := fun b hb hv => g2.block b hb (Ne.symm hv)
  have htop : ∀ b, v'.ownBlock = some b → (∃ A, σ.ar.lookup τ = some (some A) ∧ (e.ρ τ).ownBlock = some b) ∨ w.heap.size ≤ b := by
    intro b hb
    rcases g3 with g3 | g3
    · exact .inl (vtop b (g3 ▸ hb))
    · rw [hb] at g3
      obtain rfl := Option.some.inj g3
      exact .inr (Nat.le_refl _)
  have hlen : (A0.es ++ ys).length = A0.es.length + ys.length := List.length_append
  obtain ⟨G, hG⟩ : ∃ G : List Nat, f = true → OwE N w ys us G ∧ G.Nodup ∧ ∀ b ∈ G, ∃ κ ∈ τs, b ∈ e.φ κ := by
    cases f
    · exact ⟨[], by simp⟩
    · obtain ⟨G, q⟩ := hox rfl
      exact ⟨G, fun _ => q⟩
  have hform : ∃ p n c, v' = .slice p n c ∧ n = A0.es.length + ys.length := by
    rcases g1.2 with ⟨q, q'⟩ | ⟨_, _, _, q, _⟩
    · exact ⟨_, _, _, q, q'.symm⟩
    · exact ⟨_, _, _, q, rfl⟩
  have okN := ArrOk.of_row (N := N) (M := Mut (envA e τ v' (match v'.ownBlock with | some b => if A0.fr && f then b :: (if A0.fr && f then Fs ++ G else Fs ++ Fx) else [b] | none => [])) (stA σ ((d, .one (.own τ (A0.es.length + ys.length))) :: σ.tm) τ ⟨A0.fr && f, A0.es ++ ys⟩ τs)) (A := ⟨A0.fr && f, A0.es ++ ys⟩) (v := v') (te := te') (W := W) (xs := xs ++ us) (Fs := if A0.fr && f then Fs ++ G else Fs ++ Fx) (w := w')
    (by rw [show (Arr.mk (A0.fr && f) (A0.es ++ ys)).es.length = A0.es.length + ys.length from hlen]; exact g1)
    (fun b hb => by
      rcases htop b hb with ⟨A, q1, q2⟩ | q
      · exact ((h.ar τ A q1).own q2).2.1
      · exact h.fr.new b (Nat.le_trans h.fr.size q))
    hW
    (fun he p n c hv => by
      have he' : A0.es ++ ys = [] := he
      obtain ⟨e1, e2⟩ := List.append_eq_nil_iff.1 he'
      have := g4 (by simp [e2])
      exact r5 e1 p n c (this ▸ hv))
    (fun hf => by
      have hf' : (A0.fr && f) = true := hf
      simp only [Bool.and_eq_true] at hf'
      obtain ⟨k1, k2, k3, k4⟩ := r3 hf'.1
      obtain ⟨q1, q2, q3⟩ := hG hf'.2
      rw [if_pos (by simp [hf'.1, hf'.2])]
      have hGin : ∀ b ∈ G, ∃ κ ∈ τs, ∃ B, σ.ar.lookup κ = some (some B) ∧ b ∈ e.φ κ := fun b hb => by
        obtain ⟨κ, m1, m2⟩ := q3 b hb
        obtain ⟨B, hB, _⟩ := hlv κ m1
        exact ⟨κ, m1, B, hB, m2⟩
      have hGlt : ∀ b ∈ G, b < w.heap.size := fun b hb => by
        obtain ⟨κ, m1, B, hB, m2⟩ := hGin b hb
        exact (h.blk_lt (κ := .a κ) ⟨B, hB⟩ b m2).1
      have hGtop : ∀ b ∈ G, v.ownBlock ≠ some b := fun b hb hv => by
        obtain ⟨κ, m1, B, hB, m2⟩ := hGin b hb
        obtain ⟨A, p1, p2⟩ := vtop b hv
        exact h.sep (.a τ) (.a κ) ⟨A, p1⟩ ⟨B, hB⟩ (by rintro ⟨⟩; exact hτ m1) b ((h.ar τ A p1).own p2).1 m2
      refine ⟨(k1.keep ⟨g2.size, fun b hb => keep b (hFslt b hb) (notTop b (by simp [hb]))⟩).append (q1.keep ⟨g2.size, fun b hb => keep b (hGlt b hb) (hGtop b hb)⟩), ?_, fun b hb hm => ?_⟩
      · refine List.nodup_append.2 ⟨k2, q2, fun b hb b' hb' hbb => ?_⟩
        subst hbb
        obtain ⟨A, p1, p2⟩ := hF0 b (k3 b hb)
        obtain ⟨κ, m1, B, hB, m2⟩ := hGin b hb'
        exact h.sep (.a τ) (.a κ) ⟨A, p1⟩ ⟨B, hB⟩ (by rintro ⟨⟩; exact hτ m1) b p2 m2
      · rcases g3 with g3 | g3
        · rw [g3] at hb
          rcases List.mem_append.1 hm with hm | hm
          · exact k4 b hb hm
          · exact hGtop b hm hb
        · rw [hb] at g3
          obtain rfl := Option.some.inj g3
          rcases List.mem_append.1 hm with hm | hm
          · have := hFslt _ hm; omega
          · have := hGlt _ hm; omega)
    (fun hf => by
      have hf' : (A0.fr && f) = false := hf
      have hif : (if (A0.fr && f) = true then Fs ++ G else Fs ++ Fx) = Fs ++ Fx := by rw [if_neg (by simp [hf'])]
      rw [hif]
      refine ⟨(r2.keep ⟨g2.size, fun b hb => keep b (hFslt b hb) (notTop b (by simp [hb]))⟩).append (hrx.keep ⟨g2.size, fun b hb => keep b (hFxlt b hb) (notTop b (by simp [hb]))⟩), ?_⟩
      exact given_after h given hlv hτ (fun b hb => by rcases List.mem_append.1 hb with hb | hb <;> first | exact hFslt b hb | exact hFxlt b hb) htop)
  refine ⟨v', w', _, hrun, h.setArr (row := v.ownBlock) hdp hlv hτ g2 vtop (fun A hA' => ?_) htop (fun b hb => ?_) okN (by rw [act_put_size]; exact h.nt) (by rw [act_put_defers]; exact h.df)
    (fun u => tm_put (by rw [h.nt]; exact hd) ⟨some _, by rw [stA_lookup, if_pos rfl], fun B hB => ?_, ?_⟩)⟩
  · rcases hA with ⟨hA, rfl⟩ | ⟨hA, rfl, rfl⟩
    · rw [hA] at hA'
      obtain rfl := Option.some.inj hA'
      exact ⟨A0, rfl, by simp, fun hn => g4 (by simpa using hn)⟩
    · rw [hA] at hA'; cases hA'
  · cases hv : v'.ownBlock with
    | none => rw [hv] at hb; simp at hb
    | some b' =>
      rw [hv] at hb
      have top : b = b' → (∃ A, σ.ar.lookup τ = some (some A) ∧ b ∈ e.φ τ) ∨ (∃ κ ∈ τs, b ∈ e.φ κ) ∨ w.heap.size ≤ b := by
        rintro rfl
        rcases htop b hv with ⟨A, q1, q2⟩ | q
        · exact .inl ⟨A, q1, ((h.ar τ A q1).own q2).1⟩
        · exact .inr (.inr q)
      cases hf : A0.fr && f
      · simp only [hf, Bool.false_eq_true, if_false, List.mem_singleton] at hb
        exact top hb
      · simp only [hf, if_true] at hb
        simp only [Bool.and_eq_true] at hf
        rcases List.mem_cons.1 hb with hb | hb
        · exact top hb
        · rcases List.mem_append.1 hb with hb | hb
          · exact .inl (hF0 b ((r3 hf.1).2.2.1 b hb))
          · exact .inr (.inl ((hG hf.2).2.2 b hb))
  · obtain rfl := Option.some.inj hB
    exact ⟨by simp, fun _ => by simp [envA]⟩
  · obtain ⟨p, n, c, q1, q2⟩ := hform
    exact ⟨p, c, by rw [q1, q2], by omega⟩
end

end Go.Proofs.Ytopjlbifglacpaa.Am
