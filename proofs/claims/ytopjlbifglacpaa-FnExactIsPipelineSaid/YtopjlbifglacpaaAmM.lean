/- Stores into an array of the call's own. -/
import Derived.Test.YtopjlbifglacpaaAmL
set_option linter.unusedSimpArgs false
set_option linter.unusedVariables false
namespace Go.Proofs.Ytopjlbifglacpaa.Am
open Go.RowKit

section
variable {e : Env} {σ : St} {w : World} {N : Nat → Prop} {w0 : Bs} {a : Act} {P : Program}

theorem take_splice {cur : List Value} {n k : Nat} {us : List Value} (h : k + us.length ≤ n) (hn : n ≤ cur.length) : (cur.take k ++ us ++ cur.drop (k + us.length)).take n = (cur.take n).take k ++ us ++ (cur.take n).drop (k + us.length) := by
  have h1 : (cur.take k ++ us).length = k + us.length := by simp; omega
  rw [List.take_append, h1, List.take_of_length_le (by rw [h1]; exact h), List.take_take, Nat.min_eq_left (by omega), List.drop_take]

/-- Some cells of an array are written, its length stays. -/
theorem SimE.inPlace (h : SimE N w0 e σ a w) {τ : Nat} {A : Arr} (hA : σ.ar.lookup τ = some (some A)) {W : Nat} (hW : ∀ z ∈ A.es, z.length = W) {g : Nat} (hg : (e.ρ τ).ownBlock = some g)
    {es' : List (List L)} {f : Bool} {τs : List Nat} {k : Nat} {us : List Value} (hl : ∀ κ ∈ τs, ∃ B, σ.ar.lookup κ = some (some B) ∧ κ < 1000000) (hτ : τ ∉ τs) (hdp : τ < 1000000) (hlen : es'.length = A.es.length) (hW' : ∀ z ∈ es', z.length = W) (hk : k + us.length ≤ A.es.length * W) (h1 : ∀ u ∈ us, u.oneCell' = true)
    (hR : ∀ xs Fs, RpE w A.es xs Fs → (∀ b ∈ Fs, ¬ Mut e σ b) → xs.length = A.es.length * W → ∃ F, RpE w es' (xs.take k ++ us ++ xs.drop (k + us.length)) F ∧ Given e σ τs F)
    (hO : A.fr = true → f = true → ∀ xs Fs, OwE N w A.es xs Fs → Fs.Nodup → (∀ b ∈ Fs, b ∈ e.φ τ) → xs.length = A.es.length * W → ∃ F, OwE N w es' (xs.take k ++ us ++ xs.drop (k + us.length)) F ∧ F.Nodup ∧ ∀ b ∈ F, b ∈ Fs ∨ ∃ κ ∈ τs, b ∈ e.φ κ)
    {tm : List (Nat × V)} {a' : Act} (hnt : a'.tmps.size = σ.nt) (hdf : a'.defers = [])
    (htm : ∀ t x, tm.lookup t = some x → (σ.tm.lookup t = some x ∧ a'.tmps.getD t undef = a.tmps.getD t undef) ∨ ∃ k n, x = .one (.l (.int k n)) ∧ InK k n ∧ a'.tmps.getD t undef = .int k n) :
    ∃ w' e', (storeCells ⟨g, k, none⟩ us).run P w = .ok () w' ∧ SimE N w0 e' (stA σ tm τ ⟨A.fr && f, es'⟩ τs) a' w' := by
  have hok := h.ar τ A hA
  obtain ⟨te, xs, Fs, r1, r2, r3, r4, r5⟩ := hok.row hW
  have gmut : Mut e σ g := .inr (.inr ⟨τ, A, hA, hg⟩)
  have hFs : ∀ b ∈ Fs, ¬ Mut e σ b := by
    intro b hb
    cases hf : A.fr
    · exact r4 hf b hb
    · obtain ⟨k1, k2, k3, k4⟩ := r3 hf
      exact h.inner hA hdp (k3 b hb) (fun e' => k4 b e' hb)
  have hxl : xs.length = A.es.length * W := r1.1
  rcases r1.2 with ⟨hv, _⟩ | ⟨g', cap, cur, hv, _, hh, hnc, hcm, hcs, htake⟩
  · rw [hv] at hg; simp [Value.ownBlock] at hg
  · rw [hv] at hg
    simp [Value.ownBlock] at hg
    subst hg
    have hcl : A.es.length * W ≤ cur.toList.length := by rw [Array.length_toList, hcs]; exact Nat.mul_le_mul_right _ hnc
    have hst := run_storeCells_at P g' k te us 0 cur w hh (by rw [Array.length_toList] at hcl; omega) h1
    rw [Nat.add_zero] at hst
    have other : ∀ b, b ≠ g' → (w.setRow g' (cur.toList.take k ++ us ++ cur.toList.drop (k + us.length)).toArray).heap[b]? = w.heap[b]? := fun b hb => setRow_other w _ b _ hb
    have hgr : w.grownBy (w.setRow g' (cur.toList.take k ++ us ++ cur.toList.drop (k + us.length)).toArray) (some g') := ⟨rfl, rfl, rfl, by simp, fun b _ hb => other b (fun e' => hb (by rw [e']))⟩
    have hg : (e.ρ τ).ownBlock = some g' := by rw [hv]; rfl
    obtain ⟨F1, p1, p2⟩ := hR xs Fs r2 hFs hxl
    have hF1 : ∀ b ∈ F1, b ≠ g' := by
      intro b hb hbg
      subst hbg
      rcases p2 b hb with q | ⟨κ, q1, q2⟩
      · exact q gmut
      · obtain ⟨B, hB, _⟩ := hl κ q1
        exact h.sep (.a τ) (.a κ) ⟨A, hA⟩ ⟨B, hB⟩ (by rintro ⟨⟩; exact hτ q1) b (hok.own hg).1 ((h.ar κ B hB).own q2).1
    have hnew : (cur.toList.take k ++ us ++ cur.toList.drop (k + us.length)).take (es'.length * W) = xs.take k ++ us ++ xs.drop (k + us.length) := by
      rw [hlen, take_splice hk hcl, htake]
    have htop : ∀ b, (e.ρ τ).ownBlock = some b → (∃ A, σ.ar.lookup τ = some (some A) ∧ (e.ρ τ).ownBlock = some b) ∨ w.heap.size ≤ b := fun b hb => .inl ⟨A, hA, hb⟩
    have hsz : (cur.toList.take k ++ us ++ cur.toList.drop (k + us.length)).toArray.size = cap * W := by
      rw [← hcs, List.size_toArray, List.length_append, List.length_append, List.length_take, List.length_drop]
      rw [Array.length_toList] at hcl ⊢
      omega
    have he0 : es' = [] → cap = 0 := fun he => by
      have : A.es = [] := List.eq_nil_of_length_eq_zero (by rw [← hlen, he]; rfl)
      exact r5 this _ _ _ hv
    obtain ⟨G, hG⟩ : ∃ G : List Nat, (A.fr && f) = true → OwE N w es' (xs.take k ++ us ++ xs.drop (k + us.length)) G ∧ G.Nodup ∧ ∀ b ∈ G, (b ∈ e.φ τ ∧ b ≠ g') ∨ ∃ κ ∈ τs, b ∈ e.φ κ := by
      cases hf : A.fr && f
      · exact ⟨[], by simp⟩
      · simp only [Bool.and_eq_true] at hf
        obtain ⟨k1, k2, k3, k4⟩ := r3 hf.1
        obtain ⟨G, q1, q2, q3⟩ := hO hf.1 hf.2 xs Fs k1 k2 k3 hxl
        refine ⟨G, fun _ => ⟨q1, q2, fun b hb => ?_⟩⟩
        rcases q3 b hb with q | q
        · exact .inl ⟨k3 b q, fun e' => k4 g' hg (e' ▸ q)⟩
        · exact .inr q
    have hGg : (A.fr && f) = true → ∀ b ∈ G, b ≠ g' := by
      intro hf b hb
      rcases (hG hf).2.2 b hb with ⟨_, q⟩ | ⟨κ, q1, q2⟩
      · exact q
      · rintro rfl
        obtain ⟨B, hB, _⟩ := hl κ q1
        exact h.sep (.a τ) (.a κ) ⟨A, hA⟩ ⟨B, hB⟩ (by rintro ⟨⟩; exact hτ q1) b (hok.own hg).1 q2
    refine ⟨_, _, hst, h.setArr (row := some g') (v' := e.ρ τ) (F' := if A.fr && f then g' :: G else [g']) hdp hl hτ hgr (fun b hb => ⟨A, hA, by rw [← hb]; exact hg⟩) (fun A' hA' => ?_) htop (fun b hb => ?_) ⟨some ⟨g', 0, none⟩, cap, by rw [hv, hlen], hcm, .inr ⟨g', te, _, if A.fr && f then G else F1, W, rfl, (hok.own hg).2.1, setRow_heap w g' cur _ te _ hh, by rw [hlen]; exact hnc, hsz, hW', he0, ?_⟩⟩ hnt hdf (fun u t x ht => ?_)⟩
    · rw [hA] at hA'
      obtain rfl := Option.some.inj hA'
      exact ⟨A, rfl, by rw [hlen]; exact Nat.le_refl _, fun _ => rfl⟩
    · cases hf : A.fr && f
      · simp only [hf, Bool.false_eq_true, if_false, List.mem_singleton] at hb
        subst hb
        exact .inl ⟨A, hA, (hok.own hg).1⟩
      · simp only [hf, if_true] at hb
        rcases List.mem_cons.1 hb with rfl | hb
        · exact .inl ⟨A, hA, (hok.own hg).1⟩
        · rcases (hG hf).2.2 b hb with ⟨q, _⟩ | q
          · exact .inl ⟨A, hA, q⟩
          · exact .inr (.inl q)
    · have htl : List.take ((Arr.mk (A.fr && f) es').es.length * W) (cur.toList.take k ++ us ++ cur.toList.drop (k + us.length)).toArray.toList = xs.take k ++ us ++ xs.drop (k + us.length) := hnew
      rw [htl]
      cases hf : A.fr && f
      · refine .inr ⟨rfl, by simp, ?_, ?_⟩
        · simp only [Bool.false_eq_true, if_false]
          exact p1.keep ⟨by simp, fun b hb => other b (hF1 b hb)⟩
        · simp only [Bool.false_eq_true, if_false]
          have := given_after h (tm := tm) (A := ⟨false, es'⟩) (F := [g']) p2 hl hτ p1.lt htop
          exact this
      · refine .inl ⟨rfl, by simp, ?_, ?_⟩
        · simp only [if_true]
          exact List.nodup_cons.2 ⟨fun hm => hGg hf g' hm rfl, (hG hf).2.1⟩
        · simp only [if_true]
          exact (hG hf).1.keep ⟨by simp, fun b hb => other b (hGg hf b hb)⟩
    · rcases htm t x ht with q | ⟨k', n, rfl, q1, q2⟩
      · exact .inl q
      · rw [q2]; exact .inr (rel_int q1)

theorem OwL.split {N : Nat → Prop} {w : World} : ∀ {xs ys : List L} {vs : List Value} {F : List Nat}, OwL N w (xs ++ ys) vs F → ∃ v1 v2 F1 F2, vs = v1 ++ v2 ∧ F = F1 ++ F2 ∧ OwL N w xs v1 F1 ∧ OwL N w ys v2 F2
  | [], _, vs, F, h => ⟨[], vs, [], F, rfl, rfl, ⟨rfl, rfl⟩, h⟩
  | x :: xs, ys, vs, F, h => by
    simp only [List.cons_append, OwL] at h
    obtain ⟨v, vs', F1, F2, rfl, rfl, h1, h2⟩ := h
    obtain ⟨v3, v4, F3, F4, rfl, rfl, h3, h4⟩ := OwL.split h2
    refine ⟨v :: v3, v4, F1 ++ F3, F4, rfl, by rw [List.append_assoc], ?_, h4⟩
    simp only [OwL]
    exact ⟨v, v3, F1, F3, rfl, rfl, h1, h3⟩

/-- The list with an element turned at some of its cells. -/
def setAt (es : List (List L)) (j off : Nat) (ls : List L) : List (List L) := es.set j (((es[j]?).getD []).take off ++ ls ++ ((es[j]?).getD []).drop (off + ls.length))

theorem es_split {es : List (List L)} {j : Nat} {el : List L} (h : es[j]? = some el) : es = es.take j ++ el :: es.drop (j + 1) := by
  obtain ⟨hlt, rfl⟩ := List.getElem?_eq_some_iff.1 h
  rw [List.getElem_cons_drop, List.take_append_drop]
theorem setAt_split {es : List (List L)} {j off : Nat} {ls el : List L} (h : es[j]? = some el) : setAt es j off ls = es.take j ++ (el.take off ++ (ls ++ el.drop (off + ls.length))) :: es.drop (j + 1) := by
  obtain ⟨hlt, rfl⟩ := List.getElem?_eq_some_iff.1 h
  unfold setAt
  rw [h, List.set_eq_take_append_cons_drop, if_pos hlt]
  simp
theorem el_split (el : List L) (off n : Nat) : el = el.take off ++ ((el.drop off).take n ++ el.drop (off + n)) := by
  rw [← List.drop_drop, List.take_append_drop, List.take_append_drop]

/-- An element's cells are written. -/
theorem SimE.setElt (h : SimE N w0 e σ a w) {τ : Nat} {A : Arr} (hA : σ.ar.lookup τ = some (some A)) {j off : Nat} {el : List L} (hel : A.es[j]? = some el) {b : Nat} (hb : (e.ρ τ).ownBlock = some b)
    {cs : List CV} {us : List Value} (hr : relL e σ w cs us) {ls : List L} {f : Bool} {τs : List Nat} {p : Prop} (ha : absL σ cs = some (ls, f, τs, p)) (hp : p) (hτ : τ ∉ τs) (hdp : τ < 1000000) (hnd : f = true → τs.Nodup) (hle : off + ls.length ≤ el.length) :
    ∃ w' e', (storeCells ⟨b, j * el.length + off, none⟩ us).run P w = .ok () w' ∧ SimE N w0 e' (stA σ σ.tm τ ⟨A.fr && f, setAt A.es j off ls⟩ τs) a w' := by
  obtain ⟨⟨Fx, k1, k2⟩, k3, k4, k5⟩ := absL_rel h hr ha hp
  have hlt : j < A.es.length := (List.getElem?_eq_some_iff.1 hel).1
  have hul : us.length = ls.length := by rw [hr.len, k5]
  obtain ⟨p', c, hρ, _, _, hc | ⟨b', vs, Fs, W, q1, q2, q3, q4, q5, q6⟩⟩ := h.elems hA hdp
  · rw [hc] at hlt; simp at hlt
  · have hW : el.length = W := q3 el (List.mem_of_getElem? hel)
    have hjW : j * W + W ≤ A.es.length * W := by rw [← Nat.succ_mul]; exact Nat.mul_le_mul_right _ hlt
    have hsl : setAt A.es j off ls = A.es.take j ++ (el.take off ++ (ls ++ el.drop (off + ls.length))) :: A.es.drop (j + 1) := setAt_split hel
    have hcells : ∀ {v1 u1 u2 u3 v4 : List Value}, v1.length = j * W → u1.length = off → u2.length = us.length →
        (v1 ++ ((u1 ++ (u2 ++ u3)) ++ v4)).take (j * el.length + off) ++ us ++ (v1 ++ ((u1 ++ (u2 ++ u3)) ++ v4)).drop (j * el.length + off + us.length) = v1 ++ ((u1 ++ (us ++ u3)) ++ v4) := by
      intro v1 u1 u2 u3 v4 e1 e2 e3
      rw [hW]
      have t1 : (v1 ++ ((u1 ++ (u2 ++ u3)) ++ v4)) = (v1 ++ u1) ++ (u2 ++ (u3 ++ v4)) := by simp
      have t2 : (v1 ++ ((u1 ++ (u2 ++ u3)) ++ v4)) = ((v1 ++ u1) ++ u2) ++ (u3 ++ v4) := by simp
      have l1 : (v1 ++ u1).length = j * W + off := by simp [e1, e2]
      have l2 : ((v1 ++ u1) ++ u2).length = j * W + off + us.length := by simp [e1, e2, e3]; omega
      rw [show (v1 ++ ((u1 ++ (u2 ++ u3)) ++ v4)).take (j * W + off) = v1 ++ u1 from by rw [t1, ← l1, List.take_left]]
      rw [show (v1 ++ ((u1 ++ (u2 ++ u3)) ++ v4)).drop (j * W + off + us.length) = u3 ++ v4 from by rw [t2, ← l2, List.drop_left]]
      simp
    refine h.inPlace hA q3 hb (fun κ hκ => by obtain ⟨B, hB, _, hd⟩ := k4 κ hκ; exact ⟨B, hB, hd⟩) hτ hdp (by unfold setAt; simp) ?_ (by rw [hul, hW]; omega) hr.one ?_ ?_ h.nt h.df (fun t x ht => .inl ⟨ht, rfl⟩)
    · intro z hz
      rw [hsl] at hz
      simp only [List.mem_append, List.mem_cons] at hz
      rcases hz with hz | rfl | hz
      · exact q3 z (List.mem_of_mem_take hz)
      · simp only [List.length_append, List.length_take, List.length_drop]; omega
      · exact q3 z (List.mem_of_mem_drop hz)
    · intro xs Fs' hx hFs' hxl
      rw [es_split hel] at hx
      obtain ⟨v1, v2, F1, F2, rfl, rfl, g1, g2⟩ := hx.split
      simp only [RpE] at g2
      obtain ⟨v3, v4, F3, F4, rfl, rfl, g3, g4⟩ := g2
      rw [el_split el off ls.length] at g3
      obtain ⟨u1, u23, G1, G23, rfl, rfl, m1, m2⟩ := g3.split
      obtain ⟨u2, u3, G2, G3, rfl, rfl, m3, m4⟩ := m2.split
      have e1 : v1.length = j * W := by rw [g1.len, width_uniform (fun x hx => q3 x (List.mem_of_mem_take hx)), List.length_take, Nat.min_eq_left (by omega)]
      have e2 : u1.length = off := by rw [m1.len, List.length_take]; omega
      have e3 : u2.length = us.length := by rw [m3.len, List.length_take, List.length_drop, hul]; omega
      rw [hcells e1 e2 e3, hsl]
      refine ⟨F1 ++ ((G1 ++ (Fx ++ G3)) ++ F4), g1.append ?_, ?_⟩
      · simp only [RpE]
        exact ⟨_, v4, _, F4, rfl, rfl, m1.append (k1.append m4), g4⟩
      · intro x hx
        simp only [List.mem_append] at hx
        rcases hx with hx | (hx | hx | hx) | hx
        · exact .inl (hFs' x (by simp [hx]))
        · exact .inl (hFs' x (by simp [hx]))
        · exact k2 x hx
        · exact .inl (hFs' x (by simp [hx]))
        · exact .inl (hFs' x (by simp [hx]))
    · intro hfA hff xs Fs' hx hnd' hsub hxl
      rw [es_split hel] at hx
      obtain ⟨v1, v2, F1, F2, rfl, rfl, g1, g2⟩ := hx.split
      simp only [OwE] at g2
      obtain ⟨v3, v4, F3, F4, rfl, rfl, g3, g4⟩ := g2
      rw [el_split el off ls.length] at g3
      obtain ⟨u1, u23, G1, G23, rfl, rfl, m1, m2⟩ := g3.split
      obtain ⟨u2, u3, G2, G3, rfl, rfl, m3, m4⟩ := m2.split
      have e1 : v1.length = j * W := by rw [g1.len, width_uniform (fun x hx => q3 x (List.mem_of_mem_take hx)), List.length_take, Nat.min_eq_left (by omega)]
      have e2 : u1.length = off := by rw [m1.len, List.length_take]; omega
      have e3 : u2.length = us.length := by rw [m3.len, List.length_take, List.length_drop, hul]; omega
      rw [hcells e1 e2 e3, hsl]
      have gn := given_nodup h (fun κ hκ => by obtain ⟨B, hB, hf, _⟩ := k4 κ hκ; exact ⟨B, hB, hf hff⟩) (hnd hff)
      refine ⟨F1 ++ ((G1 ++ (τs.flatMap e.φ ++ G3)) ++ F4), g1.append ?_, ?_, ?_⟩
      · simp only [OwE]
        exact ⟨_, v4, _, F4, rfl, rfl, m1.append ((k3 hff).append m4), g4⟩
      · have hs : List.Sublist (F1 ++ ((G1 ++ G3) ++ F4)) (F1 ++ ((G1 ++ (G2 ++ G3)) ++ F4)) :=
          List.Sublist.append (List.Sublist.refl _) (List.Sublist.append (List.Sublist.append (List.Sublist.refl _) (List.sublist_append_right _ _)) (List.Sublist.refl _))
        have hn2 := hnd'.sublist hs
        have hp2 : (F1 ++ ((G1 ++ (τs.flatMap e.φ ++ G3)) ++ F4)).Perm (τs.flatMap e.φ ++ (F1 ++ ((G1 ++ G3) ++ F4))) := by
          have t1 : (F1 ++ ((G1 ++ (τs.flatMap e.φ ++ G3)) ++ F4)) = (F1 ++ G1) ++ (τs.flatMap e.φ ++ (G3 ++ F4)) := by simp
          have t2 : (F1 ++ ((G1 ++ G3) ++ F4)) = (F1 ++ G1) ++ (G3 ++ F4) := by simp
          rw [t1, t2]
          exact List.perm_append_comm_assoc _ _ _
        rw [hp2.nodup_iff]
        refine List.nodup_append.2 ⟨gn, hn2, fun x hx y hy hxy => ?_⟩
        subst hxy
        obtain ⟨κ, n1, n2⟩ := List.mem_flatMap.1 hx
        obtain ⟨B, hB, _⟩ := k4 κ n1
        exact h.sep (.a κ) (.a τ) ⟨B, hB⟩ ⟨A, hA⟩ (by rintro ⟨⟩; exact hτ n1) x n2 (hsub x (hs.subset hy))
      · intro x hx
        simp only [List.mem_append] at hx
        rcases hx with hx | (hx | hx | hx) | hx
        · exact .inl (by simp [hx])
        · exact .inl (by simp [hx])
        · obtain ⟨κ, n1, n2⟩ := List.mem_flatMap.1 hx
          exact .inr ⟨κ, n1, n2⟩
        · exact .inl (by simp [hx])
        · exact .inl (by simp [hx])
end

end Go.Proofs.Ytopjlbifglacpaa.Am
