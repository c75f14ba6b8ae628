/- Arrays of the call's own: made, grown by append, written. -/
import Derived.Test.YtopjlbifglacpaaAmJ
set_option linter.unusedSimpArgs false
set_option linter.unusedVariables false
namespace Go.Proofs.Ytopjlbifglacpaa.Am
open Go.RowKit

section
variable {e : Env} {σ : St} {w : World} {N : Nat → Prop} {w0 : Bs} {a : Act} {P : Program}

theorem width_of_lengths {es : List (List L)} {W : Nat} (h : ∀ x ∈ es, x.length = W) : width es = es.length * W := width_uniform h

/-- A new array whose cells are these. -/
theorem SimE.newArr (h : SimE N w0 e σ a w) {d τ : Nat} (hd : d < σ.nt) (hdp : τ < 1000000) (hn : σ.ar.lookup τ = none) {es : List (List L)} {f : Bool} {τs : List Nat} {us : Array Value} {W : Nat} (t : Nat)
    (hr : ∃ F, RpE w es us.toList F ∧ Given e σ τs F) (ho : f = true → OwE N w es us.toList (τs.flatMap e.φ)) (hl : ∀ κ ∈ τs, ∃ A, σ.ar.lookup κ = some (some A) ∧ (f = true → A.fr = true) ∧ κ < 1000000) (hnd : f = true → τs.Nodup)
    (hW : ∀ x ∈ es, x.length = W) (hlen : es.length ≤ 9223372036854775807) (hus : us.size = es.length * W) :
    SimE N w0 (envA e τ (.slice (some ⟨w.heap.size, 0, none⟩) es.length es.length) (if f then w.heap.size :: τs.flatMap e.φ else [w.heap.size])) (stA σ ((d, .one (.own τ es.length)) :: σ.tm) τ ⟨f, es⟩ τs)
      (a.put (some d) (.slice (some ⟨w.heap.size, 0, none⟩) es.length es.length)) (w.alloc (.cells us t)) := by
  have hτ : τ ∉ τs := fun hm => by obtain ⟨A, hA, _⟩ := hl τ hm; rw [hn] at hA; cases hA
  have hl' : ∀ κ ∈ τs, ∃ B, σ.ar.lookup κ = some (some B) ∧ κ < 1000000 := fun κ hκ => by obtain ⟨A, hA, _, hd⟩ := hl κ hκ; exact ⟨A, hA, hd⟩
  have hinner : ∀ b ∈ τs.flatMap e.φ, ∃ κ ∈ τs, b ∈ e.φ κ := fun b hb => by obtain ⟨κ, h1, h2⟩ := List.mem_flatMap.1 hb; exact ⟨κ, h1, h2⟩
  have htake : us.toList.take (es.length * W) = us.toList := List.take_of_length_le (by simp [hus])
  have htop : ∀ b, (Value.slice (some ⟨w.heap.size, 0, none⟩) es.length es.length).ownBlock = some b → (∃ A, σ.ar.lookup τ = some (some A) ∧ (e.ρ τ).ownBlock = some b) ∨ w.heap.size ≤ b := fun b hb => by
    simp [Value.ownBlock] at hb; exact .inr (by omega)
  obtain ⟨F, r1, r2⟩ := hr
  have sm : ∀ F : List Nat, (∀ b ∈ F, b < w.heap.size) → Sm w (w.alloc (.cells us t)) F := fun F hF => ⟨by simp, fun b hb => Below.heap_alloc w _ b (hF b hb)⟩
  refine h.setArr (row := none) hdp hl' hτ (World.grownBy_alloc w _ none) (by simp) (fun A hA => by rw [hn] at hA; cases hA) htop (fun b hb => ?_) ⟨_, _, rfl, hlen, .inr ⟨w.heap.size, t, us, ?_⟩⟩ (by rw [act_put_size]; exact h.nt) (by rw [act_put_defers]; exact h.df)
    (fun u => tm_put (by rw [h.nt]; exact hd) ⟨some ⟨f, es⟩, by rw [stA_lookup, if_pos rfl], fun B hB => ?_, _, _, rfl, hlen⟩)
  · cases f
    · simp at hb; exact .inr (.inr (by omega))
    · simp only [if_true] at hb
      rcases List.mem_cons.1 hb with rfl | hb
      · exact .inr (.inr (Nat.le_refl _))
      · exact .inr (.inl (hinner b hb))
  · cases f
    · refine ⟨F, W, rfl, h.fr.new _ h.fr.size, heap_alloc_new w _, Nat.le_refl _, hus, hW, fun he => by (have h2 : es = [] := he); simp [h2], .inr ⟨rfl, rfl, ?_, ?_⟩⟩
      · rw [htake]; exact r1.keep (sm F r1.lt)
      · exact given_after h r2 hl' hτ r1.lt htop
    · have ho' := ho rfl
      have hlt : ∀ b ∈ τs.flatMap e.φ, b < w.heap.size := fun b hb => by
        obtain ⟨κ, h1, h2⟩ := hinner b hb
        obtain ⟨A, hA, _⟩ := hl' κ h1
        exact (h.blk_lt (κ := .a κ) ⟨A, hA⟩ b h2).1
      refine ⟨τs.flatMap e.φ, W, rfl, h.fr.new _ h.fr.size, heap_alloc_new w _, Nat.le_refl _, hus, hW, fun he => by (have h2 : es = [] := he); simp [h2], .inl ⟨rfl, rfl, ?_, ?_⟩⟩
      · simp only [if_true]
        exact List.nodup_cons.2 ⟨fun hm => by have := hlt _ hm; omega, given_nodup h (fun κ hκ => by obtain ⟨A, hA, hf, _⟩ := hl κ hκ; exact ⟨A, hA, hf rfl⟩) (hnd rfl)⟩
      · rw [htake]; exact ho'.keep (sm _ hlt)
  · obtain rfl := Option.some.inj hB
    exact ⟨Nat.le_refl _, fun _ => by simp [envA]⟩

/-- append: what it does, whatever the row's type. -/
theorem run_append_any (base : Nat) (t ty e te : TypeId) (i : TypeInfo) (z : Value) (size bytes : Nat) (ht : P.underlying t = some (.slice e)) (hi : P.info? e = some i) (hz : i.zero = some z)
    (hsize : i.size = size) (hby : i.bytes = bytes) (hzs : z.cells.size = size)
    (v : Value) (n : Nat) (xs : List Value) (hown : w.ownsRow base te size v n xs)
    (A : Option Addr) (m c : Nat) (news : List Value) (hl : news.length = m * size) (hA : A = none → m = 0) (hnews : ∀ ad, A = some ad → ∀ j u, news[j]? = some u → w.cell? (ad.add j) = some u) (h1 : ∀ u ∈ news, u.oneCell' = true)
    (h63 : n + m ≤ 140737488355328) (hbytes : (n + m) * bytes ≤ 140737488355328) (hbase : base ≤ w.heap.size) :
    ∃ v' w' te', (Builtin.append_ #[t, t] ty #[v, .slice A m c]).run P w = .ok v' w' ∧ w'.ownsRow base te' size v' (n + m) (xs ++ news) ∧ w.grownBy w' v.ownBlock ∧
      (v'.ownBlock = v.ownBlock ∨ v'.ownBlock = some w.heap.size) ∧ (m = 0 → v' = v) := by
  subst hsize
  subst hby
  have hm63 : n + m ≤ maxLen := by simp only [maxLen]; omega
  have hlen : (xs ++ news).length = (n + m) * i.size := by rw [List.length_append, hown.1, hl, Nat.add_mul]
  by_cases hm : m = 0
  · subst hm
    have hnn : news = [] := List.eq_nil_of_length_eq_zero (by simpa using hl)
    subst hnn
    refine ⟨v, w, te, ?_, by simpa using hown, ⟨rfl, rfl, rfl, Nat.le_refl _, fun _ _ _ => rfl⟩, .inl rfl, fun _ => rfl⟩
    have hfc : (Builtin.firstCells i.size 0 (.slice A 0 c)).run P w = .ok #[] w := by
      cases A <;> simp [Builtin.firstCells, loadCells, loadCellsFrom]
    rcases hown.2 with ⟨rfl, rfl⟩ | ⟨g, cap, cur, rfl, hbg, hg, hnc, hcm, hcs, htake⟩
    · simp [Builtin.append_, run_underlying ht, sizeOf, typeInfo, hi, Builtin.lenOf, hfc]
    · simp [Builtin.append_, run_underlying ht, sizeOf, typeInfo, hi, Builtin.lenOf, hfc, hnc, storeCells]
  · obtain ⟨ad, rfl⟩ : ∃ ad, A = some ad := by
      cases A with
      | none => exact absurd (hA rfl) hm
      | some ad => exact ⟨ad, rfl⟩
    have hnews := hnews ad rfl
    have grown : ∀ (old : Nat), old < n + m → ∀ (row : Option Nat),
        (w.drew.alloc (.cells (xs.toArray ++ news.toArray ++ Builtin.zeroCells z.cells (grownCap w (n + m) old e - (n + m))) e)).ownsRow base e i.size
          (.slice (some ⟨w.heap.size, 0, none⟩) (n + m) (grownCap w (n + m) old e)) (n + m) (xs ++ news) ∧
        w.grownBy (w.drew.alloc (.cells (xs.toArray ++ news.toArray ++ Builtin.zeroCells z.cells (grownCap w (n + m) old e - (n + m))) e)) row := by
      intro old ho row
      have hge := grownCap_ge w (n + m) old e
      have hcm : grownCap w (n + m) old e ≤ maxLen := grownCap_le_maxLen w (n + m) old e hm63
      refine ⟨⟨hlen, .inr ⟨w.heap.size, _, _, rfl, hbase, heap_alloc_new w.drew _, hge, hcm, ?_, ?_⟩⟩, ⟨rfl, rfl, rfl, by simp, fun k hk _ => Below.heap_alloc w.drew _ k hk⟩⟩
      · simp only [Array.size_append, List.size_toArray, size_zeroCells, hzs, hown.1, hl, ← Nat.add_mul]
        congr 1
        omega
      · simp only [Array.toList_append, List.append_assoc]
        rw [← List.append_assoc, ← hlen]
        exact List.take_left
    rcases hown.2 with ⟨rfl, rfl⟩ | ⟨g, cap, cur, rfl, hbg, hg, hnc, hcm, hcs, htake⟩
    · have hx : xs = [] := List.eq_nil_of_length_eq_zero (by simpa using hown.1)
      subst hx
      have hr := run_append_nil (P := P) w t ty e i z ht hi hz ad m c news hl hnews (by omega) (by omega) (by have hb := hbytes; simp only [Nat.zero_add] at hb; omega)
      have hgr := grown 0 (by omega) (Value.ownBlock (.slice none 0 0))
      simp only [Nat.zero_add, List.nil_append, Array.empty_append] at hgr ⊢
      exact ⟨_, _, e, hr, hgr.1, hgr.2, .inr rfl, fun h => absurd h hm⟩
    · by_cases hroom : n + m ≤ cap
      · have hfit : n * i.size + news.length ≤ cur.size := by rw [hl, hcs, ← Nat.add_mul]; exact Nat.mul_le_mul_right _ hroom
        have hf := run_firstCells_some (P := P) w i.size m ad m c news hl hnews
        have hst := run_storeCells_at P g (n * i.size) te news 0 cur w hg (by simpa using hfit) h1
        simp only [Nat.add_zero] at hst
        have hr : (Builtin.append_ #[t, t] ty #[.slice (some ⟨g, 0, none⟩) n cap, .slice (some ad) m c]).run P w =
            .ok (.slice (some ⟨g, 0, none⟩) (n + m) cap) (w.setRow g (cur.toList.take (n * i.size) ++ news ++ cur.toList.drop (n * i.size + news.length)).toArray) := by
          simp [Builtin.append_, run_underlying ht, sizeOf, typeInfo, hi, Builtin.lenOf, hroom, hf, Addr.add_lit, hst]
        refine ⟨_, _, te, hr, ⟨hlen, .inr ⟨g, cap, _, rfl, hbg, setRow_heap w g cur _ te _ hg, hroom, hcm, ?_, ?_⟩⟩, ⟨rfl, rfl, rfl, by simp, fun k _ hk => setRow_other w g k _ (fun e => hk (by simp [Value.ownBlock, e]))⟩, .inl rfl, fun h => absurd h hm⟩
        · simp only [List.size_toArray, List.length_append, List.length_take, List.length_drop, Array.length_toList]
          omega
        · rw [htake, ← hlen]
          exact List.take_left
      · have holds : ∀ j u, xs[j]? = some u → w.cell? ((⟨g, 0, none⟩ : Addr).add j) = some u := hown.cells (g := g) rfl
        have hr := run_append_grow (P := P) w t ty e i z ht hi hz ⟨g, 0, none⟩ n cap xs hown.1 holds ad m c news hl hnews (by omega) (by omega) (growslice_fits (by omega) hbytes)
        have hgr := grown cap (by omega) (Value.ownBlock (.slice (some ⟨g, 0, none⟩) n cap))
        exact ⟨_, _, e, hr, hgr.1, hgr.2, .inr rfl, fun h => absurd h hm⟩

/-- An array (or none yet) as the row that append asks for. -/
theorem ArrOk.row {M : Nat → Prop} {A : Arr} {v : Value} {F : List Nat} (h : ArrOk N M w A v F) {W : Nat} (hW : ∀ x ∈ A.es, x.length = W) :
    ∃ te xs Fs, w.ownsRow 0 te W v A.es.length xs ∧ RpE w A.es xs Fs ∧ (A.fr = true → OwE N w A.es xs Fs ∧ Fs.Nodup ∧ (∀ b ∈ Fs, b ∈ F) ∧ ∀ b, v.ownBlock = some b → b ∉ Fs) ∧ (A.fr = false → ∀ x ∈ Fs, ¬ M x) ∧ (A.es = [] → ∀ p n c, v = .slice p n c → c = 0) := by
  obtain ⟨p, c, rfl, hc, ⟨h1, rfl, rfl, rfl⟩ | ⟨b, t, cur, Fs, W', rfl, h1, h2, h3, h4, h5, h6, h7⟩⟩ := h
  · refine ⟨0, [], [], ⟨by simp [h1], .inl (by simp [h1])⟩, by simp [h1, RpE], fun _ => ⟨by simp [h1, OwE], by simp, by simp, by simp⟩, by simp, fun _ p n c e => by injection e with _ _ e; exact e.symm⟩
  · have hWW : A.es ≠ [] → W' = W := fun hne => by
      obtain ⟨x, hx⟩ := List.exists_mem_of_ne_nil _ hne
      rw [← h5 x hx, hW x hx]
    have hsz : cur.size = c * W := by
      by_cases hne : A.es = []
      · rw [h4, h6 hne]; simp
      · rw [h4, hWW hne]
    have htk : A.es.length * W' = A.es.length * W := by
      by_cases hne : A.es = []
      · simp [hne]
      · rw [hWW hne]
    rw [htk] at h7
    refine ⟨t, cur.toList.take (A.es.length * W), Fs, ⟨?_, .inr ⟨b, c, cur, rfl, Nat.zero_le _, h2, h3, hc, hsz, rfl⟩⟩, ?_, fun hf => ?_, fun hf => ?_, fun he p n c' e => ?_⟩
    · rw [List.length_take, Array.length_toList, hsz]
      exact Nat.min_eq_left (Nat.mul_le_mul_right _ h3)
    · rcases h7 with ⟨_, _, _, g⟩ | ⟨_, _, g, _⟩
      · exact g.rp
      · exact g
    · rcases h7 with ⟨_, g1, g2, g3⟩ | ⟨g, _⟩
      · rw [g1] at g2
        obtain ⟨k1, k2⟩ := List.nodup_cons.1 g2
        refine ⟨g3, k2, fun x hx => by simp [g1, hx], fun b' hb' => ?_⟩
        simp [Value.ownBlock] at hb'
        subst hb'
        exact k1
      · rw [hf] at g; cases g
    · rcases h7 with ⟨g, _⟩ | ⟨_, _, _, g⟩
      · rw [hf] at g; cases g
      · exact g
    · injection e with _ _ e
      rw [← e]; exact h6 he

/-- The row behind, as an array. -/
theorem ArrOk.of_row {M : Nat → Prop} {A : Arr} {v : Value} {te W : Nat} {xs : List Value} {Fs : List Nat} (h : w.ownsRow 0 te W v A.es.length xs) (hN : ∀ b, v.ownBlock = some b → N b) (hW : ∀ x ∈ A.es, x.length = W) (hc : A.es = [] → ∀ p n c, v = .slice p n c → c = 0)
    (ho : A.fr = true → OwE N w A.es xs Fs ∧ Fs.Nodup ∧ ∀ b, v.ownBlock = some b → b ∉ Fs) (hr : A.fr = false → RpE w A.es xs Fs ∧ ∀ x ∈ Fs, ¬ M x) :
    ArrOk N M w A v (match v.ownBlock with | some b => if A.fr then b :: Fs else [b] | none => []) := by
  rcases h.2 with ⟨rfl, hn⟩ | ⟨g, cap, cur, rfl, hb, hh, hnc, hcm, hcs, htake⟩
  · have he : A.es = [] := List.eq_nil_of_length_eq_zero hn
    refine ⟨none, 0, by rw [hn], by omega, .inl ⟨he, rfl, rfl, rfl⟩⟩
  · refine ⟨some ⟨g, 0, none⟩, cap, rfl, hcm, .inr ⟨g, te, cur, Fs, W, rfl, hN g rfl, hh, hnc, hcs, hW, fun he => hc he _ _ _ rfl, ?_⟩⟩
    rw [htake]
    cases hf : A.fr
    · obtain ⟨k1, k2⟩ := hr hf
      exact .inr ⟨rfl, by simp [Value.ownBlock], k1, k2⟩
    · obtain ⟨k1, k2, k3⟩ := ho hf
      have k4 : g ∉ Fs := k3 g rfl
      exact .inl ⟨rfl, by simp [Value.ownBlock], by simp [Value.ownBlock, k4, k2], k1⟩
end

end Go.Proofs.Ytopjlbifglacpaa.Am
