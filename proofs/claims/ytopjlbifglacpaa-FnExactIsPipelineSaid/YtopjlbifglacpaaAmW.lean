/- Statements whose order Go leaves open: the law. -/
import Derived.Test.YtopjlbifglacpaaAmV
set_option linter.unusedSimpArgs false
set_option linter.unusedVariables false
namespace Go.Proofs.Ytopjlbifglacpaa.Am
open Go.RowKit

section
variable {P : Program} {σ0 : St} {B : List (List Nat)} {N : Nat → Prop} {w0 : Bs}

theorem Le.yld {σ σ' : St} {ops : Array Oper} {j : Nat} {b want : Bool} (h : Le σ σ') (hy : yld σ ops j want = some b) : yld σ' ops j want = some b := by
  unfold Am.yld at hy ⊢
  split at hy
  · rename_i d hd
    split at hy
    · rename_i b' hb
      rw [h.tm d _ hb]; exact hy
    · rename_i hb; rw [h.tm d _ hb]; exact hy
    · cases hy
  · cases hy

theorem depsOk_spec {l : List Oper} {A : List (List Nat)} (h : depsOk l A = true) : l.length = A.length ∧ ∀ i o d, l[i]? = some o → A[i]? = some d →
    (∀ e ∈ o.after, Region.binds .any e = true → e.on ∈ d ∧ e.on < i) ∧ ∀ k ∈ d, ∃ e ∈ o.after, Region.binds .any e = true ∧ (e.on = k ∨ k ∈ A.getD e.on []) := by
  unfold depsOk at h
  simp only [Bool.and_eq_true, beq_iff_eq, List.all_eq_true] at h
  refine ⟨h.1, fun i o d ho hd => ?_⟩
  have hm : ((o, d), i) ∈ (l.zip A).zipIdx := by
    rw [List.mem_zipIdx_iff_getElem?]
    rw [List.getElem?_zip_eq_some]
    exact ⟨ho, hd⟩
  have h2 := h.2 _ hm
  refine ⟨fun e he hb => ?_, fun k hk => ?_⟩
  · have h3 := h2.1 e (by simpa using he)
    simp only [hb, Bool.not_true, Bool.false_or, Bool.and_eq_true, List.contains_iff_mem, decide_eq_true_eq] at h3
    exact h3
  · have h3 := h2.2 k hk
    rw [List.any_eq_true] at h3
    obtain ⟨e, he, h4⟩ := h3
    simp only [Bool.and_eq_true, Bool.or_eq_true, beq_iff_eq, List.contains_iff_mem] at h4
    exact ⟨e, by simpa using he, h4.1, h4.2⟩

theorem killApp (σ : St) (d : Option Nat) : σ.kill d = σ.app ⟨True, match d with | some d => [(d, .dead)] | none => [], [], []⟩ := by cases d <;> rfl

/-- What has been done so far, as a state. -/
def doneS (σ0 : St) (fs : List (Nat × Eff)) (listed : Array Bool) : St := appR σ0 (fs.filter fun p => listed.getD p.1 false)

theorem draw_any {l : List Oper} {A : List (List Nat)} {fs : List (Nat × Eff)} {Q : Exit → Act → World → Prop} (hdeps : depsOk l A = true) (hkeys : fs.map (·.1) = (List.range' 0 l.length).reverse) (hok : dOk σ0 A fs = true)
    (hev : ∀ j o d, l[j]? = some o → A[j]? = some d → ∃ g, (j, g) ∈ fs ∧ EvG P l.toArray (view σ0 (fs.filter fun p => decide (p.1 < j)) d) o g)
    (hQ : ∀ a w, Sim N w0 (appR σ0 fs) a w → Q .normal a w) : ∀ (fuel : Nat) (listed : Array Bool) (a : Act) (w : World), listed.size = l.length →
      (∀ j, j < l.length → listed.getD j false = true → ∀ k ∈ A.getD j [], listed.getD k false = true) → ((List.range l.length).filter fun i => !listed.getD i false).length ≤ fuel → Sim N w0 (doneS σ0 fs listed) a w → wpAny P .any l.toArray Q fuel listed a w := by
  obtain ⟨hlen, hdep⟩ := depsOk_spec hdeps
  have hmemk : ∀ p ∈ fs, p.1 < l.length := by
    intro p hp
    have : p.1 ∈ fs.map (·.1) := List.mem_map.2 ⟨p, hp, rfl⟩
    rw [hkeys, List.mem_reverse, List.mem_range'_1] at this
    omega
  have hA : ∀ i, i < l.length → ∃ o d, l[i]? = some o ∧ A[i]? = some d ∧ A.getD i [] = d := by
    intro i hi
    have h1 : i < A.length := by omega
    exact ⟨l[i], A[i], List.getElem?_eq_getElem hi, List.getElem?_eq_getElem h1, by rw [List.getD_eq_getElem?_getD, List.getElem?_eq_getElem h1]; rfl⟩
  have hlt : ∀ i, i < l.length → ∀ k ∈ A.getD i [], k < i := by
    intro i
    induction i using Nat.strongRecOn with
    | _ i ih =>
      intro hi k hk
      obtain ⟨o, d, h1, h2, h3⟩ := hA i hi
      rw [h3] at hk
      obtain ⟨e, he, hb, hor⟩ := (hdep i o d h1 h2).2 k hk
      have he2 := ((hdep i o d h1 h2).1 e he hb).2
      rcases hor with rfl | hor
      · exact he2
      · have := ih e.on he2 (by omega) k hor; omega
  have hall : ∀ listed : Array Bool, ((List.range l.length).filter fun i => !listed.getD i false) = [] → ∀ a w, Sim N w0 (doneS σ0 fs listed) a w → Q .normal a w := by
    intro listed hn a w hs
    rw [List.filter_eq_nil_iff] at hn
    have : doneS σ0 fs listed = appR σ0 fs := by
      unfold doneS
      congr 1
      rw [List.filter_eq_self]
      intro p hp
      have := hn p.1 (List.mem_range.2 (hmemk p hp))
      simpa using this
    rw [this] at hs
    exact hQ a w hs
  intro fuel
  induction fuel with
  | zero =>
    intro listed a w hsz hcl hcnt hs
    have hn : ((List.range l.length).filter fun i => !listed.getD i false) = [] := List.eq_nil_of_length_eq_zero (by omega)
    refine ⟨?_, hall listed hn a w hs⟩
    apply List.eq_nil_iff_forall_not_mem.2
    intro i hi
    obtain ⟨h1, o, ho, _⟩ := mem_ready.1 hi
    have hil : i < l.length := by have := (Array.getElem?_eq_some_iff.1 ho).1; simpa using this
    rw [List.filter_eq_nil_iff] at hn
    have h2 := hn i (List.mem_range.2 hil)
    have h3 : i < listed.size := by omega
    simp [h3] at h1 h2
    rw [h1] at h2; cases h2
  | succ fuel ih =>
    intro listed a w hsz hcl hcnt hs
    refine ⟨fun hready => ?_, fun i hi => ?_⟩
    · by_cases hn : ((List.range l.length).filter fun i => !listed.getD i false) = []
      · exact hall listed hn a w hs
      · exfalso
        -- the least that has not come up is ready
        have hex : ∀ n, ∀ i, i < l.length → listed.getD i false = false → i ≤ n → False := by
          intro n
          induction n using Nat.strongRecOn with
          | _ n ihn =>
            intro i hi hun hin
            by_cases hd : ∀ k ∈ A.getD i [], listed.getD k false = true
            · obtain ⟨o, d, h1, h2, h3⟩ := hA i hi
              have : i ∈ Region.ready .any l.toArray listed := mem_ready.2 ⟨by
                have h4 : i < listed.size := by omega
                simp [h4] at hun ⊢; exact hun, o, by simpa using h1, fun e he hb => hd e.on (by rw [h3]; exact ((hdep i o d h1 h2).1 e he hb).1)⟩
              rw [hready] at this
              cases this
            · obtain ⟨k, hk⟩ := Classical.not_forall.1 hd
              obtain ⟨hk1, hk2⟩ := Classical.not_imp.1 hk
              have hki := hlt i hi k hk1
              exact ihn k (by omega) k (by omega) (by simpa using hk2) (Nat.le_refl _)
        obtain ⟨i, hi⟩ := List.exists_mem_of_ne_nil _ hn
        rw [List.mem_filter] at hi
        exact hex i i (List.mem_range.1 hi.1) (by simpa using hi.2) (Nat.le_refl _)
    · obtain ⟨h1, o, ho, hafter⟩ := mem_ready.1 hi
      have ho' : l[i]? = some o := by simpa using ho
      have hil : i < l.length := (List.getElem?_eq_some_iff.1 ho').1
      have his : i < listed.size := by omega
      have hun : listed.getD i false = false := by simp [his] at h1 ⊢; exact h1
      obtain ⟨o2, d, q1, q2, q3⟩ := hA i hil
      obtain rfl : o2 = o := Option.some.inj (q1.symm.trans ho')
      have hsub : ∀ k ∈ d, listed.getD k false = true := by
        intro k hk
        obtain ⟨e, he, hb, hor⟩ := (hdep i o2 d q1 q2).2 k hk
        have hel := hafter e he hb
        rcases hor with rfl | hor
        · exact hel
        · exact hcl e.on (by have := ((hdep i o2 d q1 q2).1 e he hb).2; omega) hel k hor
      obtain ⟨g, hg, hev0⟩ := hev i o2 d q1 q2
      have hview : view σ0 (fs.filter fun p => decide (p.1 < i)) d = view σ0 fs d := by
        unfold view
        congr 1
        rw [List.filter_filter]
        apply List.filter_congr
        intro p hp
        by_cases hpd : p.1 ∈ d
        · have := hlt i hil p.1 (by rw [q3]; exact hpd)
          simp [this]
        · simp [hpd]
      rw [hview] at hev0
      -- what has come up and does not stand ahead keeps apart
      have happ : ∀ p ∈ fs, listed.getD p.1 false = true → p.1 ∉ d → apart p.2 g = true ∧ touch p.2 (view σ0 fs d) = false := by
        intro p hp hS hnd
        unfold dOk at hok
        rw [List.all_eq_true] at hok
        have h2 := hok (i, g) hg
        rw [List.all_eq_true] at h2
        have h3 := h2 p hp
        simp only [q3, Bool.or_eq_true, beq_iff_eq, List.contains_iff_mem, Bool.and_eq_true, Bool.not_eq_true'] at h3
        rcases h3 with ((h3 | h3) | h3) | h3
        · rw [← h3, hun] at hS; cases hS
        · exact absurd h3 hnd
        · have := hcl p.1 (hmemk p hp) hS i h3
          rw [hun] at this; cases this
        · exact h3
      have hfil : (fs.filter fun p => listed.getD p.1 false).filter (fun p => d.contains p.1) = fs.filter (fun p => d.contains p.1) := by
        rw [List.filter_filter]
        apply List.filter_congr
        intro p hp
        by_cases hpd : p.1 ∈ d
        · simp [hsub p.1 hpd]
        · simp [hpd]
      have skip : ∀ {α : Type} (f : Nat × Eff → List (Nat × α)) (base : List (Nat × α)) (k : Nat), (∀ p ∈ fs, listed.getD p.1 false = true → p.1 ∉ d → k ∉ keysOf (f p)) →
          ((fs.filter fun p => listed.getD p.1 false).flatMap f ++ base).lookup k = ((fs.filter fun p => d.contains p.1).flatMap f ++ base).lookup k := by
        intro α f base k hk
        rw [look_skip f base (fun p => d.contains p.1) k, hfil]
        intro p hp hsel
        rw [List.mem_filter] at hp
        exact hk p hp.1 (by simpa using hp.2) (by simpa using hsel)
      have vtm : (view σ0 fs d).tm = (fs.filter fun p => d.contains p.1).flatMap (fun p => p.2.tm) ++ σ0.tm := appR_tm _
      have vbx : (view σ0 fs d).bx = (fs.filter fun p => d.contains p.1).flatMap (fun p => p.2.bx) ++ σ0.bx := appR_bx _
      have var_ : (view σ0 fs d).ar = (fs.filter fun p => d.contains p.1).flatMap (fun p => p.2.ar) ++ σ0.ar := appR_ar _
      have stm : (doneS σ0 fs listed).tm = (fs.filter fun p => listed.getD p.1 false).flatMap (fun p => p.2.tm) ++ σ0.tm := appR_tm _
      have sbx : (doneS σ0 fs listed).bx = (fs.filter fun p => listed.getD p.1 false).flatMap (fun p => p.2.bx) ++ σ0.bx := appR_bx _
      have sar : (doneS σ0 fs listed).ar = (fs.filter fun p => listed.getD p.1 false).flatMap (fun p => p.2.ar) ++ σ0.ar := appR_ar _
      have notouch : ∀ {α : Type} (f : Eff → List (Nat × α)) (m : List (Nat × α)) (k : Nat) (v : α), m.lookup k = some v → (∀ p ∈ fs, touch p.2 (view σ0 fs d) = false → (f p.2).any (fun r => (m.lookup r.1).isSome) = false) → ∀ p ∈ fs, listed.getD p.1 false = true → p.1 ∉ d → k ∉ keysOf (f p.2) := by
        intro α f m k v hv ht p hp hS hnd hk
        have h2 := ht p hp (happ p hp hS hnd).2
        rw [List.any_eq_false] at h2
        obtain ⟨r, hr, rfl⟩ := List.mem_map.1 hk
        have := h2 r hr
        rw [hv] at this
        simp at this
      have hle : Le (view σ0 fs d) (doneS σ0 fs listed) := by
        refine ⟨by unfold doneS view; rw [appR_nt, appR_nt], fun t v ht => ?_, fun t v ht => ?_, fun t v ht => ?_⟩
        · rw [stm, skip _ _ t (notouch (fun g => g.tm) _ t v ht fun p _ h2 => by simp only [touch, Bool.or_eq_false_iff] at h2; exact h2.1.1), ← vtm]; exact ht
        · rw [sbx, skip _ _ t (notouch (fun g => g.bx) _ t v ht fun p _ h2 => by simp only [touch, Bool.or_eq_false_iff] at h2; exact h2.1.2), ← vbx]; exact ht
        · rw [sar, skip _ _ t (notouch (fun g => g.ar) _ t v ht fun p _ h2 => by simp only [touch, Bool.or_eq_false_iff] at h2; exact h2.2), ← var_]; exact ht
      have hfresh : Fresh (view σ0 fs d) (doneS σ0 fs listed) g := by
        refine ⟨fun r hr hn => ?_, fun r hr hn => ?_⟩
        · rw [sbx, skip _ _ r.1 (fun p hp hS hnd hk => ?_), ← vbx]
          · exact hn
          · have h2 := (happ p hp hS hnd).1
            simp only [apart, Bool.and_eq_true, List.all_eq_true] at h2
            obtain ⟨r', hr', he⟩ := List.mem_map.1 hk
            have h3 := h2.1.2 r' hr'
            rw [he] at h3
            simp only [Bool.not_eq_true', List.contains_eq_mem, decide_eq_false_iff_not] at h3
            exact h3 (List.mem_map.2 ⟨r, hr, rfl⟩)
        · rw [sar, skip _ _ r.1 (fun p hp hS hnd hk => ?_), ← var_]
          · exact hn
          · have h2 := (happ p hp hS hnd).1
            simp only [apart, Bool.and_eq_true, List.all_eq_true] at h2
            obtain ⟨r', hr', he⟩ := List.mem_map.1 hk
            have h3 := h2.2 r' hr'
            rw [he] at h3
            simp only [Bool.not_eq_true', List.contains_eq_mem, decide_eq_false_iff_not] at h3
            exact h3 (List.mem_map.2 ⟨r, hr, rfl⟩)
      -- the state behind
      have hget : ∀ k, (listed.setIfInBounds i true).getD k false = if k = i then true else listed.getD k false := by
        intro k
        by_cases hk : k = i
        · subst hk; simp [his]
        · rw [if_neg hk, getD_set_ne false (Ne.symm hk)]
      obtain ⟨L1, L2, hfs⟩ := List.append_of_mem hg
      have hpw : (fs.map (·.1)).Pairwise (· > ·) := by
        rw [hkeys, List.pairwise_reverse]
        exact List.pairwise_lt_range'
      rw [List.pairwise_map, hfs] at hpw
      obtain ⟨pw1, pw2, pw3⟩ := List.pairwise_append.1 hpw
      obtain ⟨pw4, pw5⟩ := List.pairwise_cons.1 pw2
      have hL1 : ∀ q ∈ L1, i < q.1 := fun q hq => pw3 q hq (i, g) (by simp)
      have hL2 : ∀ q ∈ L2, q.1 < i := fun q hq => pw4 q hq
      have hnew : fs.filter (fun p => (listed.setIfInBounds i true).getD p.1 false) = L1.filter (fun p => listed.getD p.1 false) ++ (i, g) :: L2.filter (fun p => listed.getD p.1 false) := by
        rw [hfs, List.filter_append, List.filter_cons_of_pos (by simp [his])]
        congr 1
        · apply List.filter_congr
          intro q hq
          rw [hget, if_neg (by have := hL1 q hq; omega)]
        · congr 1
          apply List.filter_congr
          intro q hq
          rw [hget, if_neg (by have := hL2 q hq; omega)]
      have holdl : fs.filter (fun p => listed.getD p.1 false) = L1.filter (fun p => listed.getD p.1 false) ++ L2.filter (fun p => listed.getD p.1 false) := by
        rw [hfs, List.filter_append, List.filter_cons_of_neg (by simp [hun])]
      have hap1 : ∀ q ∈ L1.filter (fun p => listed.getD p.1 false), apart q.2 g = true := by
        intro q hq
        rw [List.mem_filter] at hq
        refine (happ q (by rw [hfs]; simp [hq.1]) (by simpa using hq.2) fun hqd => ?_).1
        have := hlt i hil q.1 (by rw [q3]; exact hqd)
        have := hL1 q hq.1
        omega
      have heqv : Eqv ((doneS σ0 fs listed).app g) (doneS σ0 fs (listed.setIfInBounds i true)) := by
        have e1 : (doneS σ0 fs (listed.setIfInBounds i true)) = appR σ0 (L1.filter (fun p => listed.getD p.1 false) ++ (i, g) :: L2.filter (fun p => listed.getD p.1 false)) := by unfold doneS; rw [hnew]
        have e2 : (doneS σ0 fs listed) = appR σ0 (L1.filter (fun p => listed.getD p.1 false) ++ L2.filter (fun p => listed.getD p.1 false)) := by unfold doneS; rw [holdl]
        have keys : ∀ {α : Type} (f : Eff → List (Nat × α)), (∀ h : Eff, apart h g = true → (f h).all (fun p => !(keysOf (f g)).contains p.1) = true) → ∀ k, ∀ q ∈ L1.filter (fun p => listed.getD p.1 false), k ∈ keysOf (f g) → k ∉ keysOf (f q.2) := by
          intro α f hf k q hq hk hk2
          have h2 := hf q.2 (hap1 q hq)
          rw [List.all_eq_true] at h2
          obtain ⟨r, hr, rfl⟩ := List.mem_map.1 hk2
          have h3 := h2 r hr
          simp only [Bool.not_eq_true', List.contains_eq_mem, decide_eq_false_iff_not] at h3
          exact h3 hk
        rw [e1, e2]
        refine ⟨by simp only [St.app, appR_nt], fun t => ?_, fun t => ?_, fun t => ?_⟩
        · simp only [St.app, appR_tm]
          exact look_swap (fun p => p.2.tm) _ (i, g) t (keys (fun h => h.tm) (fun h hh => by simp only [apart, Bool.and_eq_true] at hh; exact hh.1.1) t)
        · simp only [St.app, appR_bx]
          exact look_swap (fun p => p.2.bx) _ (i, g) t (keys (fun h => h.bx) (fun h hh => by simp only [apart, Bool.and_eq_true] at hh; exact hh.1.2) t)
        · simp only [St.app, appR_ar]
          exact look_swap (fun p => p.2.ar) _ (i, g) t (keys (fun h => h.ar) (fun h hh => by simp only [apart, Bool.and_eq_true] at hh; exact hh.2) t)
      have hnext : ∀ a' w', Sim N w0 ((doneS σ0 fs listed).app g) a' w' → wpAny P .any l.toArray Q fuel (listed.setIfInBounds i true) a' w' := by
        intro a' w' hs'
        refine ih _ _ _ (by simp [hsz]) (fun j hj hS k hk => ?_) ?_ (heqv.sim hs')
        · rw [hget] at hS ⊢
          by_cases hki : k = i
          · simp [hki]
          · rw [if_neg hki]
            by_cases hji : j = i
            · subst hji; rw [q3] at hk; exact hsub k hk
            · rw [if_neg hji] at hS; exact hcl j hj hS k hk
        · have : ((List.range l.length).filter fun j => !(listed.setIfInBounds i true).getD j false).length < ((List.range l.length).filter fun j => !listed.getD j false).length := by
            have e3 : ((List.range l.length).filter fun j => !(listed.setIfInBounds i true).getD j false) = ((List.range l.length).filter fun j => !listed.getD j false).filter (fun j => decide (j ≠ i)) := by
              rw [List.filter_filter]
              apply List.filter_congr
              intro j _
              rw [hget]
              by_cases hji : j = i <;> simp [hji]
            rw [e3]
            have hmem : i ∈ (List.range l.length).filter fun j => !listed.getD j false := List.mem_filter.2 ⟨List.mem_range.2 hil, by simp [hun]⟩
            exact List.length_filter_lt_length_iff_exists.2 ⟨i, hmem, by simp⟩
          omega
      unfold wpOp
      rw [ho]
      simp only
      obtain ⟨e, hse⟩ := hs
      cases hev0 with
      | plain g hgd hE =>
        rw [if_pos (by simp [Region.wanted, hgd])]
        exact .inl ((hle.ev hE hfresh).sound hse hnext)
      | yes g j want hgd hy hE =>
        have hy' := yld_sound hse (hle.yld hy)
        have hw : Region.wanted o2 (yielded l.toArray a.tmps) = true := by unfold Region.wanted; rw [hgd]; simp only; rw [hy']; simp
        rw [if_pos hw]
        exact .inl ((hle.ev hE hfresh).sound hse hnext)
      | no j want hgd hy =>
        have hy' := yld_sound hse (hle.yld hy)
        have hw : Region.wanted o2 (yielded l.toArray a.tmps) = false := by unfold Region.wanted; rw [hgd]; simp only; rw [hy']; cases want <;> rfl
        rw [if_neg (by simp [hw])]
        refine hnext _ _ (Eq.mp (congrArg (fun s => Sim N w0 s (a.put o2.dst undef) w) ?_) ⟨e, hse.kill o2.dst⟩)
        generalize o2.dst = dd
        cases dd <;> rfl

theorem AW_draw {Q : Exit → St → Prop} {id : Nat} {l : List Oper} (A : List (List Nat)) (hm : P.follows .mixedOrders = true) (hd : depsOk l A = true) (h : awpD P l.toArray σ0 (fun σ' => Q .normal σ') A A l 0 []) : AW P N w0 (.region id l.toArray true) Q σ0 := by
  intro a w hs
  obtain ⟨fs, k1, k2, k3, k4⟩ := awpD_all h (depsOk_spec hd).1.symm
  simp only [List.append_nil] at k2 k3 k4
  refine wp_region_any hm ?_
  refine draw_any (Q := fun e a w => ∃ σ', Q e σ' ∧ Sim N w0 σ' a w) hd k1 k2 (fun j o d ho hdj => by simpa using k4 j o d ho hdj) (fun a w hs => ⟨_, k3, hs⟩) _ _ _ _ (by simp) ?_ ?_ ?_
  · intro j hj hS
    simp [hj] at hS
  · have := List.length_filter_le (fun i => !(Array.replicate l.toArray.size false).getD i false) (List.range l.length)
    simpa using this
  · have : doneS σ0 fs (Array.replicate l.toArray.size false) = σ0 := by
      unfold doneS
      have : fs.filter (fun p => (Array.replicate l.toArray.size false).getD p.1 false) = [] := by
        rw [List.filter_eq_nil_iff]
        intro p hp
        have : (Array.replicate l.toArray.size false).getD p.1 false = false := by
          rcases Nat.lt_or_ge p.1 l.toArray.size with h | h
          · rw [Array.getD_eq_getD_getElem?, Array.getElem?_replicate, if_pos h]; rfl
          · rw [Array.getD_eq_getD_getElem?, Array.getElem?_replicate, if_neg (by omega)]; rfl
        rw [this]; simp
      rw [this]
      rfl
    rw [this]
    exact hs.drew
end

end Go.Proofs.Ytopjlbifglacpaa.Am
