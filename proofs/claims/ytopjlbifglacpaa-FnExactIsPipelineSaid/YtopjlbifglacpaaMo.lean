/- A region that draws its order, walked once in the text's order: its first operations only reckon and read, each into a slot of its own; the others stand behind all that comes ahead of them. -/
import Derived.Test.YtopjlbifglacpaaMb
set_option linter.unusedSimpArgs false
set_option linter.unusedVariables false
namespace Go.Proofs.Ytopjlbifglacpaa.Am
open Go.RowKit

def tmpsOf : List Operand → List Nat
  | [] => []
  | .tmp t :: r => t :: tmpsOf r
  | _ :: r => tmpsOf r
theorem tmpsOf_mem : ∀ {l : List Operand} {t : Nat}, Operand.tmp t ∈ l → t ∈ tmpsOf l
  | [], _, h => by simp at h
  | .tmp u :: r, t, h => by
    rcases List.mem_cons.1 h with h | h
    · cases h; simp [tmpsOf]
    · simp [tmpsOf, tmpsOf_mem h]
  | .const _ :: r, t, h => by
    rcases List.mem_cons.1 h with h | h
    · cases h
    · simp [tmpsOf, tmpsOf_mem h]
  | .global _ :: r, t, h => by
    rcases List.mem_cons.1 h with h | h
    · cases h
    · simp [tmpsOf, tmpsOf_mem h]
  | .func _ :: r, t, h => by
    rcases List.mem_cons.1 h with h | h
    · cases h
    · simp [tmpsOf, tmpsOf_mem h]
/-- The slots that an operation reads. -/
def usedBy (l : List Oper) (o : Oper) : List Nat :=
  tmpsOf o.op.operands.toList ++ (match o.guard with | some (j, _) => (match (l[j]?).bind (·.dst) with | some d => [d] | none => []) | none => [])

/-- Operations that make or write memory. -/
def isMem : Op → Bool
  | .box _ _ | .alloc _ | .store _ _ _ | .buildSlice _ _ _ | .makeSlice _ _ _ => true
  | .call { callee := .builtin .append, args := _, argTypes := _ } => true
  | _ => false
/-- The first n operations write each a slot of its own, and read of the region's own only what they stand behind; the others stand behind all. -/
def locOk (l : List Oper) (A : List (List Nat)) (n : Nat) : Bool :=
  ((l.take n).zip A).zipIdx.all (fun ((o, d), i) => !isMem o.op && o.dst.isSome && (l.take n).zipIdx.all fun (q, j) => j == i || (q.dst != o.dst && (d.contains j || (usedBy l o).all fun t => q.dst != some t))) &&
  ((l.zip A).zipIdx.all fun ((_, d), i) => decide (i < n) || (List.range i).all d.contains) && decide (n ≤ l.length)

section
variable {σ σ' : St} {P : Program} {N : Nat → Prop} {w0 : Bs}
theorem loc_opd {x : Operand} (h : ∀ t, x = .tmp t → σ'.tm.lookup t = σ.tm.lookup t) : opd σ' x = opd σ x := by
  cases x with
  | tmp t => exact h t rfl
  | _ => rfl
theorem loc_num {x : Operand} (h : opd σ' x = opd σ x) : num σ' x = num σ x := by unfold num; rw [h]
theorem loc_opds : ∀ {l : List Operand}, (∀ x ∈ l, opd σ' x = opd σ x) → opds σ' l = opds σ l
  | [], _ => rfl
  | x :: l, h => by
    have h2 := loc_opds (l := l) fun y hy => h y (List.mem_cons_of_mem _ hy)
    simp only [opds, h x (by simp), h2]
theorem loc_parts : ∀ {l : List (Nat × Operand)}, (∀ p ∈ l, opd σ' p.2 = opd σ p.2) → parts σ' l = parts σ l
  | [], _ => rfl
  | (i, x) :: l, h => by
    have h2 := loc_parts (l := l) fun y hy => h y (List.mem_cons_of_mem _ hy)
    have h1 : opd σ' x = opd σ x := h (i, x) (by simp)
    simp only [parts, h1, h2]
theorem loc_bound {d : Int} {x : Option Operand} (h : ∀ y, x = some y → opd σ' y = opd σ y) : bound σ' d x = bound σ d x := by
  cases x with
  | none => rfl
  | some y => simp only [bound, loc_num (h y rfl)]

theorem loc_valOp {op : Op} (hx : ∀ x ∈ op.operands.toList, opd σ' x = opd σ x) (hb : σ'.bx = σ.bx) (ha : σ'.ar = σ.ar) : valOp P σ' op = valOp P σ op := by
  cases op
  case build t ps =>
    have h : parts σ' ps.toList = parts σ ps.toList := loc_parts fun p hp => hx p.2 (by simp [Op.operands]; exact ⟨p.1, by simpa using hp⟩)
    simp only [valOp, h]
  case slice t x lo hi mx =>
    have h1 := hx x (by simp [Op.operands])
    have h2 : ∀ d, bound σ' d lo = bound σ d lo := fun d => loc_bound fun y hy => hx y (by simp [Op.operands, hy])
    have h3 : ∀ d, bound σ' d hi = bound σ d hi := fun d => loc_bound fun y hy => hx y (by simp [Op.operands, hy])
    cases mx <;> simp only [valOp, h1, h2, h3]
  case call c =>
    obtain ⟨ce, args, ts⟩ := c
    have h1 : ∀ x ∈ args.toList, opd σ' x = opd σ x := fun x hx' => hx x (by simp [Op.operands, Call.operands]; exact .inr (by simpa using hx'))
    have h2 : opds σ' args.toList = opds σ args.toList := loc_opds h1
    cases ce with
    | builtin b =>
      cases b <;> simp only [valOp, h2]
      split
      · rename_i x t hxs hts
        rw [h1 x (by rw [hxs]; simp)]
      · rfl
    | _ => simp only [valOp]
  all_goals simp only [Op.operands, List.mem_cons, List.not_mem_nil, or_false, forall_eq, forall_eq_or_imp, List.mem_singleton] at hx
  all_goals first
    | (simp only [valOp]; done)
    | (simp only [valOp, num, hx, hb, ha]; done)
    | (obtain ⟨h1, h2⟩ := hx; simp only [valOp, num, h1, h2, hb, ha]; done)
    | (obtain ⟨h1, h2, h3⟩ := hx; simp only [valOp, num, h1, h2, h3, hb, ha]; done)

theorem loc_datC (ha : σ'.ar = σ.ar) (c : CV) : datC σ' c = datC σ c := by unfold datC; rw [ha]
theorem loc_datL (ha : σ'.ar = σ.ar) : ∀ cs : List CV, datL σ' cs = datL σ cs
  | [] => rfl
  | c :: cs => by simp only [datL, loc_datC ha, loc_datL ha cs]
theorem loc_datV (ha : σ'.ar = σ.ar) (v : V) : datV σ' v = datV σ v := by cases v <;> simp only [datV, loc_datC ha, loc_datL ha]
theorem loc_datVs (ha : σ'.ar = σ.ar) : ∀ vs : List V, datVs σ' vs = datVs σ vs
  | [] => rfl
  | v :: vs => by simp only [datVs, loc_datV ha, loc_datVs ha vs]
theorem loc_yld {ops : Array Oper} {j : Nat} {want : Bool} (h : ∀ d, (ops[j]?).bind (·.dst) = some d → σ'.tm.lookup d = σ.tm.lookup d) : yld σ' ops j want = yld σ ops j want := by
  unfold yld
  split
  · rename_i d hd; rw [h d hd]
  · rfl

theorem loc_callEff (hn : σ'.nt = σ.nt) (ha : σ'.ar = σ.ar) (d : Option Nat) (fr dp : Bool) (rs : List DV) : callEff σ' d fr dp rs = callEff σ d fr dp rs := by unfold callEff; rw [hn, ha]
theorem memOp_none {op : Op} {d : Option Nat} (h : isMem op = false) : memOp P σ d op = none := by
  cases op
  case call c =>
    obtain ⟨ce, args, ts⟩ := c
    cases ce with
    | builtin b => cases b <;> first | (simp [isMem] at h; done) | rfl
    | _ => rfl
  all_goals first | (simp [isMem] at h; done) | rfl
theorem loc_stepE {o : Oper} (hm : isMem o.op = false) (hx : ∀ x ∈ o.op.operands.toList, opd σ' x = opd σ x) (hb : σ'.bx = σ.bx) (ha : σ'.ar = σ.ar) (hn : σ'.nt = σ.nt) : stepE P σ' o = stepE P σ o := by
  unfold stepE
  rw [loc_valOp hx hb ha, memOp_none hm, memOp_none hm, hn]
theorem loc_ev {o : Oper} {g : Eff} (hm : isMem o.op = false) (hx : ∀ x ∈ o.op.operands.toList, opd σ' x = opd σ x) (hb : σ'.bx = σ.bx) (ha : σ'.ar = σ.ar) (hn : σ'.nt = σ.nt) (hv : Ev P σ o g) : Ev P σ' o g := by
  cases hv with
  | step g h hs => exact .step g ((loc_stepE hm hx hb ha hn).trans h) hs
  | call f xs vs ds pu p fr dp rs g h1 h2 h3 h4 h5 h6 h7 =>
    refine .call f xs vs ds pu p fr dp rs g h1 ?_ ((loc_datVs ha vs).trans h3) h4 h5 h6 ((loc_callEff hn ha _ _ _ _).trans h7)
    rw [← h2]
    refine loc_opds fun x hx' => hx x ?_
    unfold callOf at h1
    split at h1
    · rename_i f' xs' ts ho
      obtain ⟨rfl, rfl⟩ := Prod.mk.inj (Option.some.inj h1)
      rw [ho]
      simp [Op.operands, Call.operands]
      exact .inr (by simpa using hx')
    · cases h1
theorem ev_tm {o : Oper} {g : Eff} (hm : isMem o.op = false) (hv : Ev P σ o g) : ∀ k ∈ keysOf g.tm, o.dst = some k := by
  cases hv with
  | step g h hs =>
    unfold stepE at h
    rw [memOp_none hm] at h
    split at h
    · split at h
      · rename_i d hd
        split at h
        · obtain rfl := Option.some.inj h; intro k hk; simp [keysOf] at hk; rw [hk]; exact hd
        · cases h
      · obtain rfl := Option.some.inj h; intro k hk; simp [keysOf] at hk
    · cases h
  | call f xs vs ds pu p fr dp rs g h1 h2 h3 h4 h5 h6 h7 =>
    unfold callEff at h7
    split at h7
    · obtain rfl := Option.some.inj h7; intro k hk; simp [keysOf] at hk
    · rename_i d hd
      split at h7
      · split at h7
        · split at h7
          · obtain rfl := Option.some.inj h7; intro k hk; simp [keysOf] at hk; rw [hk]; exact hd
          · cases h7
        · obtain rfl := Option.some.inj h7; intro k hk; simp [keysOf] at hk; rw [hk]; exact hd
      · cases h7
theorem evG_tm {ops : Array Oper} {o : Oper} {g : Eff} (hm : isMem o.op = false) (hv : EvG P ops σ o g) : ∀ k ∈ keysOf g.tm, o.dst = some k := by
  cases hv with
  | plain g hg h => exact ev_tm hm h
  | yes g j want hg hy h => exact ev_tm hm h
  | no j want hg hy =>
    intro k hk
    cases hd : o.dst with
    | none => rw [hd] at hk; simp [keysOf] at hk
    | some d => rw [hd] at hk; simp [keysOf] at hk; rw [hk]
theorem loc_evG {l : List Oper} {o : Oper} {g : Eff} (hm : isMem o.op = false) (hx : ∀ t ∈ usedBy l o, σ'.tm.lookup t = σ.tm.lookup t) (hb : σ'.bx = σ.bx) (ha : σ'.ar = σ.ar) (hn : σ'.nt = σ.nt) (hv : EvG P l.toArray σ o g) : EvG P l.toArray σ' o g := by
  have h1 : ∀ x ∈ o.op.operands.toList, opd σ' x = opd σ x := fun x hx' => loc_opd fun t ht => hx t (by
    subst ht; exact List.mem_append_left _ (tmpsOf_mem hx'))
  have h2 : ∀ j want, o.guard = some (j, want) → yld σ' l.toArray j want = yld σ l.toArray j want := fun j want hg => loc_yld fun d hd => hx d (by
    refine List.mem_append_right _ ?_
    rw [hg]
    simp only [List.getElem?_toArray] at hd
    simp only [hd]
    simp)
  cases hv with
  | plain g hg h => exact .plain g hg (loc_ev hm h1 hb ha hn h)
  | yes g j want hg hy h => exact .yes g j want hg ((h2 j want hg).trans hy) (loc_ev hm h1 hb ha hn h)
  | no j want hg hy => exact .no j want hg ((h2 j want hg).trans hy)

def appAll (σ : St) : List Eff → St
  | [] => σ
  | g :: gs => appAll (σ.app g) gs

theorem awpOps_all {ops : Array Oper} : ∀ {l : List Oper} {σ : St} {K : St → Prop}, awpOps P ops l σ K →
    ∃ gs : List Eff, gs.length = l.length ∧ K (appAll σ gs) ∧ ∀ i o g, l[i]? = some o → gs[i]? = some g → EvG P ops (appAll σ (gs.take i)) o g
  | [], σ, K, h => ⟨[], rfl, by simpa [awpOps_nil, appAll] using h, by simp⟩
  | ⟨d, op, ty, pos, af, gd⟩ :: rest, σ, K, h => by
    have step : ∀ g, EvG P ops σ ⟨d, op, ty, pos, af, gd⟩ g → awpOps P ops rest (σ.app g) K →
        ∃ gs : List Eff, gs.length = rest.length + 1 ∧ K (appAll σ gs) ∧ ∀ i o g, (⟨d, op, ty, pos, af, gd⟩ :: rest)[i]? = some o → gs[i]? = some g → EvG P ops (appAll σ (gs.take i)) o g := by
      intro g hg hr
      obtain ⟨gs, k1, k2, k3⟩ := awpOps_all hr
      refine ⟨g :: gs, by simp [k1], k2, fun i o g' ho hg' => ?_⟩
      cases i with
      | zero => simp at ho hg'; subst ho hg'; exact hg
      | succ i => simp at ho hg'; exact k3 i o g' ho hg'
    have run : aRun P ops ⟨d, op, ty, pos, af, gd⟩ rest σ K (callOf op) → ∃ g, Ev P σ ⟨d, op, ty, pos, af, gd⟩ g ∧ awpOps P ops rest (σ.app g) K := by
      intro hr
      unfold aRun at hr
      split at hr
      · rename_i f xs hc
        unfold aCall at hr
        split at hr
        · rename_i ds pu p hd
          obtain ⟨hp, fr, dp, rs, h5, h6, h7⟩ := hr
          unfold aNext at h7
          split at h7
          · rename_i g hg
            obtain ⟨vs, hvs, hd⟩ := Option.bind_eq_some_iff.1 hd
            exact ⟨g, .call f xs vs ds pu p fr dp rs g hc hvs hd hp h5 h6 hg, h7.2⟩
          · exact h7.elim
        · exact hr.elim
      · unfold aNext at hr
        split at hr
        · rename_i g hg; exact ⟨g, .step g hg hr.1, hr.2⟩
        · exact hr.elim
    cases gd with
    | none =>
      rw [awpOps_plain] at h
      obtain ⟨g, h1, h2⟩ := run h
      exact step g (.plain g rfl h1) h2
    | some p =>
      obtain ⟨j, want⟩ := p
      rw [awpOps_guard] at h
      unfold aGuard at h
      split at h
      · rename_i b hy
        by_cases hb : b = want
        · obtain ⟨g, h1, h2⟩ := run (h.1 hb)
          exact step g (.yes g j want rfl (by rw [hy, hb]) h1) h2
        · have hb' : (!b) = want := by cases b <;> cases want <;> simp_all
          have h2 := h.2 hb'
          rw [killApp] at h2
          exact step _ (.no j want rfl (by rw [hy]; cases b <;> cases want <;> simp_all)) h2
      · exact h.elim

theorem appAll_snoc : ∀ (gs : List Eff) (σ : St) (g : Eff), appAll σ (gs ++ [g]) = (appAll σ gs).app g
  | [], _, _ => rfl
  | x :: gs, σ, g => appAll_snoc gs (σ.app x) g
theorem appAll_append : ∀ (gs hs : List Eff) (σ : St), appAll σ (gs ++ hs) = appAll (appAll σ gs) hs
  | [], _, _ => rfl
  | x :: gs, hs, σ => appAll_append gs hs (σ.app x)
theorem appAll_bx : ∀ (gs : List Eff) (σ : St), (appAll σ gs).bx.length = (gs.map (·.bx.length)).sum + σ.bx.length
  | [], _ => by simp [appAll]
  | x :: gs, σ => by simp only [appAll, appAll_bx gs, St.app, List.length_append, List.map_cons, List.sum_cons]; omega
theorem appAll_ar : ∀ (gs : List Eff) (σ : St), (appAll σ gs).ar.length = (gs.map (·.ar.length)).sum + σ.ar.length
  | [], _ => by simp [appAll]
  | x :: gs, σ => by simp only [appAll, appAll_ar gs, St.app, List.length_append, List.map_cons, List.sum_cons]; omega
theorem sum_zero : ∀ {l : List Nat}, l.sum = 0 → ∀ x ∈ l, x = 0
  | [], _, _, h => by simp at h
  | y :: l, hs, x, h => by
    simp only [List.sum_cons] at hs
    rcases List.mem_cons.1 h with rfl | h
    · omega
    · exact sum_zero (by omega) x h

/-- The slots of these operations are not in use. -/
def freshT (σ0 : St) : List Oper → Prop
  | [] => True
  | o :: r => (match o.dst with | some d => σ0.tm.lookup d = none | none => True) ∧ freshT σ0 r
theorem freshT_at {σ0 : St} : ∀ {l : List Oper}, freshT σ0 l → ∀ o ∈ l, ∀ d, o.dst = some d → σ0.tm.lookup d = none
  | [], _, _, h, _, _ => by simp at h
  | x :: l, hf, o, h, d, hd => by
    simp only [freshT] at hf
    rcases List.mem_cons.1 h with rfl | h
    · have := hf.1; rw [hd] at this; exact this
    · exact freshT_at hf.2 o h d hd

structure LocOk (l : List Oper) (A : List (List Nat)) (n : Nat) : Prop where
  le : n ≤ l.length
  mem : ∀ i o, i < n → l[i]? = some o → isMem o.op = false ∧ o.dst.isSome = true
  dst : ∀ i j o q, i < n → j < n → i ≠ j → l[i]? = some o → l[j]? = some q → q.dst ≠ o.dst
  use : ∀ i j o q t, i < n → j < n → i ≠ j → l[i]? = some o → l[j]? = some q → q.dst = some t → t ∈ usedBy l o → j ∈ A.getD i []
  all : ∀ i k, n ≤ i → i < l.length → k < i → k ∈ A.getD i []

theorem locOk_spec {l : List Oper} {A : List (List Nat)} {n : Nat} (hl : A.length = l.length) (h : locOk l A n = true) : LocOk l A n := by
  unfold locOk at h
  simp only [Bool.and_eq_true, decide_eq_true_eq] at h
  obtain ⟨⟨h1, h2⟩, h3⟩ := h
  have hA : ∀ i, i < l.length → A[i]? = some (A.getD i []) := by
    intro i hi
    have h1 : i < A.length := by omega
    rw [List.getD_eq_getElem?_getD, List.getElem?_eq_getElem h1]; rfl
  have zipAt : ∀ i o, i < n → l[i]? = some o → ((o, A.getD i []), i) ∈ ((l.take n).zip A).zipIdx := by
    intro i o hi ho
    have hil := (List.getElem?_eq_some_iff.1 ho).1
    refine List.mem_zipIdx_iff_getElem?.2 ?_
    simp only
    rw [List.getElem?_zip_eq_some]
    exact ⟨by rw [List.getElem?_take]; simp [hi, ho], hA i hil⟩
  have zipAt' : ∀ i o, i < l.length → l[i]? = some o → ((o, A.getD i []), i) ∈ (l.zip A).zipIdx := by
    intro i o hi ho
    refine List.mem_zipIdx_iff_getElem?.2 ?_
    simp only
    rw [List.getElem?_zip_eq_some]
    exact ⟨ho, hA i hi⟩
  have idxAt : ∀ j q, j < n → l[j]? = some q → (q, j) ∈ (l.take n).zipIdx := by
    intro j q hj hq
    refine List.mem_zipIdx_iff_getElem?.2 ?_
    simp only
    rw [List.getElem?_take]; simp [hj, hq]
  have key : ∀ i o, i < n → l[i]? = some o → (isMem o.op = false ∧ o.dst.isSome = true) ∧ ∀ j q, j < n → i ≠ j → l[j]? = some q → q.dst ≠ o.dst ∧ (j ∈ A.getD i [] ∨ ∀ t ∈ usedBy l o, q.dst ≠ some t) := by
    intro i o hi ho
    have := List.all_eq_true.1 h1 _ (zipAt i o hi ho)
    simp only [Bool.and_eq_true, Bool.not_eq_true'] at this
    refine ⟨⟨this.1.1, this.1.2⟩, fun j q hj hne hq => ?_⟩
    have h4 := List.all_eq_true.1 this.2 _ (idxAt j q hj hq)
    simp only [Bool.or_eq_true, Bool.and_eq_true, beq_iff_eq, bne_iff_ne, List.contains_iff_mem, List.all_eq_true] at h4
    rcases h4 with h4 | h4
    · exact absurd h4.symm hne
    · exact h4
  refine ⟨h3, fun i o hi ho => (key i o hi ho).1, fun i j o q hi hj hne ho hq => ((key i o hi ho).2 j q hj hne hq).1, fun i j o q t hi hj hne ho hq ht hu => ?_, fun i k hi hil hk => ?_⟩
  · rcases ((key i o hi ho).2 j q hj hne hq).2 with h | h
    · exact h
    · exact absurd ht (h t hu)
  · have := List.all_eq_true.1 h2 _ (zipAt' i l[i] hil (List.getElem?_eq_getElem hil))
    simp only [Bool.or_eq_true, decide_eq_true_eq, List.all_eq_true, List.contains_iff_mem] at this
    rcases this with h | h
    · omega
    · exact h k (List.mem_range.2 hk)

theorem depLt {l : List Oper} {A : List (List Nat)} (hd : depsOk l A = true) (hlen : l.length = A.length) : ∀ {i : Nat}, i < l.length → ∀ {k : Nat}, k ∈ A.getD i [] → k < i := by
  obtain ⟨_, hdep⟩ := depsOk_spec hd
  intro i
  induction i using Nat.strongRecOn with
  | _ i ih =>
    intro hi k hk
    have h1 : i < A.length := by omega
    have h2 : A[i]? = some (A.getD i []) := by rw [List.getD_eq_getElem?_getD, List.getElem?_eq_getElem h1]; rfl
    obtain ⟨e, he, hb, hor⟩ := (hdep i l[i] _ (List.getElem?_eq_getElem hi) h2).2 k hk
    have he2 := ((hdep i l[i] _ (List.getElem?_eq_getElem hi) h2).1 e he hb).2
    rcases hor with rfl | hor
    · exact he2
    · have := ih e.on he2 (by omega) hor; omega
/-- Where the first n operations only read, the text's own order does for all. -/
theorem AW_quick {Q : Exit → St → Prop} {σ0 : St} {id : Nat} {l : List Oper} (A : List (List Nat)) (n : Nat) (hm : P.follows .mixedOrders = true) (hd : depsOk l A = true) (hl : locOk l A n = true)
    (h : awpOps P l.toArray (l.take n) σ0 (fun σ1 => σ1.bx.length = σ0.bx.length ∧ σ1.ar.length = σ0.ar.length ∧ freshT σ0 (l.take n) ∧ awpOps P l.toArray (l.drop n) σ1 (fun σ' => Q .normal σ'))) : AW P N w0 (.region id l.toArray true) Q σ0 := by
  obtain ⟨hlen, _⟩ := depsOk_spec hd
  have L := locOk_spec hlen.symm hl
  obtain ⟨gs1, a1, ⟨a2, a3, a4, a5⟩, a6⟩ := awpOps_all h
  obtain ⟨gs2, b1, b2, b3⟩ := awpOps_all a5
  have hn : gs1.length = n := by rw [a1, List.length_take, Nat.min_eq_left L.le]
  have hb0 : ∀ g ∈ gs1, g.bx = [] := by
    intro g hg
    rw [appAll_bx] at a2
    have := sum_zero (show (gs1.map (·.bx.length)).sum = 0 by omega) g.bx.length (List.mem_map.2 ⟨g, hg, rfl⟩)
    exact List.eq_nil_of_length_eq_zero this
  have ha0 : ∀ g ∈ gs1, g.ar = [] := by
    intro g hg
    rw [appAll_ar] at a3
    have := sum_zero (show (gs1.map (·.ar.length)).sum = 0 by omega) g.ar.length (List.mem_map.2 ⟨g, hg, rfl⟩)
    exact List.eq_nil_of_length_eq_zero this
  -- all effects, in the text's order
  obtain ⟨gs, hgs⟩ : ∃ gs, gs = gs1 ++ gs2 := ⟨_, rfl⟩
  have hgl : gs.length = l.length := by rw [hgs, List.length_append, b1, hn, List.length_drop]; have := L.le; omega
  have hgK : Q .normal (appAll σ0 gs) := by rw [hgs, appAll_append]; exact b2
  have hev : ∀ i o g, l[i]? = some o → gs[i]? = some g → EvG P l.toArray (appAll σ0 (gs.take i)) o g := by
    intro i o g ho hg
    by_cases hi : i < n
    · rw [hgs, List.getElem?_append_left (by omega)] at hg
      rw [hgs, List.take_append_of_le_length (by omega)]
      exact a6 i o g (by rw [List.getElem?_take, if_pos hi]; exact ho) hg
    · rw [hgs, List.getElem?_append_right (by omega)] at hg
      have := b3 (i - gs1.length) o g (by rw [List.getElem?_drop, show n + (i - gs1.length) = i by omega]; exact ho) hg
      rw [hgs, List.take_append, List.take_of_length_le (show gs1.length ≤ i by omega), appAll_append]
      exact this
  have hq : ∀ i g, i < n → gs[i]? = some g → g ∈ gs1 := by
    intro i g hi hg
    rw [hgs, List.getElem?_append_left (by omega)] at hg
    exact List.mem_of_getElem? hg
  have htm : ∀ i o g, i < n → l[i]? = some o → gs[i]? = some g → ∀ k ∈ keysOf g.tm, o.dst = some k := fun i o g hi ho hg => evG_tm (L.mem i o hi ho).1 (hev i o g ho hg)
  have hAl : ∀ i, A.drop i = [] ↔ l.drop i = [] := by intro i; rw [List.drop_eq_nil_iff, List.drop_eq_nil_iff, hlen]
  refine AW_draw A hm hd ?_
  have main : ∀ (m i : Nat) (es : List (Nat × Eff)), i + m = l.length → appR σ0 es = appAll σ0 (gs.take i) → (∀ p ∈ es, p.1 < i ∧ gs[p.1]? = some p.2) → awpD P l.toArray σ0 (fun σ' => Q .normal σ') A (A.drop i) (l.drop i) i es := by
    intro m
    induction m with
    | zero =>
      intro i es hi hes hp
      rw [List.drop_of_length_le (show l.length ≤ i by omega)]
      refine awpD_nil _ i es ?_ ?_
      · -- each pair stands apart
        unfold dOk
        refine List.all_eq_true.2 fun p hp1 => List.all_eq_true.2 fun q hq1 => ?_
        obtain ⟨p1, p2⟩ := hp p hp1
        obtain ⟨q1, q2⟩ := hp q hq1
        have pl : p.1 < l.length := by omega
        have ql : q.1 < l.length := by omega
        simp only [Bool.or_eq_true, beq_iff_eq, List.contains_iff_mem, Bool.and_eq_true, Bool.not_eq_true']
        by_cases hpq : p.1 = q.1
        · exact .inl (.inl (.inl hpq))
        by_cases hpn : n ≤ p.1
        · by_cases hqp : q.1 < p.1
          · exact .inl (.inl (.inr (L.all p.1 q.1 hpn pl hqp)))
          · exact .inl (.inr (L.all q.1 p.1 (by omega) ql (by omega)))
        by_cases hqn : n ≤ q.1
        · exact .inl (.inr (L.all q.1 p.1 hqn ql (by omega)))
        by_cases hqA : q.1 ∈ A.getD p.1 []
        · exact .inl (.inl (.inr hqA))
        right
        have gp := hq p.1 p.2 (by omega) p2
        have gq := hq q.1 q.2 (by omega) q2
        have kp := htm p.1 l[p.1] p.2 (by omega) (List.getElem?_eq_getElem pl) p2
        have kq := htm q.1 l[q.1] q.2 (by omega) (List.getElem?_eq_getElem ql) q2
        have hne := L.dst p.1 q.1 _ _ (by omega) (by omega) hpq (List.getElem?_eq_getElem pl) (List.getElem?_eq_getElem ql)
        refine ⟨?_, ?_⟩
        · unfold apart
          rw [hb0 _ gq, ha0 _ gq]
          simp only [List.all_nil, Bool.and_true, List.all_eq_true, Bool.not_eq_true']
          intro r hr
          cases hc : (keysOf p.2.tm).contains r.1 with
          | false => rfl
          | true =>
            have e1 := kp r.1 (by simpa using hc)
            have e2 := kq r.1 (List.mem_map.2 ⟨r, hr, rfl⟩)
            exact absurd (e2.trans e1.symm) hne
        · unfold touch
          rw [hb0 _ gq, ha0 _ gq]
          simp only [List.any_nil, Bool.or_false]
          rw [List.any_eq_false]
          intro r hr
          have e2 := kq r.1 (List.mem_map.2 ⟨r, hr, rfl⟩)
          have hfr := freshT_at a4 l[q.1] (List.mem_of_getElem? (i := q.1) (by rw [List.getElem?_take, if_pos (by omega)]; exact List.getElem?_eq_getElem ql)) r.1 e2
          have : (view σ0 es (A.getD p.1 [])).tm.lookup r.1 = none := by
            unfold view
            rw [appR_tm, lookup_append, hfr, Option.or_none]
            refine lookup_none_of fun hk => ?_
            obtain ⟨x, hx, hx1⟩ := List.mem_map.1 hk
            obtain ⟨z, hz, hz1⟩ := List.mem_flatMap.1 hx
            obtain ⟨hz2, hz3⟩ := List.mem_filter.1 hz
            obtain ⟨z1, z2⟩ := hp z hz2
            have hzA : z.1 ∈ A.getD p.1 [] := by simpa using hz3
            have hzp : z.1 < p.1 := depLt hd hlen pl hzA
            have kz := htm z.1 l[z.1] z.2 (by omega) (List.getElem?_eq_getElem (by omega)) z2 r.1 (List.mem_map.2 ⟨x, hz1, hx1⟩)
            have hzq : z.1 ≠ q.1 := fun e => hqA (e ▸ hzA)
            exact absurd (e2.trans kz.symm) (L.dst z.1 q.1 _ _ (by omega) (by omega) hzq (List.getElem?_eq_getElem (by omega)) (List.getElem?_eq_getElem ql))
          rw [this]; simp
      · rw [hes, show i = gs.length by omega, List.take_length]; exact hgK
    | succ m ih =>
      intro i es hi hes hp
      have hil : i < l.length := by omega
      have hiA : i < A.length := by omega
      have hig : i < gs.length := by omega
      rw [List.drop_eq_getElem_cons hil, List.drop_eq_getElem_cons hiA]
      have hg := hev i l[i] gs[i] (List.getElem?_eq_getElem hil) (List.getElem?_eq_getElem hig)
      have hAi : A.getD i [] = A[i] := by rw [List.getD_eq_getElem?_getD, List.getElem?_eq_getElem hiA]; rfl
      refine ⟨gs[i], ?_, ih (i + 1) ((i, gs[i]) :: es) (by omega) ?_ ?_⟩
      · rw [← hes] at hg
        by_cases hin : n ≤ i
        · have : view σ0 es A[i] = appR σ0 es := by
            unfold view
            rw [List.filter_eq_self.2]
            intro p hp1
            have := L.all i p.1 hin hil (hp p hp1).1
            rw [hAi] at this
            simpa using this
          rw [this]; exact hg
        · have hnil : ∀ p ∈ es, p.2.bx = [] ∧ p.2.ar = [] := fun p hp1 => by
            have := hq p.1 p.2 (by have := (hp p hp1).1; omega) (hp p hp1).2
            exact ⟨hb0 _ this, ha0 _ this⟩
          have fm : ∀ {α : Type} (f : Nat × Eff → List α) (L : List (Nat × Eff)), (∀ p ∈ L, f p = []) → L.flatMap f = [] := fun f L hL => List.flatMap_eq_nil_iff.2 hL
          refine loc_evG (L.mem i l[i] (by omega) (List.getElem?_eq_getElem hil)).1 (fun t ht => ?_) ?_ ?_ ?_ hg
          · unfold view
            rw [appR_tm, appR_tm]
            refine (look_skip (fun p => p.2.tm) σ0.tm (fun p => A[i].contains p.1) t fun p hp1 hs => ?_).symm
            intro hk
            obtain ⟨p1, p2⟩ := hp p hp1
            have kp := htm p.1 l[p.1] p.2 (by omega) (List.getElem?_eq_getElem (by omega)) p2 t hk
            have := L.use i p.1 l[i] l[p.1] t (by omega) (by omega) (by omega) (List.getElem?_eq_getElem hil) (List.getElem?_eq_getElem (by omega)) kp ht
            rw [hAi] at this
            have h' : A[i].contains p.1 = true := by simpa using this
            rw [h'] at hs; cases hs
          · unfold view
            rw [appR_bx, appR_bx, fm _ _ (fun p hp1 => (hnil p ((List.mem_filter.1 hp1).1)).1), fm _ es fun p hp1 => (hnil p hp1).1]
          · unfold view
            rw [appR_ar, appR_ar, fm _ _ (fun p hp1 => (hnil p ((List.mem_filter.1 hp1).1)).2), fm _ es fun p hp1 => (hnil p hp1).2]
          · unfold view
            rw [appR_nt, appR_nt]
      · show (appR σ0 es).app gs[i] = _
        rw [hes, List.take_add_one, List.getElem?_eq_getElem hig, Option.toList_some, appAll_snoc]
      · intro p hp1
        rcases List.mem_cons.1 hp1 with rfl | hp1
        · exact ⟨by simp, List.getElem?_eq_getElem hig⟩
        · obtain ⟨p1, p2⟩ := hp p hp1
          exact ⟨by omega, p2⟩
  simpa using main l.length 0 [] (by omega) rfl (by simp)
end
end Go.Proofs.Ytopjlbifglacpaa.Am
