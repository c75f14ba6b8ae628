/- Operations that only reckon and read: what they yield in a state told as plain data. -/
import Derived.Test.YtopjlbifglacpaaAmB
set_option linter.unusedSimpArgs false
set_option linter.unusedVariables false
namespace Go.Proofs.Ytopjlbifglacpaa.Am
open Go.RowKit

theorem wrap_wrap (k : IntKind) (n : Int) : k.wrap (k.wrap n) = k.wrap n := by
  cases k <;> simp only [IntKind.wrap, IntKind.bits, IntKind.signed] <;> simp <;> (try split) <;> (try split) <;> omega
theorem InK.wrap (k : IntKind) (n : Int) : InK k (k.wrap n) := wrap_wrap k n
theorem inK_i64 (n : Int) : InK .i64 n ↔ -9223372036854775808 ≤ n ∧ n ≤ 9223372036854775807 := by
  constructor
  · intro h
    unfold InK at h
    simp only [IntKind.wrap, IntKind.bits, IntKind.signed] at h
    simp at h
    split at h <;> omega
  · exact fun h => IntWalk.i64_in n h
theorem inK_u8 (n : Int) : InK .u8 n ↔ 0 ≤ n ∧ n ≤ 255 := by
  constructor
  · intro h
    unfold InK at h
    simp only [IntKind.wrap, IntKind.bits, IntKind.signed] at h
    simp at h
    omega
  · exact fun h => IntWalk.u8_in n h

inductive TD where
  | bool
  | int (k : IntKind)
  | str
  | slice (e : Nat)
  | struct (fs : List (Nat × Nat))
  | other

structure TI where
  td : TD
  size : Nat
  bytes : Nat
  zero : List Value

def tdOf : TypeDesc → TD
  | .bool => .bool
  | .int k => .int k
  | .string => .str
  | .slice e => .slice e
  | .struct fs => .struct (fs.toList.map fun f => (f.offset, f.type))
  | _ => .other

/-- A type's row, as far as the walk asks it. -/
def ti (P : Program) (t : Nat) : Option TI :=
  match P.info? t, P.underlying t with
  | some i, some d => i.zero.map fun z => ⟨tdOf d, i.size, i.bytes, z.cells.toList⟩
  | _, _ => none

def TD.agg : TD → Option Bool
  | .struct _ => some true
  | .other => none
  | _ => some false

theorem ti_spec {P : Program} {t : Nat} {i : TI} (h : ti P t = some i) : ∃ j d z, P.info? t = some j ∧ P.underlying t = some d ∧ j.zero = some z ∧ tdOf d = i.td ∧ j.size = i.size ∧ j.bytes = i.bytes ∧ z.cells.toList = i.zero := by
  unfold ti at h
  split at h
  · rename_i j d hj hd
    obtain ⟨z, hz, h⟩ := Option.map_eq_some_iff.1 h
    subst h
    exact ⟨j, d, z, hj, hd, hz, rfl, rfl, rfl, rfl⟩
  · cases h

theorem isAgg_of {P : Program} {t : Nat} {i : TI} {b : Bool} (h : ti P t = some i) (hb : i.td.agg = some b) (w : World) : (isAgg t).run P w = .ok b w := by
  obtain ⟨j, d, z, h1, h2, h3, h4, h5, h6, h7⟩ := ti_spec h
  unfold isAgg
  rw [Sem.run_bind, run_underlying h2 w]
  rw [← h4] at hb
  cases d <;> simp [tdOf, TD.agg] at hb <;> subst hb <;> rfl
theorem sizeOf_of {P : Program} {t : Nat} {i : TI} (h : ti P t = some i) (w : World) : (sizeOf t).run P w = .ok i.size w := by
  obtain ⟨j, d, z, h1, h2, h3, h4, h5, h6, h7⟩ := ti_spec h
  simp [sizeOf, typeInfo, h1, h5]
theorem zero_of {P : Program} {t : Nat} {i : TI} (h : ti P t = some i) (w : World) : ∃ z, (zeroValue t).run P w = .ok z w ∧ z.cells.toList = i.zero := by
  obtain ⟨j, d, z, h1, h2, h3, h4, h5, h6, h7⟩ := ti_spec h
  exact ⟨z, by simp [zeroValue, typeInfo, h1, h3], h7⟩

/-- A constant's cell. -/
def constC : Value → Option CV
  | .int k n => if k.wrap n = n then some (.l (.int k n)) else none
  | .bool b => some (.l (.bool b))
  | .string s => if s.size ≤ 9223372036854775807 then some (.l (.str s)) else none
  | .slice none 0 0 => some .nil
  | _ => none
def constL : List Value → Option (List CV)
  | [] => some []
  | v :: vs => match constC v, constL vs with
    | some c, some cs => some (c :: cs)
    | _, _ => none
def constV : Value → Option V
  | .agg cs => (constL cs.toList).map V.agg
  | v => (constC v).map V.one

def opd (σ : St) : Operand → Option V
  | .tmp t => σ.tm.lookup t
  | .const v => constV v
  | _ => none

section
variable {e : Env} {σ : St} {w : World} {N : Nat → Prop} {w0 : Bs} {a : Act} {P : Program}

theorem constC_rel {v : Value} {c : CV} (h : constC v = some c) : c.rel e σ w v := by
  unfold constC at h
  split at h
  · split at h
    · obtain rfl := Option.some.inj h; rename_i hk; exact ⟨[], by simp [Rp, InK, Fit, hk], by simp⟩
    · cases h
  · obtain rfl := Option.some.inj h; exact ⟨[], by simp [Rp], by simp⟩
  · split at h
    · obtain rfl := Option.some.inj h; rename_i hk; exact ⟨[], by simp [Rp, InK, Fit, hk], by simp⟩
    · cases h
  · obtain rfl := Option.some.inj h; rfl
  · cases h
theorem constL_rel : ∀ {vs : List Value} {cs : List CV}, constL vs = some cs → relL e σ w cs vs
  | [], _, h => by simp [constL] at h; subst h; simp [relL]
  | v :: vs, _, h => by
    simp only [constL] at h
    split at h
    · rename_i c cs h1 h2
      obtain rfl := Option.some.inj h
      simp only [relL]
      exact ⟨v, vs, rfl, constC_rel h1, constL_rel h2⟩
    · cases h
theorem constV_rel {v : Value} {x : V} (h : constV v = some x) : x.rel e σ w v := by
  unfold constV at h
  split at h
  · obtain ⟨cs, h1, rfl⟩ := Option.map_eq_some_iff.1 h
    exact ⟨_, by simp, constL_rel h1⟩
  · obtain ⟨c, h1, rfl⟩ := Option.map_eq_some_iff.1 h
    exact constC_rel h1
theorem opd_rel (h : SimE N w0 e σ a w) {o : Operand} {x : V} (hx : opd σ o = some x) : x.rel e σ w (a.eval o) := by
  cases o with
  | tmp t => exact h.tm t x hx
  | const v => exact constV_rel hx
  | global g => simp [opd] at hx
  | func f => simp [opd] at hx

theorem run_loadCells_at {b off : Nat} {vs : List Value} (h : At w b off vs) : (loadCells ⟨b, off, none⟩ vs.length).run P w = .ok vs.toArray w :=
  run_loadCells_list (P := P) w ⟨b, off, none⟩ vs (fun j v hv => by rw [Addr.add_lit]; exact h j v hv)

/-- A load of cells that are known. -/
theorem run_loadVar_at {b off : Nat} {vs : List Value} (h : At w b off vs) {t : Nat} {i : TI} (hi : ti P t = some i) (hl : vs.length = i.size) {g : Bool} (hg : i.td.agg = some g) (h1 : g = false → ∃ v, vs = [v]) :
    ∃ u, (loadVar t ⟨b, off, none⟩).run P w = .ok u w ∧ (g = true → u = .agg vs.toArray) ∧ (g = false → vs = [u]) := by
  cases g with
  | true =>
    refine ⟨.agg vs.toArray, ?_, fun _ => rfl, by simp⟩
    have := run_loadCells_at (P := P) h
    simp [loadVar, Sem.run_bind, isAgg_of hi hg, sizeOf_of hi, ← hl, this]
  | false =>
    obtain ⟨v, rfl⟩ := h1 rfl
    have := h 0 v rfl
    exact ⟨v, by simp [loadVar, Sem.run_bind, isAgg_of hi hg] at this ⊢; simp [this], by simp, by simp⟩

/-- Cells taken as a value of a type. -/
def pick1 (i : TI) (cs : List CV) (off : Nat) : Option V :=
  match i.td.agg with
  | some true => if off + i.size ≤ cs.length then some (.agg ((cs.drop off).take i.size)) else none
  | some false => if i.size = 1 then (cs[off]?).map V.one else none
  | none => none

theorem pick1_rel {i : TI} {cs : List CV} {off : Nat} {x : V} (h : pick1 i cs off = some x) {vs : List Value} (hr : relL e σ w cs vs) :
    ∃ g us, i.td.agg = some g ∧ us = (vs.drop off).take i.size ∧ us.length = i.size ∧ (g = true → x.rel e σ w (.agg us.toArray)) ∧ (g = false → ∃ u, us = [u] ∧ x.rel e σ w u) := by
  unfold pick1 at h
  split at h
  · rename_i hg
    split at h
    · rename_i hle
      obtain rfl := Option.some.inj h
      have hl := hr.len
      refine ⟨true, _, hg, rfl, by rw [List.length_take, List.length_drop]; omega, fun _ => ⟨_, rfl, (hr.drop off).take i.size⟩, by simp⟩
    · cases h
  · rename_i hg
    split at h
    · rename_i h1
      obtain ⟨c, hc, rfl⟩ := Option.map_eq_some_iff.1 h
      obtain ⟨v, hv, hcr⟩ := hr.get hc
      have : (vs.drop off).take i.size = [v] := by
        rw [h1]
        obtain ⟨hlt, rfl⟩ := List.getElem?_eq_some_iff.1 hv
        rw [List.drop_eq_getElem_cons hlt]; rfl
      exact ⟨false, _, hg, rfl, by rw [this, h1]; rfl, by simp, fun _ => ⟨v, this, hcr⟩⟩
    · cases h
  · cases h

theorem At.sub {b off : Nat} {vs : List Value} (h : At w b off vs) (k n : Nat) : At w b (off + k) ((vs.drop k).take n) := by
  have := h.drop k
  rw [← List.take_append_drop n (vs.drop k)] at this
  exact this.left

theorem loadVar_pick {b off : Nat} {vs : List Value} (h : At w b 0 vs) {t : Nat} {i : TI} (hi : ti P t = some i) {cs : List CV} (hr : relL e σ w cs vs) {x : V} (hx : pick1 i cs off = some x) :
    ∃ u, (loadVar t ⟨b, off, none⟩).run P w = .ok u w ∧ x.rel e σ w u := by
  obtain ⟨g, us, hg, rfl, hl, h1, h2⟩ := pick1_rel hx hr
  have ha := h.sub off i.size
  rw [Nat.zero_add] at ha
  obtain ⟨u, k1, k2, k3⟩ := run_loadVar_at (P := P) ha hi hl hg (fun hf => by obtain ⟨u, hu, _⟩ := h2 hf; exact ⟨u, hu⟩)
  refine ⟨u, k1, ?_⟩
  cases g with
  | true => rw [k2 rfl]; exact h1 rfl
  | false =>
    obtain ⟨u', hu, hur⟩ := h2 rfl
    have := k3 rfl
    rw [hu] at this
    injection this with this _
    subst this
    exact hur

theorem at_cur {b : Nat} {cur : Array Value} {t : Nat} {fr : Nat × Nat} (h : w.heap[b]? = some (.cells cur t fr)) : At w b 0 cur.toList := by
  have := at_row h cur.toList.length
  rwa [List.take_length] at this

theorem load_box (h : SimE N w0 e σ a w) {k off : Nat} {cs : List CV} (hk : σ.bx.lookup k = some cs) {t : Nat} {i : TI} (hi : ti P t = some i) {x : V} (hx : pick1 i cs off = some x) :
    ∃ u, (loadVar t ⟨e.β k, off, none⟩).run P w = .ok u w ∧ x.rel e σ w u := by
  obtain ⟨_, cur, ty, h1, h2⟩ := h.bx k cs hk
  exact loadVar_pick (at_cur h1) hi h2 hx

theorem load_adr {b off : Nat} {vs : List Value} (ha : At w b off vs) {ls : List L} {F : List Nat} (hr : RpL w ls vs F) (hF : ∀ x ∈ F, ¬ Mut e σ x) {t : Nat} {i : TI} (hi : ti P t = some i) {x : V} (hx : pick1 i (ls.map CV.l) 0 = some x) :
    ∃ u, (loadVar t ⟨b, off, none⟩).run P w = .ok u w ∧ x.rel e σ w u := by
  obtain ⟨g, us, hg, rfl, hl, h1, h2⟩ := pick1_rel hx (relL_of_RpL hr hF)
  have ha := ha.sub 0 i.size
  rw [Nat.add_zero] at ha
  obtain ⟨u, k1, k2, k3⟩ := run_loadVar_at (P := P) ha hi hl hg (fun hf => by obtain ⟨u, hu, _⟩ := h2 hf; exact ⟨u, hu⟩)
  refine ⟨u, k1, ?_⟩
  cases g with
  | true => rw [k2 rfl]; exact h1 rfl
  | false =>
    obtain ⟨u', hu, hur⟩ := h2 rfl
    have := k3 rfl
    rw [hu] at this
    injection this with this _
    subst this
    exact hur
end

end Go.Proofs.Ytopjlbifglacpaa.Am
