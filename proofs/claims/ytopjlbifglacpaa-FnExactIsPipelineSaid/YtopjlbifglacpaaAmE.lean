/- The operations that only reckon and read do in every world of the state what the plain walk says. -/
import Derived.Test.YtopjlbifglacpaaAmD
set_option linter.unusedSimpArgs false
set_option linter.unusedVariables false
namespace Go.Proofs.Ytopjlbifglacpaa.Am
open Go.RowKit

section
variable {e : Env} {σ : St} {w : World} {N : Nat → Prop} {w0 : Bs} {a : Act} {P : Program}

theorem num_eval (h : SimE N w0 e σ a w) {o : Operand} {k : IntKind} {n : Int} (hn : num σ o = some (k, n)) : a.eval o = .int k n ∧ InK k n := by
  unfold num at hn
  split at hn
  · rename_i k' n' hx
    obtain ⟨rfl, rfl⟩ := Prod.mk.inj (Option.some.inj hn)
    obtain ⟨F, h1, _⟩ := opd_rel h hx
    simp only [Rp] at h1
    exact ⟨h1.1, h1.2.2⟩
  · cases hn
theorem int_of (h : SimE N w0 e σ a w) {o : Operand} {k : IntKind} {n : Int} (hx : opd σ o = some (.one (.l (.int k n)))) : a.eval o = .int k n ∧ InK k n := by
  obtain ⟨F, h1, _⟩ := opd_rel h hx
  simp only [Rp] at h1
  exact ⟨h1.1, h1.2.2⟩
theorem bool_of (h : SimE N w0 e σ a w) {o : Operand} {b : Bool} (hx : opd σ o = some (.one (.l (.bool b)))) : a.eval o = .bool b := by
  obtain ⟨F, h1, _⟩ := opd_rel h hx
  simp only [Rp] at h1
  exact h1.1
theorem str_of (h : SimE N w0 e σ a w) {o : Operand} {s : ByteArray} (hx : opd σ o = some (.one (.l (.str s)))) : a.eval o = .string s ∧ Fit s := by
  obtain ⟨F, h1, _⟩ := opd_rel h hx
  simp only [Rp] at h1
  exact ⟨h1.1, h1.2.2⟩
theorem rel_int {k : IntKind} {n : Int} (h : InK k n) : (V.one (.l (.int k n))).rel e σ w (.int k n) := ⟨[], by simp [Rp, h], by simp⟩
theorem rel_bool {b : Bool} : (V.one (.l (.bool b))).rel e σ w (.bool b) := ⟨[], by simp [Rp], by simp⟩
theorem rel_str {s : ByteArray} (h : Fit s) : (V.one (.l (.str s))).rel e σ w (.string s) := ⟨[], by simp [Rp, h], by simp⟩

theorem load_sound (h : SimE N w0 e σ a w) {t : Nat} {p : Operand} {x : V} {s : Prop} (hv : valOp P σ (.load t p) = some (x, s)) (hs : s) :
    ∃ u, (Instr.loadAt t (a.eval p)).run P w = .ok u w ∧ x.rel e σ w u := by
  simp only [valOp] at hv
  split at hv
  · rename_i i hi
    split at hv
    · rename_i k off hp
      have hr := opd_rel h hp
      obtain ⟨⟨cs', hcs⟩, he⟩ := hr
      split at hv
      · rename_i cs hk
        obtain ⟨y, hy, heq⟩ := Option.map_eq_some_iff.1 hv
        obtain ⟨rfl, rfl⟩ := Prod.mk.inj heq
        obtain ⟨u, h1, h2⟩ := load_box (P := P) h hk hi hy
        exact ⟨u, by simp [Instr.loadAt, Instr.sureAddr, he, h1], h2⟩
      · cases hv
    · rename_i ls hp
      obtain ⟨b, off, vs, F, he, h1, h2, h3, h4, h5⟩ := opd_rel h hp
      obtain ⟨y, hy, heq⟩ := Option.map_eq_some_iff.1 hv
      obtain ⟨rfl, rfl⟩ := Prod.mk.inj heq
      obtain ⟨u, k1, k2⟩ := load_adr (P := P) h1 h2 h5 hi hy
      exact ⟨u, by simp [Instr.loadAt, Instr.sureAddr, he, k1], k2⟩
    · rename_i τ n j W off hp
      obtain ⟨A', hA', h1, _⟩ := opd_rel h hp
      split at hv
      · rename_i A hA
        split at hv
        · rename_i el hel
          split at hv
          · rename_i hW
            obtain ⟨hW, hdp⟩ := hW
            obtain ⟨y, hy, heq⟩ := Option.map_eq_some_iff.1 hv
            obtain ⟨rfl, rfl⟩ := Prod.mk.inj heq
            rw [hA] at hA'
            obtain rfl := Option.some.inj hA'
            obtain ⟨_, hb⟩ := h1 A rfl
            obtain ⟨b, hb1, hb2⟩ := hb hs
            obtain ⟨p', c, hρ, _, _, hc | ⟨b', vs, Fs, W', q1, q2, q3, q4, q5, q6⟩⟩ := h.elems hA hdp
            · rw [hc] at hel; simp at hel
            · subst q1
              rw [hρ] at hb1
              simp [Value.ownBlock] at hb1
              subst hb1
              have hW' : W' = W := by rw [← hW]; exact (q3 el (List.mem_of_getElem? hel)).symm
              subst hW'
              obtain ⟨ys, Fi, r1, r2, r3⟩ := q4.get q2 q3 hel
              rw [Nat.zero_add] at r2
              obtain ⟨g, us, hg, rfl, hl, k1, k2⟩ := pick1_rel hy (relL_of_RpL (e := e) (σ := σ) r1 fun x hx => q6 x (r3 x hx))
              obtain ⟨u, m1, m2, m3⟩ := run_loadVar_at (P := P) (r2.sub off i.size) hi hl hg (fun hf => by obtain ⟨u, hu, _⟩ := k2 hf; exact ⟨u, hu⟩)
              refine ⟨u, by simp [Instr.loadAt, Instr.sureAddr, hb2, m1], ?_⟩
              cases g with
              | true => rw [m2 rfl]; exact k1 rfl
              | false =>
                obtain ⟨u', hu, hur⟩ := k2 rfl
                have := m3 rfl
                rw [hu] at this
                injection this with this _
                subst this
                exact hur
          · cases hv
        · cases hv
      · cases hv
    · cases hv
  · cases hv

theorem ti_struct {t : Nat} {fs : List (Nat × Nat)} {s b : Nat} {z : List Value} (h : ti P t = some ⟨.struct fs, s, b, z⟩) : ∃ flds : Array Field, P.underlying t = some (.struct flds) ∧ fs = flds.toList.map (fun f => (f.offset, f.type)) := by
  obtain ⟨j, d, z', h1, h2, h3, h4, h5, h6, h7⟩ := ti_spec h
  cases d <;> simp [tdOf] at h4
  exact ⟨_, h2, h4.symm⟩
theorem ti_slice {t et s b : Nat} {z : List Value} (h : ti P t = some ⟨.slice et, s, b, z⟩) : P.underlying t = some (.slice et) := by
  obtain ⟨j, d, z', h1, h2, h3, h4, h5, h6, h7⟩ := ti_spec h
  cases d <;> simp [tdOf] at h4
  subst h4
  exact h2
theorem ti_int {t s b : Nat} {k : IntKind} {z : List Value} (h : ti P t = some ⟨.int k, s, b, z⟩) : P.underlying t = some (.int k) := by
  obtain ⟨j, d, z', h1, h2, h3, h4, h5, h6, h7⟩ := ti_spec h
  cases d <;> simp [tdOf] at h4
  subst h4
  exact h2
theorem ti_str {t s b : Nat} {z : List Value} (h : ti P t = some ⟨.str, s, b, z⟩) : P.underlying t = some .string := by
  obtain ⟨j, d, z', h1, h2, h3, h4, h5, h6, h7⟩ := ti_spec h
  cases d <;> simp [tdOf] at h4
  exact h2
theorem ti_bool {t s b : Nat} {z : List Value} (h : ti P t = some ⟨.bool, s, b, z⟩) : P.underlying t = some .bool := by
  obtain ⟨j, d, z', h1, h2, h3, h4, h5, h6, h7⟩ := ti_spec h
  cases d <;> simp [tdOf] at h4
  exact h2

theorem field_of {flds : Array Field} {f off ft : Nat} (h : (flds.toList.map fun f => (f.offset, f.type))[f]? = some (off, ft)) : ∃ fd, flds[f]? = some fd ∧ fd.offset = off ∧ fd.type = ft := by
  rw [List.getElem?_map] at h
  obtain ⟨fd, h1, h2⟩ := Option.map_eq_some_iff.1 h
  obtain ⟨h3, h4⟩ := Prod.mk.inj h2
  exact ⟨fd, by simpa using h1, h3, h4⟩

theorem fieldAddr_sound (h : SimE N w0 e σ a w) {t f : Nat} {p : Operand} {x : V} {s : Prop} (hv : valOp P σ (.fieldAddr t p f) = some (x, s)) (hs : s) :
    ∃ u, (Instr.fieldAt t (a.eval p) f).run P w = .ok u w ∧ x.rel e σ w u := by
  simp only [valOp] at hv
  split at hv
  · rename_i fs _ _ _ hi
    obtain ⟨flds, hu, rfl⟩ := ti_struct hi
    split at hv
    · rename_i off ft hf
      obtain ⟨fd, hfd, rfl, rfl⟩ := field_of hf
      split at hv
      · rename_i fi hfi
        split at hv
        · cases hv
        · rename_i hz
          have key : ∀ ad : Addr, a.eval p = .pointer (some ad) → (Instr.fieldAt t (a.eval p) f).run P w = .ok (.pointer (some (ad.add fd.offset))) w := by
            intro ad had
            simp [Instr.fieldAt, run_underlying hu, hfd, had, Instr.sureAddr, fieldPlace, sizeOf_of hfi, hz]
          split at hv
          · rename_i k o hp
            obtain ⟨rfl, rfl⟩ := Prod.mk.inj (Option.some.inj hv)
            obtain ⟨hcs, he⟩ := opd_rel h hp
            refine ⟨_, key _ he, hcs, ?_⟩
            rw [Addr.add_lit]
          · rename_i ls hp
            obtain ⟨rfl, rfl⟩ := Prod.mk.inj (Option.some.inj hv)
            obtain ⟨b, off, vs, F, he, h1, h2, h3, h4, h5⟩ := opd_rel h hp
            refine ⟨_, key _ he, b, off + fd.offset, vs.drop fd.offset, ?_⟩
            rw [Addr.add_lit]
            by_cases hle : fd.offset ≤ ls.length
            · rw [← List.take_append_drop fd.offset ls] at h2
              obtain ⟨v1, v2, F1, F2, rfl, rfl, g1, g2⟩ := h2.split
              have hl : v1.length = fd.offset := by rw [g1.len, List.length_take]; omega
              rw [← hl, List.drop_left, hl]
              exact ⟨F2, rfl, by have := h1.right; rwa [hl] at this, g2, h3, h4, fun x hx => h5 x (by simp [hx])⟩
            · have hl := h2.len
              rw [List.drop_eq_nil_of_le (by omega), List.drop_eq_nil_of_le (by omega)]
              exact ⟨[], rfl, fun j u hu => by simp at hu, by simp [RpL], h3, h4, by simp⟩
          · rename_i τ n j W o hp
            obtain ⟨A', hA', h1, h2⟩ := opd_rel h hp
            split at hv
            · rename_i A hA
              obtain ⟨rfl, rfl⟩ := Prod.mk.inj (Option.some.inj hv)
              rw [hA] at hA'
              obtain rfl := Option.some.inj hA'
              obtain ⟨hle, hb⟩ := h1 A rfl
              obtain ⟨b, hb1, hb2⟩ := hb hs
              refine ⟨_, key _ hb2, some A, hA, fun B hB => ?_, _, rfl⟩
              obtain rfl := Option.some.inj hB
              refine ⟨hle, fun _ => ⟨b, hb1, ?_⟩⟩
              rw [Addr.add_lit, Nat.add_assoc]
            · cases hv
          · cases hv
      · cases hv
    · cases hv
  · cases hv

theorem field_sound (h : SimE N w0 e σ a w) {t f : Nat} {p : Operand} {x : V} {s : Prop} (hv : valOp P σ (.field t p f) = some (x, s)) :
    ∃ u, (Instr.field t (a.eval p) f).run P w = .ok u w ∧ x.rel e σ w u := by
  simp only [valOp] at hv
  split at hv
  · rename_i fs _ _ _ hi
    obtain ⟨flds, hu, rfl⟩ := ti_struct hi
    split at hv
    · rename_i off ft hf
      obtain ⟨fd, hfd, rfl, rfl⟩ := field_of hf
      split at hv
      · rename_i fi cs hfi hp
        obtain ⟨y, hy, heq⟩ := Option.map_eq_some_iff.1 hv
        obtain ⟨rfl, rfl⟩ := Prod.mk.inj heq
        obtain ⟨vs, he, hr⟩ := opd_rel h hp
        obtain ⟨g, us, hg, hus, hl, h1, h2⟩ := pick1_rel hy hr
        cases g with
        | true =>
          refine ⟨.agg us.toArray, ?_, h1 rfl⟩
          simp [Instr.field, run_underlying hu, hfd, he, asAgg, part, isAgg_of hfi hg, sizeOf_of hfi, hus, List.extract_eq_take_drop]
        | false =>
          obtain ⟨u, hu1, hu2⟩ := h2 rfl
          refine ⟨u, ?_, hu2⟩
          have hg1 : vs[fd.offset]? = some u := by
            have h3 : (List.take fi.size (List.drop fd.offset vs))[0]? = some u := by rw [← hus, hu1]; rfl
            rw [List.getElem?_take] at h3
            split at h3
            · rw [List.getElem?_drop] at h3; simpa using h3
            · cases h3
          simp [Instr.field, run_underlying hu, hfd, he, asAgg, part, isAgg_of hfi hg, hg1]
      · cases hv
    · cases hv
  · cases hv

theorem indexAddr_sound (h : SimE N w0 e σ a w) {t : Nat} {p i : Operand} {x : V} {s : Prop} (hv : valOp P σ (.indexAddr t p i) = some (x, s)) (hs : s) :
    ∃ u, (Instr.indexAt t (a.eval p) (a.eval i)).run P w = .ok u w ∧ x.rel e σ w u := by
  simp only [valOp] at hv
  split at hv
  · rename_i et _ _ _ k n hi hn
    have hu := ti_slice hi
    obtain ⟨hne, _⟩ := num_eval h hn
    split at hv
    · rename_i ei es hei hp
      split at hv
      · rename_i el hel
        obtain ⟨rfl, rfl⟩ := Prod.mk.inj (Option.some.inj hv)
        obtain ⟨F, h1, h2⟩ := opd_rel h hp
        simp only [Rp] at h1
        obtain ⟨A, c, h3, h4, h5, h6⟩ := h1
        rcases h6 with ⟨rfl, _⟩ | ⟨b, off, xs, Fs, rfl, q2, rfl, q4, q5⟩
        · simp at hel
        · obtain ⟨ys, Fi, r1, r2, r3⟩ := q5.get q4 hs.2 hel
          have hlt : n.toNat < es.length := (List.getElem?_eq_some_iff.1 hel).1
          refine ⟨.pointer (some ⟨b, off + n.toNat * ei.size, none⟩), ?_, b, _, ys, Fi, rfl, r2, r1, q2, h2 b (by simp), fun x hx => h2 x (by simp [r3 x hx])⟩
          have hc : 0 ≤ n ∧ n < (es.length : Int) := ⟨hs.1, by omega⟩
          simp [Instr.indexAt, hne, asIntOf, run_underlying hu, h3, hc, sizeOf_of hei, Addr.add_lit]
      · cases hv
    · rename_i ei τ m hei hp
      split at hv
      · rename_i A hA
        obtain ⟨rfl, rfl⟩ := Prod.mk.inj (Option.some.inj hv)
        obtain ⟨hs0, hs1, hs2⟩ := hs
        obtain ⟨A', hA', h1, p', c', h3⟩ := opd_rel h hp
        rw [hA] at hA'
        obtain rfl := Option.some.inj hA'
        obtain ⟨hle, hb⟩ := h1 A rfl
        have hv' := hb hs2
        obtain ⟨p'', c, hρ, _, _, hc | ⟨b', vs, Fs, W', q1, q2, q3, q4, q5⟩⟩ := h.elemsAny hA
        · rw [hc] at hs2; simp at hs2; omega
        · subst q1
          refine ⟨.pointer (some ⟨b', n.toNat * ei.size + 0, none⟩), ?_, some A, hA, fun B hB => ?_, _, rfl⟩
          · have hc : 0 ≤ n ∧ n < (m : Int) := ⟨hs0, by omega⟩
            rw [hv', hρ, hs2]
            simp [Instr.indexAt, hne, asIntOf, run_underlying hu, hc, sizeOf_of hei, Addr.add_lit]
          · obtain rfl := Option.some.inj hB
            exact ⟨hle, fun _ => ⟨b', by rw [hρ]; rfl, rfl⟩⟩
      · cases hv
    · cases hv
  · cases hv

theorem index_sound (h : SimE N w0 e σ a w) {t : Nat} {p i : Operand} {x : V} {s : Prop} (hv : valOp P σ (.index t p i) = some (x, s)) (hs : s) :
    ∃ u, (Instr.index t (a.eval p) (a.eval i)).run P w = .ok u w ∧ x.rel e σ w u := by
  simp only [valOp] at hv
  split at hv
  · rename_i _ _ _ k n st hi hn hp
    have hu := ti_str hi
    obtain ⟨hne, _⟩ := num_eval h hn
    split at hv
    · rename_i c hc
      obtain ⟨rfl, rfl⟩ := Prod.mk.inj (Option.some.inj hv)
      obtain ⟨hse, _⟩ := str_of h hp
      have hcl := (List.getElem?_eq_some_iff.1 hc).1
      refine ⟨.int .u8 c.toNat, ?_, rel_int ((inK_u8 _).2 ⟨by omega, by have := c.toNat_lt; omega⟩)⟩
      have hg : st[n.toNat]? = some c := by
        have hlt : n.toNat < st.size := by rw [Array.length_toList] at hcl; exact hcl
        rw [getElem?_pos st n.toNat hlt]
        congr 1
        have h9 := (List.getElem?_eq_some_iff.1 hc).2
        rw [Array.getElem_toList] at h9
        exact h9
      simp [Instr.index, hne, hse, asIntOf, run_underlying hu, hs, hg]
    · cases hv
  · cases hv

theorem ptsRel_get : ∀ {ps : List (Bool × List CV)} {vs : List Value} {i : Nat} {p : Bool × List CV}, ptsRel e σ w ps vs → ps[i]? = some p → ∃ v, vs[i]? = some v ∧ ptRel e σ w p v
  | c :: cs, _, 0, _, h, hi => by
    simp only [ptsRel] at h
    obtain ⟨v, vs', rfl, h1, h2⟩ := h
    simp at hi
    subst hi
    exact ⟨v, rfl, h1⟩
  | c :: cs, _, i + 1, _, h, hi => by
    simp only [ptsRel] at h
    obtain ⟨v, vs', rfl, h1, h2⟩ := h
    simp at hi
    simpa using ptsRel_get h2 hi

theorem extract_sound (h : SimE N w0 e σ a w) {i : Nat} {p : Operand} {x : V} {s : Prop} (hv : valOp P σ (.extract p i) = some (x, s)) :
    ∃ u, (Instr.extract (a.eval p) i).run P w = .ok u w ∧ x.rel e σ w u := by
  simp only [valOp] at hv
  split at hv
  · rename_i ps hp
    obtain ⟨vs, he, hr⟩ := opd_rel h hp
    split at hv
    · rename_i cs hi
      obtain ⟨rfl, rfl⟩ := Prod.mk.inj (Option.some.inj hv)
      obtain ⟨v, hv1, hv2⟩ := ptsRel_get hr hi
      exact ⟨v, by simp [Instr.extract, he, hv1], hv2⟩
    · rename_i c hi
      obtain ⟨rfl, rfl⟩ := Prod.mk.inj (Option.some.inj hv)
      obtain ⟨v, hv1, c', hc', hv2⟩ := ptsRel_get hr hi
      injection hc' with hc' _
      subst hc'
      exact ⟨v, by simp [Instr.extract, he, hv1], hv2⟩
    · cases hv
  · cases hv

end

end Go.Proofs.Ytopjlbifglacpaa.Am
