/- Every operation that only reckons and reads, in one law. -/
import Derived.Test.YtopjlbifglacpaaAmF
set_option linter.unusedSimpArgs false
set_option linter.unusedVariables false
namespace Go.Proofs.Ytopjlbifglacpaa.Am
open Go.RowKit

section
variable {e : Env} {σ : St} {w : World} {N : Nat → Prop} {w0 : Bs} {a : Act} {P : Program}

theorem binOp_sound (h : SimE N w0 e σ a w) {op : BinOp} {t t' : Nat} {p q : Operand} {x : V} {s : Prop} (hv : valOp P σ (.binOp op t p q t') = some (x, s)) (hs : s) :
    ∃ u, (do eqGuard op t p q (a.eval p) (a.eval q); binOp op t (a.eval p) (a.eval q) : Sem Value).run P w = .ok u w ∧ x.rel e σ w u := by
  simp only [valOp] at hv
  split at hv
  · rename_i k n j m hp hq
    split at hv
    · rename_i hk
      subst hk
      obtain ⟨⟨r, s'⟩, hr, heq⟩ := Option.map_eq_some_iff.1 hv
      obtain ⟨rfl, rfl⟩ := Prod.mk.inj heq
      obtain ⟨h1, h2⟩ := int_of h hp
      obtain ⟨h3, h4⟩ := int_of h hq
      obtain ⟨g1, g2⟩ := bI_run (P := P) (e := e) (σ := σ) (w := w) hr hs h2 h4 t p q
      exact ⟨_, by rw [h1, h3]; exact g1, g2⟩
    · cases hv
  · rename_i n m hp hq
    obtain ⟨⟨r, s'⟩, hr, heq⟩ := Option.map_eq_some_iff.1 hv
    obtain ⟨rfl, rfl⟩ := Prod.mk.inj heq
    obtain ⟨h1, h2⟩ := str_of h hp
    obtain ⟨h3, h4⟩ := str_of h hq
    obtain ⟨g1, g2⟩ := bS_run (P := P) (e := e) (σ := σ) (w := w) hr hs t p q
    exact ⟨_, by rw [h1, h3]; exact g1, g2⟩
  · rename_i n m hp hq
    have h1 := bool_of h hp
    have h3 := bool_of h hq
    split at hv
    · rename_i hi
      obtain ⟨rfl, rfl⟩ := Prod.mk.inj (Option.some.inj hv)
      exact ⟨.bool (n == m), by rw [h1, h3]; simp [eqGuard, binOp, Op.equal, Op.maxDepth, run_equalIn_bool' w 9999 t n m (ti_bool hi)], rel_bool⟩
    · rename_i hi
      obtain ⟨rfl, rfl⟩ := Prod.mk.inj (Option.some.inj hv)
      exact ⟨.bool (!(n == m)), by rw [h1, h3]; simp [eqGuard, binOp, Op.equal, Op.maxDepth, run_equalIn_bool' w 9999 t n m (ti_bool hi)], rel_bool⟩
    · cases hv
  · rename_i cs ds hp hq
    obtain ⟨us, h1, h2⟩ := opd_rel h hp
    obtain ⟨vs, h3, h4⟩ := opd_rel h hq
    split at hv
    · rename_i tds ht
      split at hv
      · rename_i r hr
        obtain ⟨rfl, rfl⟩ := Prod.mk.inj (Option.some.inj hv)
        exact ⟨.bool r, by rw [h1, h3]; exact (eql_struct (P := P) ht hr h2 h4 p q).1, rel_bool⟩
      · rename_i r hr
        obtain ⟨rfl, rfl⟩ := Prod.mk.inj (Option.some.inj hv)
        exact ⟨.bool (!r), by rw [h1, h3]; exact (eql_struct (P := P) ht hr h2 h4 p q).2, rel_bool⟩
      · cases hv
    · cases hv
  · cases hv

theorem unOp_sound (h : SimE N w0 e σ a w) {op : UnOp} {t : Nat} {p : Operand} {x : V} {s : Prop} (hv : valOp P σ (.unOp op t p) = some (x, s)) :
    ∃ u, (Op.unary op (a.eval p)).run P w = .ok u w ∧ x.rel e σ w u := by
  simp only [valOp] at hv
  split at hv
  · rename_i b hp
    obtain ⟨rfl, rfl⟩ := Prod.mk.inj (Option.some.inj hv)
    exact ⟨_, by rw [bool_of h hp]; simp [Op.unary], rel_bool⟩
  · rename_i k n hp
    obtain ⟨rfl, rfl⟩ := Prod.mk.inj (Option.some.inj hv)
    obtain ⟨h1, h2⟩ := int_of h hp
    exact ⟨.int k (k.wrap (0 - n)), by rw [h1]; simp [Op.unary, Op.intArith], rel_int (InK.wrap _ _)⟩
  · cases hv

theorem convert_sound (h : SimE N w0 e σ a w) {t t' : Nat} {p : Operand} {x : V} {s : Prop} (hv : valOp P σ (.convert t t' p) = some (x, s)) :
    ∃ u, (convert t t' (a.eval p)).run P w = .ok u w ∧ x.rel e σ w u := by
  simp only [valOp] at hv
  split at hv
  · rename_i k _ _ _ k' n hi1 hi2 hp
    obtain ⟨rfl, rfl⟩ := Prod.mk.inj (Option.some.inj hv)
    obtain ⟨h1, h2⟩ := int_of h hp
    obtain ⟨j, d, z, g1, g2, _⟩ := ti_spec hi1
    refine ⟨.int k (k.wrap n), ?_, rel_int (InK.wrap _ _)⟩
    rw [h1]
    simp [convert, run_underlying g2, run_underlying (ti_int hi2), Conv.intToInt]
  · rename_i i _ _ _ st hi1 hi2 hp
    obtain ⟨rfl, rfl⟩ := Prod.mk.inj (Option.some.inj hv)
    obtain ⟨h1, h2⟩ := str_of h hp
    obtain ⟨j, d, z, g1, g2, _⟩ := ti_spec hi1
    refine ⟨.string st, ?_, rel_str h2⟩
    rw [h1]
    simp only [convert, Sem.run_bind, run_underlying g2, run_underlying (ti_str hi2), Result.andThen_ok]
    cases d <;> simp
  · cases hv

theorem foldl_set (off : Nat) : ∀ (us : List Value) (k : Nat) (cells : Array Value), off + k + us.length ≤ cells.size →
    ((us.zipIdx k).foldl (fun cs (x : Value × Nat) => cs.setIfInBounds (off + x.2) x.1) cells).toList = cells.toList.take (off + k) ++ us ++ cells.toList.drop (off + k + us.length)
  | [], k, cells, _ => by simp
  | u :: us, k, cells, h => by
    simp only [List.zipIdx_cons, List.foldl_cons]
    rw [foldl_set off us (k + 1) _ (by simp at h ⊢; omega)]
    simp only [List.length_cons] at h
    simp only [Array.toList_setIfInBounds]
    have hlt : off + k < cells.toList.length := by simp; omega
    rw [show off + (k + 1) = off + k + 1 by omega, List.take_set, List.take_succ_eq_append_getElem hlt, List.set_append_right _ _ (by rw [List.length_take]; omega)]
    simp only [List.length_take]
    rw [Nat.min_eq_left (by omega), Nat.sub_self]
    simp only [List.set_cons_zero, List.length_cons]
    rw [List.drop_set]
    rw [if_pos (by omega)]
    simp [Nat.add_comm, Nat.add_left_comm]

theorem fillC_sound (h : SimE N w0 e σ a w) {flds : List Field} {places : Nat → Option (Nat × Nat)}
    (hpl : ∀ (i : Nat) (fd : Field) fi, flds[i]? = some fd → ti P fd.type = some fi → places i = some (fd.offset, fi.size)) :
    ∀ {vs : List (Nat × V)} {us : List (Nat × Value)} {cells cs' : List CV} {cur : Array Value}, fillC P (flds.map fun f => (f.offset, f.type)) cells vs = some cs' → relL e σ w cells cur.toList →
      us.map (·.1) = vs.map (·.1) → (∀ (j : Nat) p q, vs[j]? = some p → us[j]? = some q → p.2.rel e σ w q.2) →
      ∃ cur', Instr.fill places cur us = some cur' ∧ relL e σ w cs' cur'.toList
  | [], us, cells, cs', cur, hf, hr, hm, _ => by
    simp only [fillC, Option.some.injEq] at hf
    subst hf
    have : us = [] := by simpa using hm
    subst this
    exact ⟨cur, rfl, hr⟩
  | (i, x) :: vs, [], cells, cs', cur, hf, hr, hm, _ => by simp at hm
  | (i, x) :: vs, (i', u) :: us, cells, cs', cur, hf, hr, hm, hrel => by
    simp only [List.map_cons, List.cons.injEq] at hm
    obtain ⟨hi', hm⟩ := hm
    try simp only at hi'
    subst hi'
    have hxu := hrel 0 (i', x) (i', u) rfl rfl
    try simp only at hxu
    have hrel' : ∀ (j : Nat) p q, vs[j]? = some p → us[j]? = some q → p.2.rel e σ w q.2 := fun j p q hp hq => hrel (j + 1) p q (by simpa using hp) (by simpa using hq)
    simp only [fillC] at hf
    split at hf
    · rename_i off t hft
      rw [List.getElem?_map] at hft
      obtain ⟨fd, hfd, heq⟩ := Option.map_eq_some_iff.1 hft
      obtain ⟨rfl, rfl⟩ := Prod.mk.inj heq
      split at hf
      · rename_i fi c hfi
        split at hf
        · rename_i hc
          obtain ⟨hsz, hlt⟩ := hc
          have hcu : u.cells = #[u] := CV.rel.cells (c := c) hxu |>.1
          have hlen := hr.len
          have hr2 : relL e σ w (cells.set fd.offset c) (cur.setIfInBounds fd.offset u).toList := by
            simp only [Array.toList_setIfInBounds]
            rw [List.set_eq_take_append_cons_drop, List.set_eq_take_append_cons_drop, if_pos hlt, if_pos (by rw [hlen]; exact hlt)]
            refine (hr.take _).append ?_
            simp only [relL]
            exact ⟨u, _, rfl, hxu, hr.drop _⟩
          obtain ⟨cur', k1, k2⟩ := fillC_sound h hpl hf hr2 hm hrel'
          refine ⟨cur', ?_, k2⟩
          unfold Instr.fill
          rw [hpl i' fd fi hfd hfi]
          have hcl : cur.size = cells.length := by rw [← hlen]; simp
          simp only [hcu, hsz]
          rw [if_neg (by simp [hcl]; omega)]
          simpa using k1
        · cases hf
      · rename_i fi cs hfi
        split at hf
        · rename_i hc
          obtain ⟨hsz, hle⟩ := hc
          obtain ⟨us', rfl, hus⟩ := hxu
          have hcu : (Value.agg us'.toArray).cells = us'.toArray := rfl
          have hlen := hr.len
          have hl2 := hus.len
          have hcl : cur.size = cells.length := by rw [← hlen]; simp
          have hfs := foldl_set fd.offset us' 0 cur (by omega)
          have hr2 : relL e σ w (cells.take fd.offset ++ cs ++ cells.drop (fd.offset + cs.length)) ((us'.zipIdx 0).foldl (fun cs (x : Value × Nat) => cs.setIfInBounds (fd.offset + x.2) x.1) cur).toList := by
            rw [hfs, Nat.add_zero, hl2]
            exact ((hr.take _).append hus).append (hr.drop _)
          obtain ⟨cur', k1, k2⟩ := fillC_sound h hpl hf hr2 hm hrel'
          refine ⟨cur', ?_, k2⟩
          unfold Instr.fill
          rw [hpl i' fd fi hfd hfi]
          simp only [hcu, hsz]
          rw [if_neg (by simp [hcl, hl2]; omega)]
          rw [← k1]
          congr 1
          simp [Array.zipIdx_toArray]
        · cases hf
      · cases hf
    · cases hf

theorem parts_sound (h : SimE N w0 e σ a w) : ∀ {ps : List (Nat × Operand)} {vs : List (Nat × V)}, parts σ ps = some vs → (ps.map fun x => (x.1, a.eval x.2)).map (·.1) = vs.map (·.1) ∧ ∀ (j : Nat) p q, vs[j]? = some p → (ps.map fun x => (x.1, a.eval x.2))[j]? = some q → p.2.rel e σ w q.2
  | [], _, hp => by simp [parts] at hp; subst hp; simp
  | (i, o) :: ps, _, hp => by
    simp only [parts] at hp
    split at hp
    · rename_i v vs hv hvs
      obtain rfl := Option.some.inj hp
      obtain ⟨h1, h2⟩ := parts_sound h hvs
      refine ⟨by simp at h1 ⊢; exact h1, fun j p q hj hq => ?_⟩
      cases j with
      | zero =>
        simp at hj hq
        subst hj hq
        exact opd_rel h hv
      | succ j => exact h2 j p q (by simpa using hj) (by simpa using hq)
    · cases hp

theorem mapM_places : ∀ (fs : List Field) , (∀ fd ∈ fs, ∃ fi, ti P fd.type = some fi) → ∃ pl : List (Nat × Nat), (fs.mapM (fun f => do pure (f.offset, ← sizeOf f.type) : Field → Sem (Nat × Nat))).run P w = .ok pl w ∧ ∀ (i : Nat) fd fi, fs[i]? = some fd → ti P fd.type = some fi → pl[i]? = some (fd.offset, fi.size)
  | [], _ => ⟨[], by simp, by simp⟩
  | f :: fs, h => by
    obtain ⟨fi, hfi⟩ := h f (by simp)
    obtain ⟨pl, h1, h2⟩ := mapM_places fs (fun fd hfd => h fd (by simp [hfd]))
    refine ⟨(f.offset, fi.size) :: pl, ?_, ?_⟩
    · rw [List.mapM_cons]
      simp only [Sem.run_bind, sizeOf_of hfi, Result.andThen_ok, Sem.run_pure] at h1 ⊢
      rw [h1]
      rfl
    · intro i fd fi' hi hfi'
      cases i with
      | zero =>
        simp at hi
        subst hi
        rw [hfi] at hfi'
        obtain rfl := Option.some.inj hfi'
        rfl
      | succ i => exact h2 i fd fi' (by simpa using hi) hfi'
end

end Go.Proofs.Ytopjlbifglacpaa.Am
