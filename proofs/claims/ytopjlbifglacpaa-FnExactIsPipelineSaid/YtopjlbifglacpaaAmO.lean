/- Every operation that makes or writes the call's own memory. -/
import Derived.Test.YtopjlbifglacpaaAmN
set_option linter.unusedSimpArgs false
set_option linter.unusedVariables false
namespace Go.Proofs.Ytopjlbifglacpaa.Am
open Go.RowKit

section
variable {e : Env} {σ : St} {w : World} {N : Nat → Prop} {w0 : Bs} {a : Act} {P : Program}

theorem mapA (f : Nat × Operand → Nat × Value) (ps : Array (Nat × Operand)) : (ps.map f).toList = ps.toList.map f := by simp

theorem zip_of_range {us : List (Nat × Value)} {n : Nat} (h : us.map (·.1) = List.range n) : us = (us.map (·.2)).zipIdx.map fun p => (p.2, p.1) := by
  apply List.ext_getElem?
  intro j
  rw [List.getElem?_map, List.getElem?_zipIdx, List.getElem?_map]
  cases hj : us[j]? with
  | none => simp
  | some p =>
    have h2 : (us.map (·.1))[j]? = some p.1 := by rw [List.getElem?_map, hj]; rfl
    rw [h, List.getElem?_range (by
      have := (List.getElem?_eq_some_iff.1 hj).1
      have hl := congrArg List.length h
      simp at hl; omega)] at h2
    have h3 := Option.some.inj h2
    simp [h3]

theorem buildSlice_sound (h : SimE N w0 e σ a w) {d : Nat} {t len : Nat} {ps : Array (Nat × Operand)} {f : Eff} (hv : memOp P σ (some d) (.buildSlice t len ps) = some f) (hs : f.side) :
    ∃ u w' e', (Instr.buildSlice t len (ps.map fun (i, x) => (i, a.eval x))).run P w = .ok u w' ∧ SimE N w0 e' (σ.app f) (a.put (some d) u) w' := by
  simp only [memOp] at hv
  split at hv
  · rename_i d' et _ _ _ vs hd' hi hps
    obtain rfl := Option.some.inj hd'
    have ht := ti_slice hi
    split at hv
    · rename_i ei css hei hce
      split at hv
      · rename_i es fr τs q hab
        split at hv
        · rename_i hc
          obtain ⟨hd, hr, hw, hnd, h24, hlen, hz, hn⟩ := hc
          obtain rfl := Option.some.inj hv
          obtain ⟨hs, hdp⟩ := hs
          obtain ⟨q1, q2⟩ := parts_sound h hps
          have hidx : (ps.toList.map fun x => (x.1, a.eval x.2)).map (·.1) = List.range len := q1.trans hr
          have hl : vs.length = len := by have := congrArg List.length hr; simpa using this
          have hul : (ps.toList.map fun x => (x.1, a.eval x.2)).length = len := by have := congrArg List.length hidx; simpa using this
          have hrel : ∀ (j : Nat) p u, vs[j]? = some p → ((ps.toList.map fun x => (x.1, a.eval x.2)).map (·.2))[j]? = some u → p.2.rel e σ w u := by
            intro j p u hp hu
            rw [List.getElem?_map] at hu
            obtain ⟨r, hr1, rfl⟩ := Option.map_eq_some_iff.1 hu
            exact q2 j p r hp hr1
          obtain ⟨c1, c2⟩ := cellsE_rel h hce (us := (ps.toList.map fun x => (x.1, a.eval x.2)).map (·.2)) (by rw [hl, List.length_map, hul]) hrel
          obtain ⟨k1, k2, k3, k4⟩ := absE_rel h c1 hab hs
          have hw' : ∀ c ∈ css, c.length = ei.size := by
            intro c hc
            rw [List.all_eq_true] at hw
            simpa using hw c hc
          have hsz : ∀ u ∈ (ps.toList.map fun x => (x.1, a.eval x.2)).map (·.2), u.cells.size = ei.size := by
            intro u hu
            have : u.cells.size ∈ css.map List.length := by rw [← c2]; exact List.mem_map.2 ⟨u, hu, rfl⟩
            obtain ⟨c, hc1, hc2⟩ := List.mem_map.1 this
            rw [← hc2]; exact hw' c hc1
          have hel : es.length = len := by
            have h1 := congrArg List.length k4
            have h2 := congrArg List.length c2
            simp at h1 h2
            rw [h1, ← h2]
            simpa using hul
          have hW : ∀ z ∈ es, z.length = ei.size := by
            intro z hz'
            have : z.length ∈ css.map List.length := by rw [← k4]; exact List.mem_map.2 ⟨z, hz', rfl⟩
            obtain ⟨c, hc1, hc2⟩ := List.mem_map.1 this
            rw [← hc2]; exact hw' c hc1
          obtain ⟨zv, z1, z2⟩ := zero_of hei w
          have zsz : zv.cells.size = ei.size := by rw [← hz, ← z2]; simp
          -- the row that stands before
          have hlenu : ((ps.toList.map fun x => (x.1, a.eval x.2)).map (·.2)).length = len := by rw [List.length_map, hul]
          have fin : ∀ cells : Array Value, cells.size = len * ei.size → ∃ cur, Instr.fill (fun i => some (i * ei.size, ei.size)) cells (ps.map fun (i, x) => (i, a.eval x)).toList = some cur ∧ cur.toList = ((ps.toList.map fun x => (x.1, a.eval x.2)).map (·.2)).flatMap (fun u => u.cells.toList) ∧ cur.size = es.length * ei.size := by
            intro cells hcs
            obtain ⟨cur, f1, f2⟩ := fill_seq (W := ei.size) ((ps.toList.map fun x => (x.1, a.eval x.2)).map (·.2)) 0 cells hsz (by rw [Nat.zero_add, hlenu, hcs]; exact Nat.le_refl _)
            refine ⟨cur, ?_, ?_, ?_⟩
            · have : (ps.map fun (i, x) => (i, a.eval x)).toList = ps.toList.map fun x => (x.1, a.eval x.2) := by simp
              rw [this, zip_of_range hidx]
              exact f1
            · rw [f2, Nat.zero_mul, List.take_zero, List.nil_append, Nat.zero_add, hlenu, List.drop_eq_nil_of_le (by simp [hcs]), List.append_nil]
            · rw [← Array.length_toList, f2, Nat.zero_mul, List.take_zero, List.nil_append, Nat.zero_add, hlenu, List.drop_eq_nil_of_le (by simp [hcs]), List.append_nil]
              have := RpE.len k1.choose_spec.1
              rw [this, width_uniform hW]
          have hn' : σ.ar.lookup (64 * d) = none := by simpa using hn
          have key : ∀ cur : Array Value, cur.toList = ((ps.toList.map fun x => (x.1, a.eval x.2)).map (·.2)).flatMap (fun u => u.cells.toList) → cur.size = es.length * ei.size →
              ∃ e', SimE N w0 e' (stA σ ((d, .one (.own (64 * d) es.length)) :: σ.tm) (64 * d) ⟨fr, es⟩ τs) (a.put (some d) (.slice (some ⟨w.heap.size, 0, none⟩) len len)) (w.alloc (.cells cur et)) := by
            intro cur hcur hcs
            have := h.newArr (d := d) hd hdp hn' (es := es) (f := fr) (τs := τs) (us := cur) (W := ei.size) et (by rw [hcur]; exact k1) (by rw [hcur]; exact k2) k3 (fun _ => hnd) hW (by rw [hel]; omega) hcs
            rw [hel] at this ⊢
            exact ⟨_, this⟩
          by_cases h0 : len * ei.size = 0
          · obtain ⟨cur, f1, f2, f3⟩ := fin ((Array.range (len * ei.size)).map ((#[] : Array Value)[· % (#[] : Array Value).size]!)) (by simp)
            obtain ⟨e', he'⟩ := key cur f2 f3
            refine ⟨_, _, e', ?_, he'⟩
            simp only [Instr.buildSlice, Sem.run_bind, run_underlying ht, Result.andThen_ok, sizeOf_of hei]
            have h24' : ¬ (len * ei.size > 2 ^ 24) := by omega
            rw [if_neg h24', if_pos h0]
            simp only [Sem.run_pure, Sem.run_bind, Result.andThen_ok, f1, newRow, run_newObj]
            rfl
          · obtain ⟨cur, f1, f2, f3⟩ := fin ((Array.range (len * ei.size)).map (zv.cells[· % zv.cells.size]!)) (by simp)
            obtain ⟨e', he'⟩ := key cur f2 f3
            refine ⟨_, _, e', ?_, he'⟩
            simp only [Instr.buildSlice, Sem.run_bind, run_underlying ht, Result.andThen_ok, sizeOf_of hei]
            have h24' : ¬ (len * ei.size > 2 ^ 24) := by omega
            simp only [h24', if_false, h0, Sem.run_pure, Sem.run_bind, z1, Result.andThen_ok, f1, newRow, run_newObj]
            rfl
        · cases hv
      · cases hv
    · cases hv
  · cases hv

theorem replicate_own {z : List L} {vs : List Value} (h : OwL N w z vs []) : ∀ n, OwE N w (List.replicate n z) (List.replicate n vs).flatten []
  | 0 => by simp [OwE]
  | n + 1 => by
    simp only [List.replicate_succ, List.flatten_cons, OwE]
    exact ⟨vs, _, [], [], rfl, rfl, h, replicate_own h n⟩

theorem cells_flatten (z : Array Value) (n : Nat) : ((Array.range (n * z.size)).map (z[· % z.size]!)).toList = (List.replicate n z.toList).flatten := by
  apply List.ext_getElem?
  intro j
  have hlen : ((List.replicate n z.toList).flatten).length = n * z.size := by simp
  by_cases hj : j < n * z.size
  · have e1 : ((Array.range (n * z.size)).map (z[· % z.size]!)).toList[j]? = some (z[j % z.size]!) := by simp [hj]
    rw [e1]
    clear e1
    induction n generalizing j with
    | zero => simp at hj
    | succ n ih =>
      rw [List.replicate_succ, List.flatten_cons]
      by_cases hj' : j < z.size
      · rw [List.getElem?_append_left (by simpa using hj'), Nat.mod_eq_of_lt hj']
        simp [hj']
      · rw [List.getElem?_append_right (by simpa using hj'), Array.length_toList, ← ih (j - z.size) (by simp) (by rw [Nat.add_mul] at hj; omega)]
        rw [Nat.mod_eq_sub_mod (by omega)]
  · rw [List.getElem?_eq_none (by simp; omega), List.getElem?_eq_none (by rw [hlen]; omega)]

theorem makeSlice_sound (h : SimE N w0 e σ a w) {d : Nat} {t : Nat} {l c : Operand} {f : Eff} (hv : memOp P σ (some d) (.makeSlice t l c) = some f) (hs : f.side) :
    ∃ u w' e', (Instr.makeSlice t (a.eval l) (a.eval c)).run P w = .ok u w' ∧ SimE N w0 e' (σ.app f) (a.put (some d) u) w' := by
  simp only [memOp] at hv
  split at hv
  · rename_i d' et _ _ _ k n k' m hd' hi hl hc
    obtain rfl := Option.some.inj hd'
    have ht := ti_slice hi
    split at hv
    · rename_i ei hei
      split at hv
      · rename_i z hz
        split at hv
        · rename_i hcnd
          obtain ⟨hd, hzl, hpos, hn⟩ := hcnd
          obtain rfl := Option.some.inj hv
          obtain ⟨rfl, s1, s2, s3, hdp⟩ := hs
          obtain ⟨g1, _⟩ := num_eval h hl
          obtain ⟨g2, _⟩ := num_eval h hc
          obtain ⟨n, rfl⟩ := Int.eq_ofNat_of_zero_le s1
          obtain ⟨o1, o2⟩ := constLs_own (N := N) (w := w) hz
          obtain ⟨zv, z1, z2⟩ := zero_of hei w
          have zsz : zv.cells.size = ei.size := by rw [← hzl, ← z2]; simp
          have hsz : (n : Int) ≤ 9223372036854775807 := s2
          have hn' : σ.ar.lookup (64 * d) = none := by simpa using hn
          have hcl := cells_flatten zv.cells n
          rw [z2, zsz] at hcl
          have hsim := h.newArr (d := d) (τ := 64 * d) hd hdp hn' (es := List.replicate n z) (f := true) (τs := []) (us := (Array.range (n * ei.size)).map (zv.cells[· % ei.size]!)) (W := ei.size) et
            (by rw [hcl]; exact ⟨[], (replicate_own o1 n).rp, by simp [Given]⟩) (fun _ => by rw [hcl]; exact replicate_own o1 n) (by simp) (fun _ => by simp) (fun x hx => by rw [List.eq_of_mem_replicate hx, o2, hzl]) (by simp; omega) (by simp)
          simp only [List.length_replicate] at hsim
          refine ⟨.slice (some ⟨w.heap.size, 0, none⟩) n n, w.alloc (.cells ((Array.range (n * ei.size)).map (zv.cells[· % ei.size]!)) et), _, ?_, hsim⟩
          obtain ⟨j, dd, zz, j1, j2, j3, j4, j5, j6, j7⟩ := ti_spec hei
          have hw64 : IntKind.i64.wrap (n : Int) = n := IntWalk.i64_in _ ⟨by omega, hsz⟩
          have c1 : ¬ ((n : Int) < 0) := by omega
          have c2 : ¬ ((ei.bytes : Int) * n > 281474976710656) := by omega
          have zc : (zeroValue et).run P w = .ok zv w := z1
          rw [g1, g2]
          by_cases hn0 : n * ei.size = 0
          · have : n = 0 := by
              rcases Nat.mul_eq_zero.1 hn0 with q | q
              · exact q
              · omega
            subst this
            have hw0 : IntKind.i64.wrap 0 = 0 := by decide
            simp [Instr.makeSlice, run_underlying ht, asInt, asIntOf, typeInfo, j1, j6, sizeOf, newRow, hw0]
            congr 2
            apply Array.ext <;> simp
          · simp only [Instr.makeSlice, run_underlying ht, asInt, asIntOf, typeInfo, j1, j6, Sem.run_bind, Sem.run_pure, Result.andThen_ok, run_program, hw64, sizeOf_of hei, run_askRoom, Int.toNat_natCast, hn0, if_false, zc, zsz, newRow, run_newObj]
            simp [c1, c2, sizeOf_of hei, hn0, zc, zsz]
        · cases hv
      · cases hv
    · cases hv
  · cases hv
end

end Go.Proofs.Ytopjlbifglacpaa.Am
