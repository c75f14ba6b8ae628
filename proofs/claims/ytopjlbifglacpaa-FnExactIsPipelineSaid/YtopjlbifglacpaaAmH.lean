/- Every operation that only reckons and reads, in one law: the rest. -/
import Derived.Test.YtopjlbifglacpaaAmG
set_option linter.unusedSimpArgs false
set_option linter.unusedVariables false
namespace Go.Proofs.Ytopjlbifglacpaa.Am
open Go.RowKit

section
variable {e : Env} {σ : St} {w : World} {N : Nat → Prop} {w0 : Bs} {a : Act} {P : Program}

theorem build_sound (h : SimE N w0 e σ a w) {t : Nat} {ps : Array (Nat × Operand)} {x : V} {s : Prop} (hv : valOp P σ (.build t ps) = some (x, s)) :
    ∃ u, (Instr.build t (ps.map fun (i, x) => (i, a.eval x))).run P w = .ok u w ∧ x.rel e σ w u := by
  simp only [valOp] at hv
  split at hv
  · rename_i fs _ _ z vs hi hps
    split at hv
    · rename_i hall
      split at hv
      · rename_i cells hz
        obtain ⟨cs, hcs, heq⟩ := Option.map_eq_some_iff.1 hv
        obtain ⟨rfl, rfl⟩ := Prod.mk.inj heq
        obtain ⟨flds, hu, rfl⟩ := ti_struct hi
        obtain ⟨zv, hz1, hz2⟩ := zero_of hi w
        simp only at hz2
        have hall' : ∀ fd ∈ flds.toList, ∃ fi, ti P fd.type = some fi := by
          intro fd hfd
          rw [List.all_eq_true] at hall
          have := hall (fd.offset, fd.type) (List.mem_map.2 ⟨fd, hfd, rfl⟩)
          exact Option.isSome_iff_exists.1 this
        obtain ⟨pl, hp1, hp2⟩ := mapM_places (P := P) (w := w) flds.toList hall'
        obtain ⟨q1, q2⟩ := parts_sound h hps
        obtain ⟨cur', k1, k2⟩ := fillC_sound (P := P) h (flds := flds.toList) (places := fun i => pl.toArray[i]?) (fun i fd fi hfd hfi => by simpa using hp2 i fd fi hfd hfi) hcs (cur := zv.cells) (by rw [hz2]; exact constL_rel hz) q1 q2
        refine ⟨.agg cur', ?_, cur'.toList, by simp, k2⟩
        have hmp : (flds.mapM fun f => do pure (f.offset, ← sizeOf f.type) : Sem (Array (Nat × Nat))).run P w = .ok pl.toArray w := by
          rw [Array.mapM_eq_mapM_toList, Sem.run_map, hp1]
          rfl
        have hfill : Instr.fill (fun i => pl.toArray[i]?) zv.cells (ps.map fun (i, x) => (i, a.eval x)).toList = some cur' := by
          rw [← k1]; congr 1; simp
        simp only [Instr.build, Sem.run_bind, hz1, Result.andThen_ok, run_underlying hu]
        rw [hmp]
        simp only [Result.andThen_ok, hfill, Sem.run_pure]
      · cases hv
    · cases hv
  · cases hv

theorem bound_eval (h : SimE N w0 e σ a w) {d : Int} {o : Option Operand} {n : Int} (hb : bound σ d o = some n) : (o = none ∧ n = d) ∨ ∃ p k, o = some p ∧ a.eval p = .int k n := by
  unfold bound at hb
  split at hb
  · exact .inl ⟨rfl, (Option.some.inj hb).symm⟩
  · rename_i p
    obtain ⟨⟨k, m⟩, hn, rfl⟩ := Option.map_eq_some_iff.1 hb
    exact .inr ⟨p, k, rfl, (num_eval h hn).1⟩

theorem run_sliceBounds (h : SimE N w0 e σ a w) {lo hi : Option Operand} {len cap : Nat} {l hh : Int} (hl : bound σ 0 lo = some l) (hhi : bound σ len hi = some hh) (h0 : 0 ≤ l) (h1 : l ≤ hh) (h2 : hh ≤ cap) (b : Bool) :
    (Instr.sliceBounds b len cap (lo.map a.eval) (hi.map a.eval) none).run P w = .ok (l.toNat, hh.toNat, cap) w := by
  have c1 : 0 ≤ hh := by omega
  rcases bound_eval h hl with ⟨rfl, rfl⟩ | ⟨p, k, rfl, hp⟩ <;> rcases bound_eval h hhi with ⟨rfl, rfl⟩ | ⟨q, j, rfl, hq⟩
  · simp [Instr.sliceBounds]
  · simp [Instr.sliceBounds, hq, Instr.sliceBound, asIntOf, c1, h2]
  · have : l ≤ (len : Int) := h1
    simp [Instr.sliceBounds, hp, Instr.sliceBound, asIntOf, h0, this]
  · have c3 : l ≤ ((hh.toNat : Nat) : Int) := by omega
    simp [Instr.sliceBounds, hp, hq, Instr.sliceBound, asIntOf, c1, h2, h0]
    omega

theorem Rp.cut {es : List (List L)} {A : Option Addr} {n c : Nat} {F : List Nat} (h : Rp w (.sl es) (.slice A n c) F) {W l hh : Nat} (hW : ∀ x ∈ es, x.length = W) (h1 : l ≤ hh) (h2 : hh ≤ es.length) :
    ∃ F', Rp w (.sl ((es.take hh).drop l)) (.slice (if c = l then A else A.map (·.add (l * W))) (hh - l) (c - l)) F' ∧ ∀ b ∈ F', b ∈ F := by
  simp only [Rp] at h
  obtain ⟨A', c', h3, h4, h5, h6⟩ := h
  injection h3 with e1 e2 e3
  subst e1 e2 e3
  have hlen : ((es.take hh).drop l).length = hh - l := by rw [List.length_drop, List.length_take]; omega
  by_cases hz : l = hh
  · subst hz
    have he : (es.take l).drop l = [] := List.eq_nil_of_length_eq_zero (by omega)
    refine ⟨[], ?_, by simp⟩
    simp only [Rp]
    exact ⟨_, _, by rw [hlen], by rw [hlen]; omega, by omega, .inl (by simp [he])⟩
  · rcases h6 with ⟨rfl, _⟩ | ⟨b, off, xs, Fs, rfl, q2, rfl, q4, q5⟩
    · simp at h2; omega
    · have hsplit : es = es.take l ++ ((es.take hh).drop l ++ es.drop hh) := by
        rw [← List.append_assoc]
        have : es.take l ++ (es.take hh).drop l = es.take hh := by
          have h9 := List.take_append_drop l (es.take hh)
          rw [List.take_take, Nat.min_eq_left h1] at h9
          exact h9
        rw [this, List.take_append_drop]
      rw [hsplit] at q5
      obtain ⟨v1, v2, F1, F2, rfl, rfl, g1, g2⟩ := q5.split
      obtain ⟨v3, v4, F3, F4, rfl, rfl, g3, g4⟩ := g2.split
      have l1 : v1.length = l * W := by
        rw [g1.len, width_uniform (W := W) (fun x hx => hW x (List.mem_of_mem_take hx)), List.length_take, Nat.min_eq_left (by omega)]
      have ha := q4.right.left
      rw [l1] at ha
      refine ⟨b :: F3, ?_, ?_⟩
      · simp only [Rp]
        refine ⟨_, _, by rw [hlen], by rw [hlen]; omega, by omega, .inr ⟨b, off + l * W, v3, F3, ?_, q2, rfl, ha, g3⟩⟩
        rw [if_neg (by omega)]
        simp [Addr.add_lit]
      · intro x hx
        rcases List.mem_cons.1 hx with rfl | hx
        · simp
        · simp [hx]

theorem slice_sound (h : SimE N w0 e σ a w) {t : Nat} {p : Operand} {lo hi : Option Operand} {x : V} {s : Prop} (hv : valOp P σ (.slice t p lo hi none) = some (x, s)) (hs : s) :
    ∃ u, (Instr.sliceAt t (a.eval p) (lo.map a.eval) (hi.map a.eval) none).run P w = .ok u w ∧ x.rel e σ w u := by
  simp only [valOp] at hv
  split at hv
  · rename_i st hi1 hp
    have hu := ti_str hi1
    obtain ⟨h1, h2⟩ := str_of h hp
    split at hv
    · rename_i l hh hl hhh
      obtain ⟨rfl, rfl⟩ := Prod.mk.inj (Option.some.inj hv)
      obtain ⟨s1, s2, s3⟩ := hs
      refine ⟨.string (st.extract l.toNat hh.toNat), ?_, rel_str ?_⟩
      · have hb := run_sliceBounds (P := P) h hl hhh s1 s2 s3 false
        simp [Instr.sliceAt, run_underlying hu, h1, Instr.slice, hb]
      · unfold Fit at h2 ⊢
        rw [ByteArray.size_extract]; omega
    · cases hv
  · rename_i et _ _ _ es hi1 hp
    have hu := ti_slice hi1
    obtain ⟨F, h1, h2⟩ := opd_rel h hp
    split at hv
    · rename_i ei l hh hei hl hhh
      obtain ⟨rfl, rfl⟩ := Prod.mk.inj (Option.some.inj hv)
      obtain ⟨s1, s2, s3, s4⟩ := hs
      have h1' := h1
      simp only [Rp] at h1'
      obtain ⟨A, c, h3, h4, h5, _⟩ := h1'
      rw [h3] at h1
      obtain ⟨F', g1, g2⟩ := h1.cut (l := l.toNat) (hh := hh.toNat) s4 (by omega) (by omega)
      refine ⟨_, ?_, F', g1, fun b hb => h2 b (g2 b hb)⟩
      have hb := run_sliceBounds (P := P) (cap := c) h hl hhh s1 s2 (by omega) true
      rw [h3]
      simp [Instr.sliceAt, run_underlying hu, Instr.slice, hb, sizeOf_of hei]
    · cases hv
  · cases hv

theorem opds_sound (h : SimE N w0 e σ a w) : ∀ {ps : List Operand} {vs : List V}, opds σ ps = some vs → vs.length = ps.length ∧ ∀ (j : Nat) p q, vs[j]? = some p → (ps.map a.eval)[j]? = some q → p.rel e σ w q
  | [], _, hp => by simp [opds] at hp; subst hp; simp
  | o :: ps, _, hp => by
    simp only [opds] at hp
    split at hp
    · rename_i v vs hv hvs
      obtain rfl := Option.some.inj hp
      obtain ⟨h1, h2⟩ := opds_sound h hvs
      refine ⟨by simp [h1], fun j p q hj hq => ?_⟩
      cases j with
      | zero =>
        simp at hj hq
        subst hj hq
        exact opd_rel h hv
      | succ j => exact h2 j p q (by simpa using hj) (by simpa using hq)
    · cases hp

theorem nums_sound (h : SimE N w0 e σ a w) : ∀ {ps : List Operand} {vs : List V} {ns : List Int}, opds σ ps = some vs → nums vs = some ns → ps.map a.eval = ns.map (Value.int .i64) ∧ ∀ n ∈ ns, InK .i64 n
  | [], _, _, hp, hn => by simp [opds] at hp; subst hp; simp [nums] at hn; subst hn; simp
  | o :: ps, _, _, hp, hn => by
    simp only [opds] at hp
    split at hp
    · rename_i v vs hv hvs
      obtain rfl := Option.some.inj hp
      unfold nums at hn
      split at hn
      · rename_i heq; cases heq
      · rename_i n rest heq
        injection heq with e1 e2
        subst e1 e2
        obtain ⟨ns, hns, rfl⟩ := Option.map_eq_some_iff.1 hn
        obtain ⟨g1, g2⟩ := nums_sound h hvs hns
        obtain ⟨k1, k2⟩ := int_of h hv
        exact ⟨by simp [g1, k1], fun m hm => by rcases List.mem_cons.1 hm with rfl | hm <;> first | exact k2 | exact g2 m hm⟩
      · cases hn
    · cases hp

theorem lenV_sound (h : SimE N w0 e σ a w) {p : Operand} {v : V} (hp : opd σ p = some v) {n : Int} (hn : lenV v = some n) (hns : ∀ s, v ≠ .one (.l (.str s))) : ∃ A m c, a.eval p = .slice A m c ∧ n = (m : Int) ∧ InK .i64 n := by
  have hr := opd_rel h hp
  unfold lenV at hn
  split at hn
  · rename_i es
    obtain rfl := Option.some.inj hn
    obtain ⟨F, h1, h2⟩ := hr
    simp only [Rp] at h1
    obtain ⟨A, c, h3, h4, h5, _⟩ := h1
    exact ⟨A, _, c, h3, rfl, (inK_i64 _).2 ⟨by omega, by omega⟩⟩
  · rename_i s; exact absurd rfl (hns s)
  · rename_i τ m
    obtain rfl := Option.some.inj hn
    obtain ⟨A, h1, h2, p', c, h3, h4⟩ := hr
    exact ⟨p', m, c, h3, rfl, (inK_i64 _).2 ⟨by omega, by omega⟩⟩
  · obtain rfl := Option.some.inj hn
    exact ⟨none, 0, 0, hr, rfl, (inK_i64 _).2 ⟨by omega, by omega⟩⟩
  · cases hn

theorem max_run (x y : Int) (t : Array TypeId) (ty : TypeId) : (Builtin.max_ t ty #[.int .i64 x, .int .i64 y]).run P w = .ok (.int .i64 (if y > x then y else x)) w := by
  simp [Builtin.max_, Builtin.max2]
theorem min_run (x y : Int) (t : Array TypeId) (ty : TypeId) : (Builtin.min_ t ty #[.int .i64 x, .int .i64 y]).run P w = .ok (.int .i64 (if y < x then y else x)) w := by
  simp [Builtin.min_, Builtin.min2]

theorem exec_of {ρ : Operand → Value} {o : Oper} {s : Sem Value} {u : Value} (h : execOp ρ o = (do pure (.value (← s)) : Sem Next)) (hr : s.run P w = .ok u w) : (execOp ρ o).run P w = .ok (.value u) w := by
  rw [h, Sem.run_bind, hr]; rfl

theorem valOp_sound (h : SimE N w0 e σ a w) {o : Oper} {x : V} {s : Prop} (hv : valOp P σ o.op = some (x, s)) (hs : s) :
    ∃ u, (execOp a.eval o).run P w = .ok (.value u) w ∧ x.rel e σ w u := by
  have hv0 := hv
  unfold valOp at hv
  split at hv
  · rename_i p ho
    obtain ⟨y, hy, heq⟩ := Option.map_eq_some_iff.1 hv
    obtain ⟨rfl, rfl⟩ := Prod.mk.inj heq
    exact ⟨_, by simp [execOp, ho], opd_rel h hy⟩
  · rename_i p ho
    obtain ⟨y, hy, heq⟩ := Option.map_eq_some_iff.1 hv
    obtain ⟨rfl, rfl⟩ := Prod.mk.inj heq
    exact ⟨_, by simp [execOp, ho], opd_rel h hy⟩
  · rename_i c p q ho
    split at hv
    · rename_i b hc
      have hcb := bool_of h hc
      split at hv
      · rename_i u v hp hq
        obtain ⟨rfl, rfl⟩ := Prod.mk.inj (Option.some.inj hv)
        refine ⟨.bool (bif b then u else v), ?_, rel_bool⟩
        simp only [execOp, ho, hcb, asBool, Sem.run_bind, Sem.run_pure, Result.andThen_ok, bool_of h hp, bool_of h hq]
        cases b <;> rfl
      · rename_i vx vy _ hp hq
        obtain ⟨rfl, rfl⟩ := Prod.mk.inj (Option.some.inj hv)
        refine ⟨if b then a.eval p else a.eval q, by simp [execOp, ho, hcb, asBool], ?_⟩
        cases b
        · exact opd_rel h hq
        · exact opd_rel h hp
      · cases hv
    · cases hv
  · rename_i t p ho
    rw [ho] at hv0
    obtain ⟨u, h1, h2⟩ := load_sound h hv0 hs
    exact ⟨u, exec_of (by simp only [execOp, ho]) h1, h2⟩
  · rename_i t p f ho
    rw [ho] at hv0
    obtain ⟨u, h1, h2⟩ := fieldAddr_sound h hv0 hs
    exact ⟨u, exec_of (by simp only [execOp, ho]) h1, h2⟩
  · rename_i t p f ho
    rw [ho] at hv0
    obtain ⟨u, h1, h2⟩ := field_sound h hv0
    exact ⟨u, exec_of (by simp only [execOp, ho]) h1, h2⟩
  · rename_i t p i ho
    rw [ho] at hv0
    obtain ⟨u, h1, h2⟩ := indexAddr_sound h hv0 hs
    exact ⟨u, exec_of (by simp only [execOp, ho]) h1, h2⟩
  · rename_i t p i ho
    rw [ho] at hv0
    obtain ⟨u, h1, h2⟩ := index_sound h hv0 hs
    exact ⟨u, exec_of (by simp only [execOp, ho]) h1, h2⟩
  · rename_i t i ho
    rw [ho] at hv0
    obtain ⟨u, h1, h2⟩ := extract_sound h hv0
    exact ⟨u, exec_of (by simp only [execOp, ho]) h1, h2⟩
  · rename_i p ho
    split at hv
    · rename_i k o' hp
      obtain ⟨rfl, rfl⟩ := Prod.mk.inj (Option.some.inj hv)
      have hr := opd_rel h hp
      have hr' := hr
      obtain ⟨h1, h2⟩ := hr'
      exact ⟨_, by simp only [execOp, ho, h2]; rfl, h1, rfl⟩
    · rename_i ls hp
      obtain ⟨rfl, rfl⟩ := Prod.mk.inj (Option.some.inj hv)
      have hr := opd_rel h hp
      have hr' := hr
      obtain ⟨b, off, vs, F, h2, h3⟩ := hr'
      exact ⟨_, by simp only [execOp, ho, h2]; rfl, b, off, vs, F, rfl, h3⟩
    · cases hv
  · rename_i op t p q t' ho
    rw [ho] at hv0
    obtain ⟨u, h1, h2⟩ := binOp_sound h hv0 hs
    exact ⟨u, exec_of (by simp only [execOp, ho]) h1, h2⟩
  · rename_i op t p ho
    rw [ho] at hv0
    obtain ⟨u, h1, h2⟩ := unOp_sound h hv0
    exact ⟨u, exec_of (by simp only [execOp, ho]) h1, h2⟩
  · rename_i t t' p ho
    rw [ho] at hv0
    obtain ⟨u, h1, h2⟩ := convert_sound h hv0
    exact ⟨u, exec_of (by simp only [execOp, ho]) h1, h2⟩
  · rename_i t ps ho
    rw [ho] at hv0
    obtain ⟨u, h1, h2⟩ := build_sound h hv0
    exact ⟨u, exec_of (by simp only [execOp, ho]) h1, h2⟩
  · rename_i t p lo hi ho
    rw [ho] at hv0
    obtain ⟨u, h1, h2⟩ := slice_sound h hv0 hs
    exact ⟨u, exec_of (by simp only [execOp, ho, Option.map_none]) h1, h2⟩
  · rename_i xs ts ho
    split at hv
    · rename_i p t hxs hts
      have hxs' : xs = #[p] := by rw [← Array.toList_inj]; exact hxs
      have hts' : ts = #[t] := by rw [← Array.toList_inj]; exact hts
      subst hxs' hts'
      split at hv
      · rename_i et _ _ _ v hi hp
        split at hv
        · cases hv
        · rename_i hns
          obtain ⟨n, hn, heq⟩ := Option.map_eq_some_iff.1 hv
          obtain ⟨rfl, rfl⟩ := Prod.mk.inj heq
          obtain ⟨A, m, c, h1, rfl, h3⟩ := lenV_sound h hp hn (fun s hs' => hns s hs')
          refine ⟨.int .i64 m, ?_, rel_int h3⟩
          simp [execOp, ho, resolve, invoke, builtin, Builtin.len_, h1, run_underlying (ti_slice hi), goInt]
      · rename_i _ _ _ st hi hp
        obtain ⟨rfl, rfl⟩ := Prod.mk.inj (Option.some.inj hv)
        obtain ⟨h1, h2⟩ := str_of h hp
        refine ⟨.int .i64 st.size, ?_, rel_int ((inK_i64 _).2 ⟨by omega, by unfold Fit at h2; omega⟩)⟩
        simp [execOp, ho, resolve, invoke, builtin, Builtin.len_, h1, run_underlying (ti_str hi), goInt]
      · cases hv
    · cases hv
  · rename_i xs ts ho
    split at hv
    · rename_i vs hvs
      split at hv
      · rename_i x y hn
        obtain ⟨rfl, rfl⟩ := Prod.mk.inj (Option.some.inj hv)
        obtain ⟨g1, g2⟩ := nums_sound h hvs hn
        have hm : xs.map a.eval = #[.int .i64 x, .int .i64 y] := by rw [← Array.toList_inj]; simpa using g1
        refine ⟨.int .i64 (if y > x then y else x), ?_, rel_int (by split <;> first | exact g2 y (by simp) | exact g2 x (by simp))⟩
        simp [execOp, ho, resolve, invoke, builtin, hm, max_run]
      · cases hv
    · cases hv
  · rename_i xs ts ho
    split at hv
    · rename_i vs hvs
      split at hv
      · rename_i x y hn
        obtain ⟨rfl, rfl⟩ := Prod.mk.inj (Option.some.inj hv)
        obtain ⟨g1, g2⟩ := nums_sound h hvs hn
        have hm : xs.map a.eval = #[.int .i64 x, .int .i64 y] := by rw [← Array.toList_inj]; simpa using g1
        refine ⟨.int .i64 (if y < x then y else x), ?_, rel_int (by split <;> first | exact g2 y (by simp) | exact g2 x (by simp))⟩
        simp [execOp, ho, resolve, invoke, builtin, hm, min_run]
      · cases hv
    · cases hv
  · cases hv
end

end Go.Proofs.Ytopjlbifglacpaa.Am
