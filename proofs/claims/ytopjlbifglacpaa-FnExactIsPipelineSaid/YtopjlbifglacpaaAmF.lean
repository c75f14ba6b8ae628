/- The same: arithmetic, comparisons, conversions, structs put together, slices cut, lengths; and all of them in one law. -/
import Derived.Test.YtopjlbifglacpaaAmE
set_option linter.unusedSimpArgs false
set_option linter.unusedVariables false
namespace Go.Proofs.Ytopjlbifglacpaa.Am
open Go.RowKit

/-- The value of plain data of one cell without memory. -/
def lval : L → Value
  | .int k n => .int k n
  | .bool b => .bool b
  | .str s => .string s
  | .sl _ => undef

section
variable {e : Env} {σ : St} {w : World} {N : Nat → Prop} {w0 : Bs} {a : Act} {P : Program}

theorem tmod_in {k : IntKind} {a b : Int} (ha : InK k a) (hb : InK k b) (h0 : b ≠ 0) : k.wrap (a.tmod b) = a.tmod b := by
  have h1 : a.tmod b ≤ a.natAbs ∧ -(a.natAbs : Int) ≤ a.tmod b := by
    have := Int.natAbs_tmod a b
    have h2 := Nat.mod_le a.natAbs b.natAbs
    omega
  have h3 : (0 ≤ a → 0 ≤ a.tmod b) := fun h => Int.tmod_nonneg b h
  have h4 : (a ≤ 0 → a.tmod b ≤ 0) := fun h => by
    have := Int.neg_tmod a b
    have h5 := Int.tmod_nonneg (a := -a) b (by omega)
    omega
  unfold InK at *
  revert ha
  generalize a.tmod b = m at *
  clear hb h0
  cases k <;> simp only [IntKind.wrap, IntKind.bits, IntKind.signed] <;> simp <;> intro ha <;> (try split at ha) <;> (try split) <;> omega

theorem bI_run {op : BinOp} {k : IntKind} {x y : Int} {r : L} {s : Prop} (hr : bI op k x y = some (r, s)) (hs : s) (hx : InK k x) (hy : InK k y) (t : Nat) (oa ob : Operand) :
    (do eqGuard op t oa ob (.int k x) (.int k y); binOp op t (.int k x) (.int k y) : Sem Value).run P w = .ok (lval r) w ∧ (V.one (.l r)).rel e σ w (lval r) := by
  cases op <;> simp only [bI, Option.some.injEq, Prod.mk.injEq] at hr <;> first | (cases hr; done) | skip
  all_goals (obtain ⟨rfl, rfl⟩ := hr)
  case quo =>
    exact ⟨by simp [eqGuard, binOp, Op.intDiv, hs, lval], rel_int (InK.wrap _ _)⟩
  case rem =>
    exact ⟨by simp [eqGuard, binOp, Op.intDiv, hs, lval, tmod_in hx hy hs], rel_int (InK.wrap _ _)⟩
  all_goals first
    | exact ⟨by simp [eqGuard, binOp, Op.intArith, lval], rel_int (InK.wrap _ _)⟩
    | exact ⟨by simp [eqGuard, binOp, Op.intCmp, lval]; try (rw [Bool.eq_iff_iff]; simp), rel_bool⟩

theorem bS_run {op : BinOp} {x y : ByteArray} {r : L} {s : Prop} (hr : bS op x y = some (r, s)) (hs : s) (t : Nat) (oa ob : Operand) :
    (do eqGuard op t oa ob (.string x) (.string y); binOp op t (.string x) (.string y) : Sem Value).run P w = .ok (lval r) w ∧ (V.one (.l r)).rel e σ w (lval r) := by
  cases op <;> simp only [bS, Option.some.injEq, Prod.mk.injEq] at hr <;> first | (cases hr; done) | skip
  all_goals (obtain ⟨rfl, rfl⟩ := hr)
  case add =>
    have h1 : ¬ ((x.size : Int) + y.size > 9223372036854775807) := by omega
    refine ⟨?_, rel_str (by unfold Fit; rw [ByteArray.size_append]; exact hs)⟩
    have h2 : IntKind.max .i64 = 9223372036854775807 := by decide
    simp [eqGuard, binOp, Op.stringOp, lval, h2, h1]
  all_goals exact ⟨by simp [eqGuard, binOp, Op.stringOp, lval, sLess, str_beq], rel_bool⟩

theorem ti_agg {t : Nat} {i : TI} {d : TD} (_h : ti P t = some i) (hd : i.td = d) (hf : d.agg = some false) : i.td.agg = some false := by rw [hd]; exact hf

theorem eqC_run {fd : Field} {i : TI} (hi : ti P fd.type = some i) {c d : CV} {r : Bool} (h : eqC i.td c d = some r) {u v : Value} (hu : c.rel e σ w u) (hv : d.rel e σ w v) (n : Nat) :
    i.td.agg = some false ∧ (Op.equalIn (n + 1) fd.type u v).run P w = .ok r w := by
  obtain ⟨td, sz, by_, z⟩ := i
  unfold eqC at h
  split at h
  · rename_i k' k x j y hk
    simp only at hk
    subst hk
    split at h
    · rename_i hkj
      subst hkj
      obtain rfl := Option.some.inj h
      obtain ⟨F, g1, _⟩ := hu
      obtain ⟨G, g2, _⟩ := hv
      simp only [Rp] at g1 g2
      rw [g1.1, g2.1]
      refine ⟨rfl, ?_⟩
      rw [run_equalIn_int w n fd.type k k' x y (ti_int hi)]
      rfl
    · cases h
  · rename_i x y hk
    simp only at hk
    subst hk
    obtain rfl := Option.some.inj h
    obtain ⟨F, g1, _⟩ := hu
    obtain ⟨G, g2, _⟩ := hv
    simp only [Rp] at g1 g2
    rw [g1.1, g2.1]
    exact ⟨rfl, run_equalIn_bool' w n fd.type x y (ti_bool hi)⟩
  · rename_i x y hk
    simp only at hk
    subst hk
    obtain rfl := Option.some.inj h
    obtain ⟨F, g1, _⟩ := hu
    obtain ⟨G, g2, _⟩ := hv
    simp only [Rp] at g1 g2
    rw [g1.1, g2.1]
    refine ⟨rfl, ?_⟩
    rw [run_equalIn_string w n fd.type x y (ti_str hi), str_beq]
  · cases h

theorem eqFields_run (m : Nat) : ∀ {fs : List Field} {n : Nat} {ts : List TD} {cs ds : List CV} {us vs : List Value} {r : Bool} (xs ys : Array Value), flatFields P n fs = some ts → eqCs ts cs ds = some r → relL e σ w cs us → relL e σ w ds vs →
    (∀ j, us[j]? = xs[n + j]?) → (∀ j, vs[j]? = ys[n + j]?) → (Op.eqFields (m + 1) xs ys fs).run P w = .ok r w
  | [], n, ts, cs, ds, us, vs, r, xs, ys, hf, he, _, _, _, _ => by
    simp only [flatFields, Option.some.injEq] at hf
    subst hf
    unfold eqCs at he
    split at he
    · obtain rfl := Option.some.inj he; simp [Op.eqFields]
    · contradiction
    · cases he
  | f :: fs, n, ts, cs, ds, us, vs, r, xs, ys, hf, he, hu, hv, hx, hy => by
    simp only [flatFields] at hf
    split at hf
    · rename_i hc
      simp only [Bool.and_eq_true, bne_iff_ne, ne_eq, beq_iff_eq] at hc
      obtain ⟨hn, ho⟩ := hc
      split at hf
      · rename_i i ts' hi hrest
        obtain rfl := Option.some.inj hf
        unfold eqCs at he
        split at he
        · contradiction
        · rename_i c cs d ds h
          injection h with h3 h4
          subst h3 h4
          split at he
          · rename_i r1 r2 h1 h2
            obtain rfl := Option.some.inj he
            simp only [relL] at hu hv
            obtain ⟨u, us', rfl, hu1, hu2⟩ := hu
            obtain ⟨v, vs', rfl, hv1, hv2⟩ := hv
            obtain ⟨hg, pe⟩ := eqC_run hi h1 hu1 hv1 m
            have px : xs[f.offset]? = some u := by have := hx 0; simp at this; rw [ho]; exact this.symm
            have py : ys[f.offset]? = some v := by have := hy 0; simp at this; rw [ho]; exact this.symm
            have ih := eqFields_run m (fs := fs) (n := n + 1) xs ys hrest h2 hu2 hv2 (fun j => by have := hx (j + 1); simp at this; rw [this]; congr 1; omega) (fun j => by have := hy (j + 1); simp at this; rw [this]; congr 1; omega)
            have pa : (part f.type xs f.offset).run P w = .ok u w := by simp [part, isAgg_of hi hg, px]
            have pb : (part f.type ys f.offset).run P w = .ok v w := by simp [part, isAgg_of hi hg, py]
            simp only [Op.eqFields, Sem.run_ite, Sem.run_bind, pa, pb, pe, Result.andThen_ok]
            rw [if_pos (by simpa using hn)]
            cases r1
            · simp
            · simpa using ih
          · cases he
        · cases he
      · cases hf
    · cases hf

theorem eql_struct {t : Nat} {tds : List TD} (ht : eqOk P t = some tds) {cs ds : List CV} {r : Bool} (hr : eqCs tds cs ds = some r) {us vs : List Value} (hu : relL e σ w cs us) (hv : relL e σ w ds vs) (oa ob : Operand) :
    (do eqGuard .eql t oa ob (.agg us.toArray) (.agg vs.toArray); binOp .eql t (.agg us.toArray) (.agg vs.toArray) : Sem Value).run P w = .ok (.bool r) w ∧
    (do eqGuard .neq t oa ob (.agg us.toArray) (.agg vs.toArray); binOp .neq t (.agg us.toArray) (.agg vs.toArray) : Sem Value).run P w = .ok (.bool (!r)) w := by
  unfold eqOk at ht
  split at ht
  · rename_i fs hfs
    split at ht
    · rename_i hc
      simp only [Bool.and_eq_true, Bool.not_eq_true'] at hc
      have hfo : P.fieldsOf t = fs := by simp [Program.fieldsOf, hfs]
      have h1 := run_equalIn_agg (P := P) w 9999 t us.toArray vs.toArray (by rw [hfo]; exact hfs) hc.1
      rw [hfo] at h1
      have h2 := eqFields_run (P := P) (e := e) (σ := σ) (w := w) 9998 us.toArray vs.toArray ht hr hu hv (by simp) (by simp)
      rw [h2] at h1
      have g1 := run_eqGuard_agg (P := P) w .eql t oa ob us.toArray vs.toArray hc.2
      have g2 := run_eqGuard_agg (P := P) w .neq t oa ob us.toArray vs.toArray hc.2
      rw [Sem.run_bind, Sem.run_bind, g1, g2, Result.andThen_ok, Result.andThen_ok, run_eql_struct, run_neq_struct, h1]
      exact ⟨rfl, rfl⟩
    · cases ht
  · cases ht
end

end Go.Proofs.Ytopjlbifglacpaa.Am
