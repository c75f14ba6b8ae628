/- Appending to what the call has made, as a step of a region that draws its order; small facts on appends. -/
import Derived.Test.YtopjlbifglacpaaNew
import Derived.Deep.RegionLaw
namespace Go.Proofs.Ytopjlbifglacpaa
open Go.RowKit

theorem bld_empty (w : World) (E W : Nat) : Bld w.heap.size E W (w.alloc (.cells #[] E)) (.slice (some ⟨w.heap.size, 0, none⟩) 0 0) [] [] :=
  ⟨⟨[], World.ownsRow_made w #[] 0 (Nat.le_refl _) (by decide) (by simp), mk_nil⟩, Fr.nil _ _, by simp⟩
theorem bgrown {a w w2 : World} {row : Option Nat} (h : Below a.heap.size a w) (hg : w.grownBy w2 row) (hr : ∀ k, row = some k → a.heap.size ≤ k) : Below a.heap.size a w2 :=
  ⟨hg.os.trans h.os, hg.tape.trans h.tape, hg.output.trans h.output, Nat.le_trans h.size hg.size, fun b hb => (hg.block b (Nat.lt_of_lt_of_le hb h.size) (fun e => by have := hr b e.symm; omega)).trans (h.block b hb)⟩
theorem src_one {w : World} {b : Nat} {cs : List Value} {d : D} {F : List Nat} {t : TypeId} (h : Rep (w.alloc (.cells cs.toArray t)) d cs F) (hb : b = w.heap.size) : Src (w.alloc (.cells cs.toArray t)) (some ⟨b, 0, none⟩) 1 [d] cs F := by
  subst hb
  refine ⟨rfl, repL_of (mk_cons h mk_nil) (by simp) (by simp), .inr ⟨_, 0, rfl, ?_⟩⟩
  intro j u hu
  rw [Nat.zero_add]
  exact cell_new w _ _ j u (by simpa using hu)

theorem Bld.setLow {B E W : Nat} {w : World} {v : Value} {es : List D} {Fs : List Nat} (h : Bld B E W w v es Fs) {p : Addr} (hp : p.block < B) (u : Value) : Bld B E W (w.setCell p u) v es Fs := by
  have hown := h.own
  obtain ⟨⟨xs, h1, h2⟩, h3, h4⟩ := h
  have hs : ∀ k, k ≠ p.block → (w.setCell p u).heap[k]? = w.heap[k]? := fun k hk => Below.heap_setCell _ _ _ _ hk
  have hsame : Same w (w.setCell p u) Fs := ⟨by rw [size_set]; exact Nat.le_refl _, fun b hb => hs b (by have := (h3.2 b hb).1; omega)⟩
  refine ⟨⟨xs, h1.kept (row := some p.block) ⟨rfl, rfl, rfl, by rw [size_set]; exact Nat.le_refl _, fun k _ hk => hs k (fun e => hk (e ▸ rfl))⟩ ?_, h2.keep hsame⟩, h3.keep hsame, h4⟩
  cases hv : v.ownBlock with
  | none => simp
  | some g => have := (hown g hv).1; simp; omega
section
variable {P : Program} {w : World}
theorem run_append_bld (t ty : TypeId)
    (B E W bytes : Nat) (z : Value) (ht : P.underlying t = some (.slice E)) (hinfo : (P.info? E).map (fun i => (i.zero, i.size, i.bytes)) = some (some z, W, bytes)) (hzs : z.cells.size = W) (hsz : 0 < W)
    (v : Value) (es : List D) (Fs : List Nat) (h : Bld B E W w v es Fs)
    (A : Option Addr) (m c : Nat) (ys : List D) (cs : List Value) (Fx : List Nat) (hsrc : Src w A m ys cs Fx) (hW : wdL ys = m * W) (hfx : Fr B w Fx)
    (hd : ∀ b ∈ Fx, b ∉ Fs ∧ v.ownBlock ≠ some b)
    (hbytes : (es.length + m) * bytes ≤ 140737488355328) (hby : 0 < bytes) (hbase : B ≤ w.heap.size) :
    ∃ v' w', (Builtin.append_ #[t, t] ty #[v, .slice A m c]).run P w = .ok v' w' ∧ Bld B E W w' v' (es ++ ys) (Fs ++ Fx) ∧ w.grownBy w' v.ownBlock := by
  obtain ⟨i, hi, hz, hsize, hbt⟩ := info_parts hinfo
  obtain ⟨hm, hr, hA⟩ := hsrc
  have hlen : es.length + m ≤ 140737488355328 := Nat.le_trans (by have := Nat.le_mul_of_pos_right (es.length + m) hby; exact this) hbytes
  have hcs : cs.length = m * W := by rw [hr.len, hW]
  obtain ⟨⟨xs, h1, h2⟩, h3, h4⟩ := h
  rcases hA with ⟨rfl, rfl⟩ | ⟨b, off, rfl, hc⟩
  · have hys : ys = [] := List.eq_nil_of_length_eq_zero hm
    subst hys
    simp only [RepL] at hr
    obtain ⟨rfl, rfl⟩ := hr
    refine ⟨v, w, run_append_none w B t ty E i W ht hi v _ xs h1 c, ?_, World.grownBy.refl _ _⟩
    rw [List.append_nil, List.append_nil]
    exact ⟨⟨xs, h1, h2⟩, h3, h4⟩
  · obtain ⟨v', w', hrun, g1, g2, _, g4⟩ := run_append_own_at (P := P) w B t ty E i z W bytes ht hi hz hsize hbt hzs hsz v es.length xs h1 ⟨b, off, none⟩ m c cs hcs
      (fun j u hu => by rw [Addr.add_lit]; exact hc j u hu) hr.one_ (by simp only [maxLen]; omega) hbytes hbase
    refine ⟨v', w', hrun, ?_, g2⟩
    refine Bld.grow ⟨⟨xs, h1, h2⟩, h3, h4⟩ hr hfx hd (fun xs' h1' _ => ?_) g2 g4
    have hxx : xs' = xs := ownsRow_unique h1' h1
    rw [hxx, hm]
    exact g1

theorem step_append_bld {ops : Array Oper} {o : Oper} {a : Act} {K : Act → World → Prop} {Q : Exit → Act → World → Prop} {X : Prop} (hgd : o.guard = none) (s x : Operand) (t : TypeId)
    (ho : o.op = .call { callee := .builtin .append, args := #[s, x], argTypes := #[t, t] })
    (B E W bytes : Nat) (z : Value) (ht : P.underlying t = some (.slice E)) (hinfo : (P.info? E).map (fun i => (i.zero, i.size, i.bytes)) = some (some z, W, bytes)) (hzs : z.cells.size = W) (hsz : 0 < W)
    (v : Value) (es : List D) (Fs : List Nat) (hs : a.eval s = v) (h : Bld B E W w v es Fs)
    (A : Option Addr) (m c : Nat) (ys : List D) (cs : List Value) (Fx : List Nat) (hx : a.eval x = .slice A m c) (hsrc : Src w A m ys cs Fx) (hW : wdL ys = m * W) (hfx : Fr B w Fx)
    (hd : ∀ b ∈ Fx, b ∉ Fs ∧ v.ownBlock ≠ some b)
    (hbytes : (es.length + m) * bytes ≤ 140737488355328) (hby : 0 < bytes) (hbase : B ≤ w.heap.size)
    (hk : ∀ A' c' w', Bld B E W w' (.slice A' (es.length + m) c') (es ++ ys) (Fs ++ Fx) → w.grownBy w' v.ownBlock → K (a.put o.dst (.slice A' (es.length + m) c')) w') :
    if Region.wanted o (yielded ops a.tmps) = true then Oper.wp P o a w K Q else X := by
  have hw : Region.wanted o (yielded ops a.tmps) = true := by simp [Region.wanted, hgd]
  rw [if_pos hw]
  obtain ⟨v', w', hrun, hb, hg⟩ := run_append_bld (P := P) t o.type B E W bytes z ht hinfo hzs hsz v es Fs h A m c ys cs Fx hsrc hW hfx hd hbytes hby hbase
  obtain ⟨A', c', rfl⟩ := hb.form
  have hl : (es ++ ys).length = es.length + m := by rw [List.length_append, hsrc.1]
  rw [hl] at hrun hb
  unfold Oper.wp execOp
  simp only [ho, resolve, invoke, builtin, Sem.run_bind, Sem.run_pure, Result.andThen_ok, List.map_toArray, List.map_cons, List.map_nil, hs, hx, hrun]
  exact hk A' c' w' hb hg
end
end Go.Proofs.Ytopjlbifglacpaa
