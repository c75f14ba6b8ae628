/- Several texts in one: Own, Mild, TyBasic, New, MarkText, MarkBase. -/
import Derived.Test.YtmiboaogfjgkjaaPkC
import Derived.Maps.AppendAt
import Derived.StillTailTactics
import Derived.Deep.QuietTactic
import Derived.BigQuiet
import Derived.Deep.DeepFit
import Derived.Deep.DeepMust
/- What a call has made itself: blocks that nobody else holds, slices that grow. -/
namespace Go.Proofs.Ytmiboaogfjgkjaa
open Go.RowKit

/-- Block b is a plain row, no cell of it frozen. -/
def Plain (w : World) (b : Nat) : Prop := ∃ cur t, w.heap[b]? = some (.cells cur t (0, 0))
/-- The blocks of F are new (from B on), each met once, each a plain row. -/
def Fr (B : Nat) (w : World) (F : List Nat) : Prop := F.Nodup ∧ ∀ b ∈ F, B ≤ b ∧ Plain w b

theorem Plain.lt {w : World} {b : Nat} (h : Plain w b) : b < w.heap.size := by
  obtain ⟨cur, t, h⟩ := h
  exact (Array.getElem?_eq_some_iff.1 h).1
theorem Fr.nil (B : Nat) (w : World) : Fr B w [] := ⟨List.nodup_nil, by simp⟩
theorem Fr.lt {B : Nat} {w : World} {F : List Nat} (h : Fr B w F) : ∀ b ∈ F, b < w.heap.size := fun b hb => (h.2 b hb).2.lt
theorem Fr.mono {B B' : Nat} {w : World} {F : List Nat} (h : Fr B w F) (hB : B' ≤ B) : Fr B' w F := ⟨h.1, fun b hb => ⟨Nat.le_trans hB (h.2 b hb).1, (h.2 b hb).2⟩⟩
theorem Fr.keep {B : Nat} {w w' : World} {F : List Nat} (h : Fr B w F) (hs : Same w w' F) : Fr B w' F :=
  ⟨h.1, fun b hb => ⟨(h.2 b hb).1, by obtain ⟨cur, t, e⟩ := (h.2 b hb).2; exact ⟨cur, t, (hs.2 b hb).trans e⟩⟩⟩
theorem Fr.below {B : Nat} {w w' : World} {F : List Nat} (h : Fr B w F) (hb : Below w.heap.size w w') : Fr B w' F := h.keep (Same.below hb h.lt)
theorem Fr.append {B : Nat} {w : World} {F G : List Nat} (h : Fr B w F) (k : Fr B w G) (hd : ∀ b ∈ F, b ∉ G) : Fr B w (F ++ G) := by
  refine ⟨List.nodup_append.2 ⟨h.1, k.1, fun a ha b hb e => hd a ha (e ▸ hb)⟩, fun b hb => ?_⟩
  rcases List.mem_append.1 hb with hb | hb
  · exact h.2 b hb
  · exact k.2 b hb
theorem Fr.left {B : Nat} {w : World} {F G : List Nat} (h : Fr B w (F ++ G)) : Fr B w F := ⟨(List.nodup_append.1 h.1).1, fun b hb => h.2 b (by simp [hb])⟩
theorem Fr.right {B : Nat} {w : World} {F G : List Nat} (h : Fr B w (F ++ G)) : Fr B w G := ⟨(List.nodup_append.1 h.1).2.1, fun b hb => h.2 b (by simp [hb])⟩
/-- What was new first, then what is newer. -/
theorem Fr.later {B : Nat} {w w' : World} {F G : List Nat} (h : Fr B w F) (hb : Below w.heap.size w w') (k : Fr w.heap.size w' G) (hB : B ≤ w.heap.size) : Fr B w' (F ++ G) :=
  (h.below hb).append (k.mono hB) fun b hF hG => by have := h.lt b hF; have := (k.2 b hG).1; omega
theorem Fr.later_right {B : Nat} {w w' : World} {F G : List Nat} (h : Fr B w F) (hb : Below w.heap.size w w') (k : Fr w.heap.size w' G) (hB : B ≤ w.heap.size) : Fr B w' (G ++ F) :=
  (k.mono hB).append (h.below hb) fun b hG hF => by have := h.lt b hF; have := (k.2 b hG).1; omega

/-- A slice under construction: the elements so far, and the blocks that they go through. -/
def Bld (B E W : Nat) (w : World) (v : Value) (es : List D) (Fs : List Nat) : Prop :=
  (∃ xs, w.ownsRow B E W v es.length xs ∧ RepL w es xs Fs) ∧ Fr B w Fs ∧ ∀ g, v.ownBlock = some g → g ∉ Fs

section
variable {B E W : Nat} {w w' : World} {v : Value} {es : List D} {Fs : List Nat}

theorem ownsRow_plain {n : Nat} {xs : List Value} (h : w.ownsRow B E W v n xs) : ∀ g, v.ownBlock = some g → B ≤ g ∧ Plain w g := by
  intro g hg
  rcases h.2 with ⟨rfl, _⟩ | ⟨g', cap, cur, rfl, hb, hh, _⟩
  · simp [Value.ownBlock] at hg
  · simp [Value.ownBlock] at hg
    subst hg
    exact ⟨hb, cur, _, hh⟩

theorem Bld.own (h : Bld B E W w v es Fs) : ∀ g, v.ownBlock = some g → B ≤ g ∧ g < w.heap.size := by
  obtain ⟨⟨xs, h, _⟩, _⟩ := h
  exact h.lt

theorem Bld.nil (B E W : Nat) (w : World) : Bld B E W w (.slice none 0 0) [] [] :=
  ⟨⟨[], World.ownsRow_nil w B E W, rfl, rfl⟩, Fr.nil B w, by simp⟩

/-- Blocks below the heap's size stay: what is under construction stays. -/
theorem Bld.below (h : Bld B E W w v es Fs) (hb : Below w.heap.size w w') : Bld B E W w' v es Fs := by
  obtain ⟨⟨xs, h1, h2⟩, h3, h4⟩ := h
  refine ⟨⟨xs, h1.kept (row := none) ⟨hb.os, hb.tape, hb.output, hb.size, fun k hk _ => hb.block k hk⟩ ?_, h2.below hb⟩, h3.below hb, h4⟩
  cases v.ownBlock <;> simp

/-- Done: a slice that reads as its elements, all of it new. -/
theorem Bld.done (h : Bld B E W w v es Fs) : ∃ F, SlAt w v es F ∧ Fr B w F ∧ ∀ b ∈ F, v.ownBlock = some b ∨ b ∈ Fs := by
  obtain ⟨⟨xs, h1, h2⟩, h3, h4⟩ := h
  rcases h1.2 with ⟨rfl, hn⟩ | ⟨g, cap, cur, rfl, hb, hh, hnc, hcm, hcs, htake⟩
  · have he : es = [] := List.eq_nil_of_length_eq_zero hn
    subst he
    exact ⟨[], ⟨none, 0, rfl, by simp, by omega, .inl ⟨rfl, rfl⟩⟩, Fr.nil _ _, by simp⟩
  · refine ⟨g :: Fs, ⟨some ⟨g, 0, none⟩, cap, rfl, hnc, hcm, .inr ⟨g, 0, xs, Fs, rfl, (Array.getElem?_eq_some_iff.1 hh).1, rfl, ?_, h2⟩⟩, ?_, ?_⟩
    · intro j u hu
      have := h1.cells (g := g) rfl j u hu
      rw [Addr.add_lit] at this
      exact this
    · refine ⟨List.nodup_cons.2 ⟨h4 g rfl, h3.1⟩, fun b hb' => ?_⟩
      rcases List.mem_cons.1 hb' with rfl | hb'
      · exact ⟨hb, cur, _, hh⟩
      · exact h3.2 b hb'
    · intro b hb'
      rcases List.mem_cons.1 hb' with rfl | hb'
      · exact .inl rfl
      · exact .inr hb'

/-- What stands behind an append of elements that read as `ys`. -/
theorem Bld.grow {w1 w2 : World} {v2 : Value} {ys : List D} {cs : List Value} {Fx : List Nat} (h : Bld B E W w1 v es Fs) (hx : RepL w1 ys cs Fx) (hfx : Fr B w1 Fx)
    (hd : ∀ b ∈ Fx, b ∉ Fs ∧ v.ownBlock ≠ some b)
    (hown : ∀ xs, w1.ownsRow B E W v es.length xs → RepL w1 es xs Fs → w2.ownsRow B E W v2 (es.length + ys.length) (xs ++ cs))
    (hg : w1.grownBy w2 v.ownBlock) (hv2 : v2.ownBlock = v.ownBlock ∨ v2.ownBlock = some w1.heap.size) : Bld B E W w2 v2 (es ++ ys) (Fs ++ Fx) := by
  obtain ⟨⟨xs, h1, h2⟩, h3, h4⟩ := h
  have sFs : Same w1 w2 Fs := ⟨hg.size, fun b hb => hg.block b (h3.lt b hb) (fun e => h4 b e.symm hb)⟩
  have sFx : Same w1 w2 Fx := ⟨hg.size, fun b hb => hg.block b (hfx.lt b hb) (fun e => (hd b hb).2 e.symm)⟩
  refine ⟨⟨xs ++ cs, by simpa using hown xs h1 h2, (h2.keep sFs).append (hx.keep sFx)⟩, (h3.keep sFs).append (hfx.keep sFx) (fun b hb hb' => (hd b hb').1 hb), ?_⟩
  intro g hg2 hmem
  rcases hv2 with e | e
  · rw [e] at hg2
    rcases List.mem_append.1 hmem with hm | hm
    · exact h4 g hg2 hm
    · exact (hd g hm).2 hg2
  · rw [e] at hg2
    obtain rfl : w1.heap.size = g := by simpa using hg2
    rcases List.mem_append.1 hmem with hm | hm
    · have := h3.lt _ hm; omega
    · have := hfx.lt _ hm; omega

theorem ownsRow_unique {n : Nat} {xs ys : List Value} (h : w.ownsRow B E W v n xs) (k : w.ownsRow B E W v n ys) : xs = ys := by
  rcases h.2 with ⟨rfl, hn⟩ | ⟨g, cap, cur, rfl, hb, hh, hnc, hcm, hcs, htake⟩
  · subst hn
    have e1 : xs = [] := List.eq_nil_of_length_eq_zero (by simpa using h.1)
    have e2 : ys = [] := List.eq_nil_of_length_eq_zero (by simpa using k.1)
    rw [e1, e2]
  · rcases k.2 with ⟨h', _⟩ | ⟨g', cap', cur', h', hb', hh', _, _, _, htake'⟩
    · simp at h'
    · simp only [Value.slice.injEq, Option.some.injEq, Addr.mk.injEq, and_true, true_and] at h'
      obtain ⟨rfl, rfl⟩ := h'
      rw [hh] at hh'
      simp only [Option.some.injEq, Obj.cells.injEq, and_true] at hh'
      rw [← htake, ← htake', hh']

theorem Bld.form (h : Bld B E W w v es Fs) : ∃ A c, v = .slice A es.length c := by
  obtain ⟨⟨xs, h1, h2⟩, h3, h4⟩ := h
  rcases h1.2 with ⟨rfl, hn⟩ | ⟨g, cap, cur, rfl, _⟩
  · exact ⟨none, 0, by rw [hn]⟩
  · exact ⟨_, _, rfl⟩

end

theorem stores_own {B E W g n cap : Nat} : ∀ (cs : List Value) (w : World) (k : Nat) (xs : List Value), w.ownsRow B E W (.slice (some ⟨g, 0, none⟩) n cap) n xs →
    (w.setCells g k cs).ownsRow B E W (.slice (some ⟨g, 0, none⟩) n cap) n (xs.take k ++ (cs ++ xs.drop (k + cs.length)).take (xs.length - k)) ∧ w.grownBy (w.setCells g k cs) (some g)
  | [], w, k, xs, h => by
    refine ⟨?_, World.grownBy.refl _ _⟩
    have e : xs.take k ++ ([] ++ xs.drop (k + ([] : List Value).length)).take (xs.length - k) = xs := by
      have e1 : ([] ++ xs.drop (k + ([] : List Value).length)).take (xs.length - k) = xs.drop k := by
        rw [List.nil_append, List.length_nil, Nat.add_zero]; exact List.take_of_length_le (by simp)
      rw [e1, List.take_append_drop]
    rw [e]
    exact h
  | c :: cs, w, k, xs, h => by
    obtain ⟨h1, h2⟩ := h.stored k c
    obtain ⟨h3, h4⟩ := stores_own cs (w.setCell ⟨g, k, none⟩ c) (k + 1) (xs.set k c) h1
    have hg : w.grownBy ((w.setCell ⟨g, k, none⟩ c).setCells g (k + 1) cs) (some g) :=
      ⟨h4.os.trans h2.os, h4.tape.trans h2.tape, h4.output.trans h2.output, Nat.le_trans h2.size h4.size, fun i hi hne => (h4.block i (Nat.lt_of_lt_of_le hi h2.size) hne).trans (h2.block i hi hne)⟩
    refine ⟨?_, hg⟩
    have e : (xs.set k c).take (k + 1) ++ (cs ++ (xs.set k c).drop (k + 1 + cs.length)).take ((xs.set k c).length - (k + 1)) =
        xs.take k ++ (c :: cs ++ xs.drop (k + (c :: cs).length)).take (xs.length - k) := by
      rw [List.length_set, List.drop_set_of_lt (by omega)]
      by_cases hk : k < xs.length
      · rw [List.take_succ_eq_append_getElem (by simpa using hk), List.take_set_of_le (Nat.le_refl _)]
        simp only [List.getElem_set_self, List.append_assoc, List.cons_append, List.length_cons]
        rw [show xs.length - k = (xs.length - (k + 1)) + 1 from by omega, List.take_succ_cons, show k + 1 + cs.length = k + (cs.length + 1) from by omega]
        rfl
      · rw [List.set_eq_of_length_le (by omega), show xs.length - (k + 1) = 0 from by omega, show xs.length - k = 0 from by omega, List.take_zero, List.take_zero,
          List.take_of_length_le (by omega), List.take_of_length_le (by omega)]
    rw [← e]
    exact h3


mutual
theorem Rep.one {w : World} : ∀ {d : D} {cs : List Value} {F : List Nat}, Rep w d cs F → ∀ u ∈ cs, u.oneCell' = true
  | .int _, _, _, h => by simp only [Rep] at h; simp [h.1, Value.oneCell']
  | .byte _, _, _, h => by simp only [Rep] at h; simp [h.1, Value.oneCell']
  | .bool _, _, _, h => by simp only [Rep] at h; simp [h.1, Value.oneCell']
  | .str _, _, _, h => by simp only [Rep] at h; simp [h.1, Value.oneCell']
  | .agg _, _, _, h => by simp only [Rep] at h; exact RepL.one_ h
  | .sl _, _, _, h => by simp only [Rep] at h; obtain ⟨A, c, h, _⟩ := h; simp [h, Value.oneCell']
theorem RepL.one_ {w : World} : ∀ {ds : List D} {cs : List Value} {F : List Nat}, RepL w ds cs F → ∀ u ∈ cs, u.oneCell' = true
  | [], _, _, h => by simp only [RepL] at h; simp [h.1]
  | _ :: _, _, _, h => by
    simp only [RepL] at h
    obtain ⟨c1, c2, F1, F2, rfl, rfl, h1, h2⟩ := h
    intro u hu
    rcases List.mem_append.1 hu with hu | hu
    · exact Rep.one h1 u hu
    · exact RepL.one_ h2 u hu
end

section
variable {P : Program} (w : World)

theorem run_append_none (B t ty E : Nat) (i : TypeInfo) (W : Nat) (ht : P.underlying t = some (.slice E)) (hi : P.info? E = some i)
    (v : Value) (n : Nat) (xs : List Value) (hown : w.ownsRow B E W v n xs) (c : Nat) : (Builtin.append_ #[t, t] ty #[v, .slice none 0 c]).run P w = .ok v w := by
  rcases hown.2 with ⟨rfl, rfl⟩ | ⟨g, cap, cur, rfl, _, _, hnc, _⟩
  · simp [Builtin.append_, run_underlying ht, sizeOf, typeInfo, hi, Builtin.lenOf, Builtin.firstCells]
  · simp [Builtin.append_, run_underlying ht, sizeOf, typeInfo, hi, Builtin.lenOf, Builtin.firstCells, hnc, storeCells]

/-- The source of an append: m elements that read as `ys`. -/
def Src (w : World) (A : Option Addr) (m : Nat) (ys : List D) (cs : List Value) (Fx : List Nat) : Prop :=
  ys.length = m ∧ RepL w ys cs Fx ∧ ((A = none ∧ m = 0) ∨ ∃ b off, A = some ⟨b, off, none⟩ ∧ CellsAt w b off cs)

theorem wpList_append_bld {ops : Array Oper} {rest : List Oper} {o : Oper} {a : Act} {Q : Exit → Act → World → Prop} (hgd : o.guard = none) (s x : Operand) (t : TypeId)
    (ho : o.op = .call { callee := .builtin .append, args := #[s, x], argTypes := #[t, t] })
    (B E W bytes : Nat) (z : Value) (ht : P.underlying t = some (.slice E)) (hinfo : (P.info? E).map (fun i => (i.zero, i.size, i.bytes)) = some (some z, W, bytes)) (hzs : z.cells.size = W) (hsz : 0 < W)
    (v : Value) (es : List D) (Fs : List Nat) (hs : a.eval s = v) (h : Bld B E W w v es Fs)
    (A : Option Addr) (m c : Nat) (ys : List D) (cs : List Value) (Fx : List Nat) (hx : a.eval x = .slice A m c) (hsrc : Src w A m ys cs Fx) (hW : wdL ys = m * W) (hfx : Fr B w Fx)
    (hd : ∀ b ∈ Fx, b ∉ Fs ∧ v.ownBlock ≠ some b)
    (hbytes : (es.length + m) * bytes ≤ 140737488355328) (hby : 0 < bytes) (hbase : B ≤ w.heap.size)
    (hk : ∀ A' c' w', Bld B E W w' (.slice A' (es.length + m) c') (es ++ ys) (Fs ++ Fx) → w.grownBy w' v.ownBlock → wpList P ops Q rest (a.put o.dst (.slice A' (es.length + m) c')) w') : wpList P ops Q (o :: rest) a w := by
  obtain ⟨i, hi, hz, hsize, hbt⟩ := info_parts hinfo
  obtain ⟨hm, hr, hA⟩ := hsrc
  have hlen : es.length + m ≤ 140737488355328 := Nat.le_trans (by have := Nat.le_mul_of_pos_right (es.length + m) hby; exact this) hbytes
  have hcs : cs.length = m * W := by rw [hr.len, hW]
  have key : ∃ v' w', (Builtin.append_ #[t, t] o.type #[v, .slice A m c]).run P w = .ok v' w' ∧ Bld B E W w' v' (es ++ ys) (Fs ++ Fx) ∧ w.grownBy w' v.ownBlock := by
    obtain ⟨⟨xs, h1, h2⟩, h3, h4⟩ := h
    rcases hA with ⟨rfl, rfl⟩ | ⟨b, off, rfl, hc⟩
    · have hys : ys = [] := List.eq_nil_of_length_eq_zero hm
      subst hys
      simp only [RepL] at hr
      obtain ⟨rfl, rfl⟩ := hr
      refine ⟨v, w, run_append_none w B t o.type E i W ht hi v _ xs h1 c, ?_, World.grownBy.refl _ _⟩
      rw [List.append_nil, List.append_nil]
      exact ⟨⟨xs, h1, h2⟩, h3, h4⟩
    · obtain ⟨v', w', hrun, g1, g2, _, g4⟩ := run_append_own_at (P := P) w B t o.type E i z W bytes ht hi hz hsize hbt hzs hsz v es.length xs h1 ⟨b, off, none⟩ m c cs hcs
        (fun j u hu => by rw [Addr.add_lit]; exact hc j u hu) hr.one_ (by simp only [maxLen]; omega) hbytes hbase
      refine ⟨v', w', hrun, ?_, g2⟩
      refine Bld.grow ⟨⟨xs, h1, h2⟩, h3, h4⟩ hr hfx hd (fun xs' h1' _ => ?_) g2 g4
      have hxx : xs' = xs := ownsRow_unique h1' h1
      rw [hxx, hm]
      exact g1
  obtain ⟨v', w', hrun, hb, hg⟩ := key
  obtain ⟨A', c', rfl⟩ := hb.form
  have hl : (es ++ ys).length = es.length + m := by rw [List.length_append, hm]
  rw [hl] at hrun hb
  refine wpList_plain hgd fun K hK => ?_
  unfold Oper.wp execOp
  simp only [ho, resolve, invoke, builtin, Sem.run_bind, Sem.run_pure, Result.andThen_ok, List.map_toArray, List.map_cons, List.map_nil, hs, hx, hrun]
  exact hK _ _ (hk A' c' w' hb hg)

theorem RepL.replicate {w : World} {z : D} {cs : List Value} (h : Rep w z cs []) : ∀ n, RepL w (List.replicate n z) (List.replicate n cs).flatten []
  | 0 => ⟨rfl, rfl⟩
  | n + 1 => by
    simp only [List.replicate_succ, List.flatten_cons, RepL]
    exact ⟨cs, _, [], [], rfl, rfl, h, RepL.replicate h n⟩

theorem madeCells_flatten (z : Array Value) (_hz : 0 < z.size) (n : Nat) : (madeCells z (n * z.size)).toList = (List.replicate n z.toList).flatten := by
  apply List.ext_getElem?
  intro j
  have hlen : ((List.replicate n z.toList).flatten).length = n * z.size := by simp
  by_cases hj : j < n * z.size
  · have e1 : (madeCells z (n * z.size)).toList[j]? = some (z[j % z.size]!) := by simp [madeCells, hj]
    rw [e1]
    clear e1
    induction n generalizing j with
    | zero => simp at hj
    | succ n ih =>
      rw [List.replicate_succ, List.flatten_cons]
      by_cases hj' : j < z.size
      · rw [List.getElem?_append_left (by simpa using hj'), Nat.mod_eq_of_lt hj']
        simp [hj']
      · rw [List.getElem?_append_right (by simpa using hj'), Array.length_toList, ← ih (j - z.size) (by simp) (by rw [Nat.add_mul] at hj; omega)]
        rw [Nat.mod_eq_sub_mod (by omega)]
  · rw [List.getElem?_eq_none (by simp [madeCells]; omega), List.getElem?_eq_none (by rw [hlen]; omega)]

/-- make([]T, n): n zero elements. -/
theorem wpList_make_bld {ops : Array Oper} {rest : List Oper} {o : Oper} {a : Act} {Q : Exit → Act → World → Prop} (hg : o.guard = none) (l c : Operand) (t : TypeId) (hop : o.op = Op.makeSlice t l c)
    (E W bytes : Nat) (z : Value) (ht : P.underlying t = some (.slice E)) (hinfo : (P.info? E).map (fun i => (i.zero, i.size, i.bytes)) = some (some z, W, bytes)) (hzs : z.cells.size = W) (hsz : 0 < W)
    (kl kc : IntKind) (L C : Int) (n : Nat) (hl : a.eval l = .int kl L) (hc : a.eval c = .int kc C) (hL : L = (n : Int)) (hC : C = (n : Int)) (b2 : bytes * n ≤ 281474976710656) (b3 : n ≤ 9223372036854775807)
    (zd : D) (hzd : Rep w zd z.cells.toList [])
    (hk : ∀ w', Bld w.heap.size E W w' (.slice (some ⟨w.heap.size, 0, none⟩) n n) (List.replicate n zd) [] → Below w.heap.size w w' → wpList P ops Q rest (a.put o.dst (.slice (some ⟨w.heap.size, 0, none⟩) n n)) w') :
    wpList P ops Q (o :: rest) a w := by
  obtain ⟨i, hi, hz, hsize, hbt⟩ := info_parts hinfo
  subst hbt
  refine wpList_make_full w hg l c t hop w.heap.size E i z W ht hi hz hsize kl kc L C n hl hc hL hC b2 b3 (Nat.le_refl _) fun w' hown hgr => ?_
  have hb : Below w.heap.size w w' := ⟨hgr.os, hgr.tape, hgr.output, hgr.size, fun k hk => hgr.block k hk (by simp)⟩
  refine hk w' ⟨⟨_, ?_, (RepL.replicate (hzd.keep ⟨hgr.size, by simp⟩) n)⟩, Fr.nil _ _, by simp⟩ hb
  subst hzs
  rw [madeCells_flatten _ hsz] at hown
  simpa using hown

theorem Bld.far {w w1 : World} {B E W : Nat} {v : Value} {es : List D} {Fs Fx : List Nat} (h : Bld B E W w v es Fs) (hfx : Fr w.heap.size w1 Fx) : ∀ b ∈ Fx, b ∉ Fs ∧ v.ownBlock ≠ some b := by
  intro b hb
  have h1 := (hfx.2 b hb).1
  refine ⟨fun hF => ?_, fun e => ?_⟩
  · have := h.2.1.lt b hF; omega
  · have := (h.own b e).2; omega

/-- An element of a slice under construction is stored: out[i] = x. -/
theorem Bld.store {w : World} {B E W g n cap k : Nat} {ds es : List D} {z x : D} {cs : List Value} {Fs Fx : List Nat} (h : Bld B E W w (.slice (some ⟨g, 0, none⟩) n cap) (ds ++ z :: es) Fs)
    (hW : ∀ d ∈ ds ++ z :: es, wd d = W) (hxW : wd x = W)
    (hx : Rep w x cs Fx) (hfx : Fr B w Fx) (hd : ∀ b ∈ Fx, b ∉ Fs ∧ Value.ownBlock (.slice (some ⟨g, 0, none⟩) n cap) ≠ some b) (hk : k = ds.length * W) :
    (∃ Fs', Bld B E W (w.setCells g k cs) (.slice (some ⟨g, 0, none⟩) n cap) (ds ++ x :: es) Fs' ∧ ∀ b ∈ Fs', b ∈ Fs ∨ b ∈ Fx) ∧ w.grownBy (w.setCells g k cs) (some g) := by
  subst hk
  obtain ⟨⟨xs, k1, k2⟩, k3, k4⟩ := h
  have hn : (ds ++ z :: es).length = n := by
    rcases k1.2 with ⟨h', _⟩ | ⟨g', cap', cur, h', _⟩
    · simp at h'
    · injection h' with _ h' _; exact h'.symm
  rw [hn] at k1
  obtain ⟨c1, c2, F1, F2, e1, e2, r1, r2⟩ := RepL.split k2
  simp only [RepL] at r2
  obtain ⟨c3, c4, F3, F4, e3, e4, r3, r4⟩ := r2
  subst e3 e4 e2
  have l1 : c1.length = ds.length * W := by rw [r1.len, wdL_uniform (W := W) _ (fun d hd => hW d (by simp [hd]))]
  have l3 : c3.length = W := by rw [r3.len]; exact hW z (by simp)
  have lx : cs.length = W := by rw [hx.len, hxW]
  obtain ⟨s1, s2⟩ := stores_own cs w (ds.length * W) xs k1
  have exs : xs.take (ds.length * W) ++ (cs ++ xs.drop (ds.length * W + cs.length)).take (xs.length - ds.length * W) = c1 ++ (cs ++ c4) := by
    subst e1
    rw [← l1, List.take_left]
    congr 1
    rw [List.drop_append, List.drop_of_length_le (by omega), List.nil_append, show c1.length + cs.length - c1.length = c3.length from by omega, List.drop_left]
    apply List.take_of_length_le
    simp only [List.length_append]; omega
  rw [exs] at s1
  have hne : ∀ b ∈ Fx, b ≠ g := fun b hb e => (hd b hb).2 (by rw [e]; rfl)
  have sF : Same w (w.setCells g (ds.length * W) cs) (F1 ++ (F3 ++ F4)) := ⟨s2.size, fun b hb' => s2.block b (k3.lt b hb') (fun e => k4 g rfl (by obtain rfl := Option.some.inj e; exact hb'))⟩
  have sX : Same w (w.setCells g (ds.length * W) cs) Fx := ⟨s2.size, fun b hb' => s2.block b (hfx.lt b hb') (fun e => hne b hb' (Option.some.inj e))⟩
  have kk := k3.keep sF
  refine ⟨⟨F1 ++ (Fx ++ F4), ⟨⟨c1 ++ (cs ++ c4), ?_, ?_⟩, ?_, ?_⟩, ?_⟩, s2⟩
  · rw [show (ds ++ x :: es).length = n from by rw [← hn]; simp]; exact s1
  · refine (r1.keep sF.left).append ?_
    simp only [RepL]
    exact ⟨cs, c4, Fx, F4, rfl, rfl, hx.keep sX, r4.keep sF.right.right⟩
  · refine kk.left.append ((hfx.keep sX).append kk.right.right fun b hX hF => (hd b hX).1 (by simp [hF])) fun b hF hX => ?_
    rcases List.mem_append.1 hX with hX | hX
    · exact (hd b hX).1 (by simp [hF])
    · have hnd := List.nodup_append.1 k3.1
      exact hnd.2.2 b hF b (by simp [hX]) rfl
  · intro g' hg' hmem
    simp only [Value.ownBlock, Option.some.injEq] at hg'
    subst hg'
    simp only [List.mem_append] at hmem
    rcases hmem with hm | hm | hm
    · exact k4 _ rfl (by simp [hm])
    · exact hne _ hm rfl
    · exact k4 _ rfl (by simp [hm])
  · intro b hb'
    simp only [List.mem_append] at hb' ⊢
    rcases hb' with hb' | hb' | hb'
    · exact .inl (.inl hb')
    · exact .inr hb'
    · exact .inl (.inr (.inr hb'))

theorem run_storeVar_cells (b k : Nat) (ty : TypeId) (v : Value) (hi : (P.info? ty).map (·.size) = some v.cells.toList.length)
    (hc : ∀ j, j < v.cells.toList.length → (w.cell? ⟨b, k + j, none⟩).isSome = true) (hf : ∀ j, j < v.cells.toList.length → w.frozen? ⟨b, k + j, none⟩ = false) (h1 : ∀ u ∈ v.cells.toList, u.oneCell' = true) :
    (storeVar ty ⟨b, k, none⟩ v).run P w = .ok () (w.setCells b k v.cells.toList) := by
  have h := run_storeCells_cells (P := P) b k v.cells.toList 0 w (by simpa using hc) (by simpa using hf) h1
  cases hq : P.info? ty with
  | none => simp [hq] at hi
  | some i =>
    have hs : i.size = v.cells.size := by simpa [hq] using hi
    simp only [Nat.add_zero] at h
    simp [storeVar, sizeOf, typeInfo, hq, hs, h]

/-- A store of whatever value into a row that the call itself has made, at an element's place. -/
theorem wpList_store_bld {ops : Array Oper} {rest : List Oper} {o : Oper} {a : Act} {Q : Exit → Act → World → Prop} (hgd : o.guard = none) (ty : TypeId) (p y : Operand) (ho : o.op = .store ty p y)
    {B E W g n cap k : Nat} {ds es : List D} {z x : D} {cs : List Value} {Fs Fx : List Nat} (v : Value) (hx : a.eval p = .pointer (some ⟨g, k, none⟩)) (hy : a.eval y = v) (hv : v.cells.toList = cs)
    {zv : Option Value} {bytes : Nat} (hinfo : (P.info? ty).map (fun i => (i.zero, i.size, i.bytes)) = some (zv, W, bytes)) (h : Bld B E W w (.slice (some ⟨g, 0, none⟩) n cap) (ds ++ z :: es) Fs)
    (hW : ∀ d ∈ ds ++ z :: es, wd d = W) (hxW : wd x = W) (hxr : Rep w x cs Fx) (hfx : Fr B w Fx) (hd : ∀ b ∈ Fx, b ∉ Fs ∧ Value.ownBlock (.slice (some ⟨g, 0, none⟩) n cap) ≠ some b) (hk : k = ds.length * W)
    (hK : ∀ w' Fs', Bld B E W w' (.slice (some ⟨g, 0, none⟩) n cap) (ds ++ x :: es) Fs' → w.grownBy w' (some g) → (∀ b ∈ Fs', b ∈ Fs ∨ b ∈ Fx) → wpList P ops Q rest (a.put o.dst undef) w') :
    wpList P ops Q (o :: rest) a w := by
  have lx : cs.length = W := by rw [hxr.len, hxW]
  have hi : (P.info? ty).map (·.size) = some W := by
    obtain ⟨i, hi, hzz⟩ := Option.map_eq_some_iff.1 hinfo
    simp only [Prod.mk.injEq] at hzz
    rw [hi, ← hzz.2.1]; rfl
  have hrun : (storeVar ty ⟨g, k, none⟩ v).run P w = .ok () (w.setCells g k v.cells.toList) := by
    obtain ⟨⟨xs, k1, k2⟩, k3, k4⟩ := h
    have hxl : xs.length = (ds ++ z :: es).length * W := k1.1
    have hlt : ∀ j, j < v.cells.toList.length → k + j < xs.length := fun j hj => by
      rw [hv, lx] at hj
      rw [hxl, hk, List.length_append, List.length_cons, Nat.add_mul, Nat.add_mul]; omega
    refine run_storeVar_cells w g k ty v (by rw [hv, lx]; exact hi) (fun j hj => ?_) (fun j hj => ?_) (by rw [hv]; exact hxr.one)
    · have := k1.cells (g := g) rfl (k + j) (xs[k + j]'(hlt j hj)) (List.getElem?_eq_getElem _)
      rw [Addr.add_lit, Nat.zero_add] at this
      rw [this]; rfl
    · obtain ⟨_, cur, t, hh⟩ := ownsRow_plain k1 g rfl
      exact frozen_of_row w g _ cur t hh
  obtain ⟨⟨Fs', h1, h2⟩, h3⟩ := h.store hW hxW hxr hfx hd hk
  refine wpList_plain hgd fun K hK' => ?_
  unfold Oper.wp execOp
  simp only [ho, hx, hy, Instr.storeAt, Instr.sureAddr, Sem.run_bind, Sem.run_pure, Result.andThen_ok, hrun]
  rw [hv]
  exact hK' _ _ (hK _ Fs' h1 h3 h2)
end

end Go.Proofs.Ytmiboaogfjgkjaa

/- Small words for walks: readings opened field by field, a count that may run out, regions whose callees only make new blocks. -/
namespace Go.Proofs.Ytmiboaogfjgkjaa
open Go.RowKit

section
variable {w : World}
theorem rep_int {n : Int} {cs : List Value} {F : List Nat} : Rep w (.int n) cs F ↔ cs = [.int .i64 n] ∧ F = [] ∧ I64 n := by simp only [Rep]
theorem rep_byte {n : Int} {cs : List Value} {F : List Nat} : Rep w (.byte n) cs F ↔ cs = [.int .u8 n] ∧ F = [] ∧ 0 ≤ n ∧ n ≤ 255 := by simp only [Rep]
theorem rep_bool {b : Bool} {cs : List Value} {F : List Nat} : Rep w (.bool b) cs F ↔ cs = [.bool b] ∧ F = [] := by simp only [Rep]
/-- A text fits. -/
def Fits (s : ByteArray) : Prop := s.size ≤ 9223372036854775807
theorem rep_str {s : ByteArray} {cs : List Value} {F : List Nat} : Rep w (.str s) cs F ↔ cs = [.string s] ∧ F = [] ∧ Fits s := by simp only [Rep, Fits]
theorem rep_agg {fs : List D} {cs : List Value} {F : List Nat} : Rep w (.agg fs) cs F ↔ RepL w fs cs F := by simp only [Rep]
theorem repL_nil {cs : List Value} {F : List Nat} : RepL w [] cs F ↔ cs = [] ∧ F = [] := by simp only [RepL]
theorem repL_cons {d : D} {ds : List D} {cs : List Value} {F : List Nat} : RepL w (d :: ds) cs F ↔ ∃ c1 c2 F1 F2, cs = c1 ++ c2 ∧ F = F1 ++ F2 ∧ Rep w d c1 F1 ∧ RepL w ds c2 F2 := by simp only [RepL]
theorem rep_sl {es : List D} {cs : List Value} {F : List Nat} : Rep w (.sl es) cs F ↔ ∃ A c, cs = [.slice A es.length c] ∧ SlAt w (.slice A es.length c) es F := by
  constructor
  · intro h
    have h' := h
    simp only [Rep] at h'
    obtain ⟨A, c, rfl, _⟩ := h'
    exact ⟨A, c, rfl, h⟩
  · rintro ⟨A, c, rfl, h⟩
    exact h
theorem mk_int {n : Int} (h : I64 n) : Rep w (.int n) [.int .i64 n] [] := rep_int.2 ⟨rfl, rfl, h⟩
theorem mk_bool {b : Bool} : Rep w (.bool b) [.bool b] [] := rep_bool.2 ⟨rfl, rfl⟩
theorem mk_str {s : ByteArray} (h : Fits s) : Rep w (.str s) [.string s] [] := rep_str.2 ⟨rfl, rfl, h⟩
theorem mk_sl {A : Option Addr} {n c : Nat} {es : List D} {F : List Nat} (h : SlAt w (.slice A n c) es F) : Rep w (.sl es) [.slice A n c] F := h
theorem mk_cons {d : D} {ds : List D} {c1 c2 : List Value} {F1 F2 : List Nat} (h : Rep w d c1 F1) (k : RepL w ds c2 F2) : RepL w (d :: ds) (c1 ++ c2) (F1 ++ F2) := repL_cons.2 ⟨_, _, _, _, rfl, rfl, h, k⟩
theorem mk_nil : RepL w [] [] [] := repL_nil.2 ⟨rfl, rfl⟩
theorem Rep.alloc {d : D} {cs : List Value} {F : List Nat} (h : Rep w d cs F) (o : Obj) : Rep (w.alloc o) d cs F := h.below ((Below.refl _ _).alloc (Nat.le_refl _) o)
theorem SlAt.below {w' : World} {v : Value} {es : List D} {F : List Nat} (h : SlAt w v es F) (hb : Below w.heap.size w w') : SlAt w' v es F := Rep.below h hb
theorem SlAt.alloc {v : Value} {es : List D} {F : List Nat} (h : SlAt w v es F) (o : Obj) : SlAt (w.alloc o) v es F := Rep.alloc h o
theorem SlAt.len {A : Option Addr} {n c : Nat} {es : List D} {F : List Nat} (h : SlAt w (.slice A n c) es F) : es.length = n ∧ n ≤ c ∧ c ≤ 9223372036854775807 := by
  obtain ⟨A', c', e, h1, h2⟩ := h.form
  injection e with e1 e2 e3
  subst e2 e3
  exact ⟨rfl, h1, h2⟩
end

theorem ret_int {k : IntKind} {a b : Int} (h : a = b) : Ending.returned (.int k a) = .returned (.int k b) := by rw [h]
theorem ret_bool {a b : Bool} (h : a = b) : Ending.returned (.bool a) = .returned (.bool b) := by rw [h]

/-- What is left of a count when b is taken off: -1 if it does not suffice. -/
def szr (b : Nat) (left : Int) : Int := if (b : Int) ≤ left then left - b else -1
theorem szr_spec (b : Nat) (left : Int) : ((b : Int) ≤ left ∧ szr b left = left - b) ∨ (left < b ∧ szr b left = -1) := by
  unfold szr
  by_cases h : (b : Int) ≤ left
  · exact .inl ⟨h, by rw [if_pos h]⟩
  · exact .inr ⟨by omega, by rw [if_neg h]⟩
theorem szr_bd (b : Nat) {left : Int} (h : 0 ≤ left) : -1 ≤ szr b left ∧ szr b left ≤ left := by
  rcases szr_spec b left with h1 | h1 <;> omega

mutual
/-- How many values and letters the slices and texts of a datum hold. -/
def bk : D → Nat
  | .int _ => 0
  | .byte _ => 0
  | .bool _ => 0
  | .str s => s.size
  | .agg fs => bkL fs
  | .sl es => es.length + bkL es
def bkL : List D → Nat
  | [] => 0
  | d :: ds => bk d + bkL ds
end
theorem bkL_append : ∀ (a b : List D), bkL (a ++ b) = bkL a + bkL b
  | [], b => by simp [bkL]
  | x :: a, b => by simp only [List.cons_append, bkL, bkL_append a b]; omega
theorem bkL_take_succ (es : List D) (i : Nat) (h : i < es.length) : bkL (es.take (i + 1)) = bkL (es.take i) + bk es[i] := by
  rw [List.take_succ_eq_append_getElem h, bkL_append]; simp [bkL]
theorem bkL_take_le (es : List D) (i : Nat) : bkL (es.take i) ≤ bkL es := by
  have h := bkL_append (es.take i) (es.drop i)
  rw [List.take_append_drop] at h; omega
theorem bkL_get_le (es : List D) (i : Nat) (h : i < es.length) : bk es[i] ≤ bkL es := by
  have h1 := bkL_take_succ es i h
  have h2 := bkL_take_le es (i + 1)
  omega

/-- A world that has only new blocks beside those of w. -/
def Ext (w : World) : Type := { w' : World // Below w.heap.size w w' }

instance extNonempty (w : World) : Nonempty (Ext w) := ⟨⟨w, Below.refl _ _⟩⟩

theorem ext_cell {w : World} (x : Ext w) (b o : Nat) (h : b < w.heap.size) : x.1.cell? ⟨b, o, none⟩ = w.cell? ⟨b, o, none⟩ := x.2.cell (p := ⟨b, o, none⟩) h

/-- A region that draws its order, whose operations only read and whose callees only make new blocks: walked once, in the order of the text. -/
theorem wp_region_mild {P : Program} {id : Nat} {Q : Exit → Act → World → Prop} {a : Act} {w : World} {l : List Oper} (hm : P.follows .mixedOrders = true) (hB : Region.lexB .any l.toArray = true)
    (h : wpQuiet P l.toArray (fun w' => ∃ x : Ext w, w' = x.1) (fun a' => ∀ w', (∃ x : Ext w, w' = x.1) → Q .normal a' w') l a) : (Code.region id l.toArray true).wp P Q a w :=
  wp_region_quiet (C := fun w' => ∃ x : Ext w, w' = x.1) hm hB ⟨⟨w.drew, (Below.refl _ _).drew⟩, rfl⟩ (by simpa using h)

theorem mild_of {P : Program} {f : FuncId} {args : Array Value} {w : World} {x : Ext w} {v : Value} (h : Calls P f args x.1 fun e w' => e = .returned v ∧ Below x.1.heap.size x.1 w') :
    Calls P f args x.1 fun e w'' => e = .returned v ∧ ∃ y : Ext w, w'' = y.1 :=
  h.mono fun _ w' ⟨he, hb⟩ => ⟨he, ⟨w', x.2.trans (hb.mono x.2.size)⟩, rfl⟩

section
variable {P : Program} {w : World}
/-- A whole struct read out of a row. -/
theorem wpList_load_cells {ops : Array Oper} {rest : List Oper} {o : Oper} {a : Act} {Q : Exit → Act → World → Prop} (hgd : o.guard = none) (ty : TypeId) (p : Operand) (ho : o.op = .load ty p)
    {fs : Array Field} (hu : P.underlying ty = some (.struct fs)) {zv : Option Value} {W bytes : Nat} (hinfo : (P.info? ty).map (fun i => (i.zero, i.size, i.bytes)) = some (zv, W, bytes))
    {b k : Nat} {ys : List Value} (hx : a.eval p = .pointer (some ⟨b, k, none⟩)) (hl : ys.length = W) (hc : ∀ j u, ys[j]? = some u → w.cell? ⟨b, k + j, none⟩ = some u)
    (h : wpList P ops Q rest (a.put o.dst (.agg ys.toArray)) w) : wpList P ops Q (o :: rest) a w := by
  have hrun : (loadVar ty ⟨b, k, none⟩).run P w = .ok (.agg ys.toArray) w := by
    have h1 : (loadCells ⟨b, k, none⟩ ys.length).run P w = .ok ys.toArray w :=
      run_loadCells_list (P := P) w ⟨b, k, none⟩ ys (fun j v hv => by rw [Addr.add_lit]; exact hc j v hv)
    obtain ⟨i, hi, hzz⟩ := Option.map_eq_some_iff.1 hinfo
    simp only [Prod.mk.injEq] at hzz
    have hagg : (isAgg ty).run P w = .ok true w := by
      unfold isAgg
      rw [Sem.run_bind, run_underlying hu w]
      rfl
    have hs : i.size = ys.length := by omega
    simp [loadVar, Sem.run_bind, hagg, sizeOf, typeInfo, hi, hs, h1]
  refine wpList_plain hgd fun K hK => ?_
  unfold Oper.wp execOp
  simp only [ho, hx, Instr.loadAt, Instr.sureAddr, Sem.run_bind, Sem.run_pure, Result.andThen_ok, hrun]
  exact hK _ _ h
end

theorem bcell {w w1 : World} (hb : Below w.heap.size w w1) : (∀ b o, b < w.heap.size → w1.cell? ⟨b, o, none⟩ = w.cell? ⟨b, o, none⟩) ∧ (∀ b o, b < w.heap.size → w1.frozen? ⟨b, o, none⟩ = w.frozen? ⟨b, o, none⟩) :=
  ⟨fun b o h => hb.cell (p := ⟨b, o, none⟩) h, fun b o h => hb.frozen (p := ⟨b, o, none⟩) h⟩

end Go.Proofs.Ytmiboaogfjgkjaa

/- Slices of numbers and of texts: their size counts. Conditions: the count begins between 0 and 1048576. -/
namespace Go.Proofs.Ytmiboaogfjgkjaa
open Go.RowKit

theorem slAt_nil {w : World} : SlAt w (.slice none 0 0) [] [] := by
  unfold SlAt
  unfold Rep
  exact ⟨none, 0, rfl, Nat.le_refl _, by omega, .inl ⟨rfl, rfl⟩⟩
theorem intWds (xs : List Int) : ∀ d ∈ xs.map D.int, wd d = 1 := by intro d hd; obtain ⟨l, _, rfl⟩ := List.mem_map.1 hd; rfl
theorem strWds (xs : List ByteArray) : ∀ d ∈ xs.map D.str, wd d = 1 := by intro d hd; obtain ⟨l, _, rfl⟩ := List.mem_map.1 hd; rfl
theorem bkL_ints : ∀ (xs : List Int), bkL (xs.map D.int) = 0
  | [] => rfl
  | x :: xs => by simp only [List.map_cons, bkL, bk, bkL_ints xs]

theorem bnew {a w : World} (h : Below a.heap.size a w) (o : Obj) : Below a.heap.size a (w.alloc o) := h.alloc h.size o
theorem bnext {a w w1 : World} (h : Below a.heap.size a w) (k : Below w.heap.size w w1) : Below a.heap.size a w1 := h.trans (k.mono h.size)

/-- A size count: what is left, or -1. -/
def SzR (b : Nat) (left r : Int) : Prop := ((b : Int) ≤ left ∧ r = left - b) ∨ (left < b ∧ r = -1)

mutual
/-- How many nodes a datum has. -/
def nd : D → Nat
  | .int _ => 1
  | .byte _ => 1
  | .bool _ => 1
  | .str _ => 1
  | .agg fs => 1 + ndL fs
  | .sl es => 1 + ndL es
def ndL : List D → Nat
  | [] => 0
  | d :: ds => nd d + ndL ds
end
theorem ndL_get : ∀ (es : List D) (i : Nat) (h : i < es.length), nd es[i] ≤ ndL es
  | _ :: _, 0, _ => by simp only [List.getElem_cons_zero, ndL]; omega
  | _ :: es, i + 1, h => by
    have := ndL_get es i (by simpa using h)
    simp only [List.getElem_cons_succ, ndL]; omega

theorem szIntS_any (w : World) (v : Value) (xs : List Int) (F : List Nat) (left : Int) (h : SlAt w v (xs.map D.int) F) (h0 : 0 ≤ left) (h1 : left ≤ 1048576) :
    Calls Try.prog 173 #[v, .int .i64 left] w fun e w' => ∃ r, e = .returned (.int .i64 r) ∧ SzR (xs.length + bkL (xs.map D.int)) left r ∧ Below w.heap.size w w' := by
  obtain ⟨A, c, rfl, hn, hc⟩ := h.form
  rw [List.length_map] at hn ⊢
  go_enter Try.func173, Try.ntmps173
  go_wp2_with fail
  all_goals go_ret
  all_goals exact ⟨_, rfl, by unfold SzR; rw [bkL_ints]; omega, Below.refl _ _⟩

set_option maxHeartbeats 400000 in
theorem szStringS_any (w : World) (v : Value) (xs : List ByteArray) (F : List Nat) (left : Int) (h : SlAt w v (xs.map D.str) F) (h0 : 0 ≤ left) (h1 : left ≤ 1048576) :
    Calls Try.prog 110 #[v, .int .i64 left] w fun e w' => ∃ r, e = .returned (.int .i64 r) ∧ SzR (xs.length + bkL (xs.map D.str)) left r ∧ Below w.heap.size w w' := by
  obtain ⟨A, c, rfl, hn, hc⟩ := h.form
  rw [List.length_map] at hn h ⊢
  by_cases hfirst : left < xs.length
  · have hd : decide (left - (xs.length : Int) < 0) = true := by simp; omega
    go_enter Try.func110, Try.ntmps110
    go_wp2_with fail
    go_ret
    exact ⟨_, rfl, by unfold SzR; omega, Below.refl _ _⟩
  have hd : decide (left - (xs.length : Int) < 0) = false := by simp; omega
  go_enter Try.func110, Try.ntmps110
  go_wp2_with fail
  go_loopw [1, 5] (fun l i wr => ∃ k : Nat, k ≤ xs.length ∧ i = .int .i64 k ∧ l = .int .i64 (left - xs.length - bkL ((xs.map D.str).take k)) ∧ (bkL ((xs.map D.str).take k) : Int) ≤ left - xs.length ∧ Below w.heap.size w wr) (fun _ i _ => xs.length - (intOf i).toNat)
  case atStart => exact ⟨0, Nat.zero_le _, rfl, by simp [bkL], by simp [bkL]; omega, Below.refl _ _⟩
  case round =>
    obtain ⟨k, hk, rfl, rfl, hbk, hb⟩ := hrel
    by_cases hlt : k < xs.length
    · have e1 := bkL_take_succ (xs.map D.str) k (by simpa using hlt)
      have e2 := bkL_take_le (xs.map D.str) (k + 1)
      obtain ⟨b, off, ys, Fi, rfl, hbl, _, hr, hlen, _, hcell⟩ := (h.below hb).at_ (i := k) (strWds xs) (by simpa using hlt)
      simp only [List.getElem_map, rep_str] at hr
      obtain ⟨rfl, _, hS⟩ := hr
      have hS' : xs[k].size ≤ 9223372036854775807 := hS
      have c0 : wr.cell? ⟨b, off + k, none⟩ = some (.string xs[k]) := by simpa using hcell 0 (.string xs[k]) rfl
      simp only [List.getElem_map, bk] at e1
      have E1 : Hid _ := Lib.hid e1
      clear e1 hcell hlen
      by_cases g1 : (xs[k].size : Int) ≤ left - xs.length - bkL ((xs.map D.str).take k)
      · go_wp2_with fail
        go_roundw
        case rel => exact ⟨k + 1, by omega, by go_num, by rw [E1.out]; go_num, by rw [E1.out]; omega, hb⟩
        case measure => simp [intOf]; omega
      · go_wp2_with fail
        go_ret
        have := E1.out
        exact ⟨_, rfl, by unfold SzR; omega, hb⟩
    · have hk' : k = xs.length := by omega
      have ht : (xs.map D.str).take k = xs.map D.str := List.take_of_length_le (by simp; omega)
      rw [ht] at hbk ⊢
      clear ht
      go_wp2_with fail
      go_ret
      exact ⟨_, rfl, by unfold SzR; omega, hb⟩
end Go.Proofs.Ytmiboaogfjgkjaa

/- A datum whose blocks are all new and met once: kept by stores elsewhere and by new blocks. -/
namespace Go.Proofs.Ytmiboaogfjgkjaa
open Go.RowKit

/-- The cells read as d, and every block that is gone through is new (from B on), met once, not frozen. -/
def NewD (B : Nat) (w : World) (d : D) (cs : List Value) (F : List Nat) : Prop := Rep w d cs F ∧ Fr B w F

theorem size_set (w : World) (p : Addr) (u : Value) : (w.setCell p u).heap.size = w.heap.size := by simp [World.setCell]
theorem Same.set {w : World} {p : Addr} {u : Value} {F : List Nat} (h : p.block ∉ F) : Same w (w.setCell p u) F :=
  ⟨by rw [size_set]; exact Nat.le_refl _, fun b hb => Below.heap_setCell _ _ _ _ (fun e => h (e ▸ hb))⟩
theorem Rep.set {w : World} {d : D} {cs : List Value} {F : List Nat} (h : Rep w d cs F) {p : Addr} (hp : p.block ∉ F) (u : Value) : Rep (w.setCell p u) d cs F := h.keep (Same.set hp)
theorem NewD.set {B : Nat} {w : World} {d : D} {cs : List Value} {F : List Nat} (h : NewD B w d cs F) {p : Addr} (hp : p.block < B) (u : Value) : NewD B (w.setCell p u) d cs F := by
  have hn : p.block ∉ F := fun hm => by have := (h.2.2 _ hm).1; omega
  exact ⟨h.1.set hn u, h.2.keep (Same.set hn)⟩
theorem NewD.next {B : Nat} {w w' : World} {d : D} {cs : List Value} {F : List Nat} (h : NewD B w d cs F) (hb : Below w.heap.size w w') : NewD B w' d cs F := ⟨h.1.below hb, h.2.below hb⟩
theorem NewD.new {B : Nat} {w : World} {d : D} {cs : List Value} {F : List Nat} (h : NewD B w d cs F) (o : Obj) : NewD B (w.alloc o) d cs F := h.next ((Below.refl _ _).alloc (Nat.le_refl _) o)
theorem NewD.mono {B B' : Nat} {w : World} {d : D} {cs : List Value} {F : List Nat} (h : NewD B w d cs F) (hB : B' ≤ B) : NewD B' w d cs F := ⟨h.1, h.2.mono hB⟩

/-- One behind the other: F was there (below K) when G was made (from K on). -/
theorem Fr.two {B B' K : Nat} {w : World} {F G : List Nat} (h : Fr B w F) (k : Fr B' w G) (hF : ∀ b ∈ F, b < K) (hK : K ≤ B') (hB : B ≤ B') : Fr B w (F ++ G) :=
  h.append (k.mono hB) fun b hb hb' => by have := hF b hb; have := (k.2 b hb').1; omega

theorem NewD.rep {B : Nat} {w : World} {d : D} {cs : List Value} {F : List Nat} (h : NewD B w d cs F) : Rep w d cs F := h.1
theorem NewD.low {B B' : Nat} {w : World} {d : D} {cs : List Value} {F : List Nat} (h : NewD B w d cs F) (hB : B' ≤ B) : Fr B' w F := h.2.mono hB
theorem NewD.sl {B : Nat} {w : World} {A : Option Addr} {n c : Nat} {es : List D} {F : List Nat} (h : SlAt w (.slice A n c) es F) (k : Fr B w F) : NewD B w (.sl es) [.slice A n c] F := ⟨h, k⟩
theorem Fr.cat {B K : Nat} {w : World} {F G : List Nat} (h : Fr B w F) (k : Fr B w G) (hF : ∀ b ∈ F, b < K) (hG : ∀ b ∈ G, K ≤ b) : Fr B w (F ++ G) :=
  h.append k fun b hb hb' => by have := hF b hb; have := hG b hb'; omega
theorem repL_of {w : World} {ds : List D} {cs cs' : List Value} {F F' : List Nat} (h : RepL w ds cs F) (h1 : cs = cs') (h2 : F = F') : RepL w ds cs' F' := h1 ▸ h2 ▸ h
theorem bset {a w : World} (h : Below a.heap.size a w) {p : Addr} (hp : a.heap.size ≤ p.block) (u : Value) : Below a.heap.size a (w.setCell p u) := h.setCell hp u

theorem cell_new (w : World) (cs : Array Value) (t : TypeId) (j : Nat) (u : Value) (h : cs[j]? = some u) : (w.alloc (.cells cs t)).cell? ⟨w.heap.size, j, none⟩ = some u :=
  (cell_of_row _ _ j cs t (0, 0) (heap_alloc_new w _)).trans h
/-- A cell that was there is there behind a call that only makes new blocks. -/
theorem cell_next {w w1 : World} (hb : Below w.heap.size w w1) {b o : Nat} {u : Value} (h : w.cell? ⟨b, o, none⟩ = some u) : w1.cell? ⟨b, o, none⟩ = some u :=
  (hb.cell (p := ⟨b, o, none⟩) (World.block_lt_of_cell? w _ h)).trans h
theorem cell_old {w : World} {b o : Nat} {u : Value} (h : w.cell? ⟨b, o, none⟩ = some u) (x : Obj) : (w.alloc x).cell? ⟨b, o, none⟩ = some u := cell_next ((Below.refl _ _).alloc (Nat.le_refl _) x) h
/-- A number of bytes that a slice may take. -/
theorem mul_le_of {n b k : Nat} (h : n ≤ k) (hb : b * k ≤ 281474976710656) : b * n ≤ 281474976710656 := Nat.le_trans (Nat.mul_le_mul_left _ h) hb

theorem toWds {α : Type} {f : α → D} {W : Nat} (xs : List α) (hf : ∀ d ∈ xs.map f, wd d = W) (k m : Nat) (x z : D) (hx : wd x = W) (hz : wd z = W) : ∀ d ∈ (xs.map f).take k ++ x :: List.replicate m z, wd d = W := by
  intro d hd
  simp only [List.mem_append, List.mem_cons, List.mem_replicate] at hd
  rcases hd with hd | rfl | ⟨_, rfl⟩
  · exact hf d (List.mem_of_mem_take hd)
  · exact hx
  · exact hz
theorem toRep {z : D} {n k : Nat} (h : k < n) : List.replicate (n - k) z = z :: List.replicate (n - (k + 1)) z := by
  rw [← List.replicate_succ]; congr 1; omega
theorem toTake {α : Type} {f : α → D} {xs : List α} {k : Nat} {z : List D} (h : k < xs.length) : (xs.map f).take k ++ f xs[k] :: z = (xs.map f).take (k + 1) ++ z := by
  rw [List.take_succ_eq_append_getElem (by simpa using h)]
  simp
end Go.Proofs.Ytmiboaogfjgkjaa

/- The text that marks a place: it hangs on the number alone. Conditions: the number is between 0 and 1099511627776. -/
namespace Go.Proofs.Ytmiboaogfjgkjaa
open Go.RowKit

/-- The decimal digits, the last ones first gathered. -/
def digs : Nat → Nat → List UInt8 → List UInt8
  | 0, _, acc => acc
  | f + 1, n, acc => if n = 0 then acc else digs f (n / 10) (UInt8.ofNat (48 + n % 10) :: acc)
theorem digs_len : ∀ f n acc, (digs f n acc).length ≤ acc.length + f
  | 0, _, _ => by simp [digs]
  | f + 1, n, acc => by
    unfold digs
    split
    · omega
    · have := digs_len f (n / 10) (UInt8.ofNat (48 + n % 10) :: acc)
      simp only [List.length_cons] at this
      omega
/-- The mark of the number k. -/
def mText (k : Int) : ByteArray := if k ≤ 0 then ⟨#[109, 48]⟩ else ⟨(109 :: digs k.toNat k.toNat []).toArray⟩
theorem mText_fits {k : Int} (h : k ≤ 1099511627776) : Fits (mText k) := by
  unfold mText Fits
  split
  · decide
  · have := digs_len k.toNat k.toNat []
    show (List.toArray _).size ≤ _
    simp only [List.size_toArray, List.length_cons, List.length_nil] at this ⊢
    omega

theorem oneByte (w : World) (m : Int) : (convert 211 9 (.slice (some ⟨w.heap.size, 0, none⟩) 1 1)).run Try.prog (w.alloc (.cells #[.int .u8 m] 5)) = .ok (.string (strOfNums [m])) (w.alloc (.cells #[.int .u8 m] 5)) :=
  run_convert_bytes_arg _ 211 5 Try.underlying211 Try.underlying5 _ 0 1 1 [m] rfl (fun i hi => by
    obtain rfl : i = 0 := by omega
    simp) 9 Try.underlying9
theorem oneByte_cat (r : Nat) (acc : List UInt8) : strOfNums [48 + (r : Int) % 10] ++ ⟨acc.toArray⟩ = ⟨(UInt8.ofNat (48 + r % 10) :: acc).toArray⟩ := by
  have e : (48 + (r : Int) % 10).toNat = 48 + r % 10 := by omega
  apply ByteArray.ext
  rw [ByteArray.data_append]
  simp [strOfNums, e]
theorem mark_cat (acc : List UInt8) : (⟨#[109]⟩ : ByteArray) ++ ⟨acc.toArray⟩ = ⟨(109 :: acc).toArray⟩ := by
  apply ByteArray.ext
  rw [ByteArray.data_append]
  simp

set_option maxHeartbeats 1000000 in
set_option maxRecDepth 100000 in
theorem markText_any (k : Int) (w : World) (h1 : k ≤ 1099511627776) :
    Calls Try.prog 95 #[.int .i64 k] w fun e w' => e = .returned (.string (mText k)) ∧ Below w.heap.size w w' := by
  by_cases h0 : k ≤ 0
  · go_enter Try.func95, Try.ntmps95
    go_wp2_with fail
    go_ret
    exact ⟨by unfold mText; rw [if_pos h0]; rfl, Below.refl _ _⟩
  · have hfin : mText k = ⟨(109 :: digs k.toNat k.toNat []).toArray⟩ := by unfold mText; rw [if_neg h0]
    have HF := Lib.hid hfin
    clear hfin
    obtain ⟨n, rfl⟩ := Int.eq_ofNat_of_zero_le (show 0 ≤ k by omega)
    rw [Int.toNat_natCast] at HF
    have hd : decide ((n : Int) ≤ 0) = false := by simp; omega
    go_enter Try.func95, Try.ntmps95
    go_wp2_with fail
    go_loopw [0, 3] (fun kk out wr => ∃ (r f : Nat) (acc : List UInt8), kk = .int .i64 r ∧ r ≤ f ∧ r ≤ n ∧ out = .string ⟨acc.toArray⟩ ∧ digs f r acc = digs n n [] ∧ acc.length + r ≤ n ∧ Below w.heap.size w wr) (fun kk _ _ => (intOf kk).toNat)
    case atStart => exact ⟨n, n, [], rfl, Nat.le_refl _, Nat.le_refl _, rfl, rfl, by simp, Below.refl _ _⟩
    case round =>
      obtain ⟨r, f, acc, rfl, hrf, hrn, rfl, hdig, hlen, hb⟩ := hrel
      have HD := Lib.hid hdig
      clear hdig
      by_cases hr : r = 0
      · subst hr
        go_wp2_with fail
        go_ret
        refine ⟨?_, hb⟩
        show Ending.returned (.string _) = _
        rw [HF.out, mark_cat, ← HD.out]
        cases f <;> rfl
      · have hr0 : 0 < r := by omega
        have kc := oneByte
        have hz : (strOfNums [48 + (r : Int) % 10]).size = 1 := by rw [strOfNums_size]; rfl
        have hac : (⟨acc.toArray⟩ : ByteArray).size = acc.length := by show acc.toArray.size = _; simp
        go_wp2_with fail
        go_roundw
        case rel =>
          obtain ⟨g, rfl⟩ : ∃ g, f = g + 1 := ⟨f - 1, by omega⟩
          refine ⟨r / 10, g, UInt8.ofNat (48 + r % 10) :: acc, by go_num, by omega, by omega, by rw [oneByte_cat], ?_, by simp only [List.length_cons]; omega, bnew hb _⟩
          rw [← HD.out]
          conv => rhs; unfold digs
          rw [if_neg hr]
        case measure => simp [intOf]; omega
end Go.Proofs.Ytmiboaogfjgkjaa

/- Marks written into what one call has made: lists marked element by element, and the worlds between. -/
namespace Go.Proofs.Ytmiboaogfjgkjaa
open Go.RowKit

/-- Marks over a list: each element is marked behind the marks of those before it. -/
def mkL {α : Type} (mk : α → Int → α) (cn : α → Nat) : List α → Int → List α
  | [], _ => []
  | x :: xs, k => mk x k :: mkL mk cn xs (k + cn x)
def cnS {α : Type} (cn : α → Nat) : List α → Nat
  | [] => 0
  | x :: xs => cn x + cnS cn xs
section
variable {α : Type} {mk : α → Int → α} {cn : α → Nat}
theorem mkL_length : ∀ (xs : List α) (k : Int), (mkL mk cn xs k).length = xs.length
  | [], _ => rfl
  | x :: xs, k => by simp only [mkL, List.length_cons, mkL_length xs]
theorem cnS_append : ∀ (xs ys : List α), cnS cn (xs ++ ys) = cnS cn xs + cnS cn ys
  | [], ys => by simp [cnS]
  | x :: xs, ys => by simp only [List.cons_append, cnS, cnS_append xs]; omega
theorem mkL_append : ∀ (xs ys : List α) (k : Int), mkL mk cn (xs ++ ys) k = mkL mk cn xs k ++ mkL mk cn ys (k + cnS cn xs)
  | [], ys, k => by simp [mkL, cnS]
  | x :: xs, ys, k => by
    simp only [List.cons_append, mkL, cnS, mkL_append xs]
    rw [show k + ((cn x + cnS cn xs : Nat) : Int) = k + cn x + cnS cn xs from by omega]
theorem cnS_take_succ (xs : List α) (i : Nat) (h : i < xs.length) : cnS cn (xs.take (i + 1)) = cnS cn (xs.take i) + cn xs[i] := by
  rw [List.take_succ_eq_append_getElem h, cnS_append]; simp [cnS]
theorem cnS_take_le (xs : List α) (i : Nat) : cnS cn (xs.take i) ≤ cnS cn xs := by
  have h := cnS_append (cn := cn) (xs.take i) (xs.drop i)
  rw [List.take_append_drop] at h; omega
theorem mkL_take_succ (xs : List α) (i : Nat) (k : Int) (h : i < xs.length) : mkL mk cn (xs.take (i + 1)) k = mkL mk cn (xs.take i) k ++ [mk xs[i] (k + cnS cn (xs.take i))] := by
  rw [List.take_succ_eq_append_getElem h, mkL_append]; rfl
theorem mkL_get (xs : List α) (i : Nat) (k : Int) (h : i < xs.length) : (mkL mk cn xs k)[i]'(by rw [mkL_length]; exact h) = mk xs[i] (k + cnS cn (xs.take i)) := by
  have e : xs = xs.take i ++ xs[i] :: xs.drop (i + 1) := by rw [List.getElem_cons_drop, List.take_append_drop]
  have h1 : mkL mk cn xs k = mkL mk cn (xs.take i) k ++ (mk xs[i] (k + cnS cn (xs.take i)) :: mkL mk cn (xs.drop (i + 1)) (k + cnS cn (xs.take i) + cn xs[i])) := by
    conv => lhs; rw [e]
    rw [mkL_append]; rfl
  have hl : (mkL mk cn (xs.take i) k).length = i := by rw [mkL_length, List.length_take]; omega
  have h2 : (mkL mk cn xs k)[i]? = some (mk xs[i] (k + cnS cn (xs.take i))) := by
    rw [h1, List.getElem?_append_right (by omega), hl]; simp
  have h3 := List.getElem?_eq_getElem (l := mkL mk cn xs k) (i := i) (by rw [mkL_length]; exact h)
  rw [h3] at h2
  exact Option.some.inj h2
end

/-- Only blocks of F, and new ones, differ. -/
structure Off (F : List Nat) (w w' : World) : Prop where
  os : w'.os = w.os
  tape : w'.tape = w.tape
  output : w'.output = w.output
  size : w.heap.size ≤ w'.heap.size
  block : ∀ b, b < w.heap.size → b ∉ F → w'.heap[b]? = w.heap[b]?

section
variable {F G : List Nat} {w w' w1 : World}
theorem Off.refl (F : List Nat) (w : World) : Off F w w := ⟨rfl, rfl, rfl, Nat.le_refl _, fun _ _ _ => rfl⟩
theorem Off.trans (h : Off F w w') (k : Off F w' w1) : Off F w w1 :=
  ⟨k.os.trans h.os, k.tape.trans h.tape, k.output.trans h.output, Nat.le_trans h.size k.size, fun b hb hF => (k.block b (Nat.lt_of_lt_of_le hb h.size) hF).trans (h.block b hb hF)⟩
theorem Off.sub (h : Off F w w') (hs : ∀ b ∈ F, b ∈ G) : Off G w w' := ⟨h.os, h.tape, h.output, h.size, fun b hb hG => h.block b hb fun hF => hG (hs b hF)⟩
theorem Off.of_below (h : Below w.heap.size w w') : Off F w w' := ⟨h.os, h.tape, h.output, h.size, fun b hb _ => h.block b hb⟩
theorem Off.set (w : World) {p : Addr} (hp : p.block ∈ F) (u : Value) : Off F w (w.setCell p u) :=
  ⟨rfl, rfl, rfl, by rw [size_set]; exact Nat.le_refl _, fun b _ hF => Below.heap_setCell _ _ _ _ (fun e => hF (e ▸ hp))⟩
theorem Off.below {B : Nat} (h : Off F w w') (hB : B ≤ w.heap.size) (hF : ∀ b ∈ F, B ≤ b) : Below B w w' :=
  ⟨h.os, h.tape, h.output, h.size, fun b hb => h.block b (by omega) fun hm => by have := hF b hm; omega⟩
theorem Off.cell (h : Off F w w') {b o : Nat} {u : Value} (hF : b ∉ F) (hc : w.cell? ⟨b, o, none⟩ = some u) : w'.cell? ⟨b, o, none⟩ = some u :=
  (World.cell?_of_block (w := w) (w' := w') (a := ⟨b, o, none⟩) (h.block b (World.block_lt_of_cell? w _ hc) hF)).trans hc
theorem Off.same (h : Off F w w') (hG : ∀ b ∈ G, b < w.heap.size) (hd : ∀ b ∈ G, b ∉ F) : Same w w' G := ⟨h.size, fun b hb => h.block b (hG b hb) (hd b hb)⟩
theorem Off.rep {d : D} {cs : List Value} (h : Off F w w') (k : Rep w d cs G) (hd : ∀ b ∈ G, b ∉ F) : Rep w' d cs G := k.keep (h.same k.lt hd)
theorem Off.plain (h : Off F w w') {b : Nat} (k : Plain w b) (hF : b ∉ F) : Plain w' b := by
  obtain ⟨cur, t, e⟩ := k
  exact ⟨cur, t, (h.block b (Array.getElem?_eq_some_iff.1 e).1 hF).trans e⟩
theorem Plain.set {b : Nat} (k : Plain w b) (p : Addr) (u : Value) : Plain (w.setCell p u) b := by
  obtain ⟨cur, t, e⟩ := k
  by_cases hb : b = p.block
  · subst hb
    by_cases hs : p.spot.isSome = true
    · exact ⟨cur, t, by simp [World.setCell, Array.getElem?_modify, e, hs]⟩
    · exact ⟨cur.setIfInBounds p.off u, t, by simp [World.setCell, Array.getElem?_modify, e, hs]⟩
  · exact ⟨cur, t, (Below.heap_setCell _ _ _ _ hb).trans e⟩
theorem Plain.next {b : Nat} (k : Plain w b) (h : Below w.heap.size w w') : Plain w' b := by
  obtain ⟨cur, t, e⟩ := k
  exact ⟨cur, t, (h.block b (Array.getElem?_eq_some_iff.1 e).1).trans e⟩
theorem Plain.free {b : Nat} (k : Plain w b) (o : Nat) : w.frozen? ⟨b, o, none⟩ = false := by
  obtain ⟨cur, t, e⟩ := k
  exact frozen_of_row w b o cur t e
end

/-- While one element is marked: wr the world at its start, b the slice's block, lo .. hi the element's places, Fi the blocks that it goes through. -/
structure Trk (wr W : World) (b lo hi : Nat) (Fi : List Nat) : Prop where
  off : Off (b :: Fi) wr W
  out : ∀ o, (o < lo ∨ hi ≤ o) → W.cell? ⟨b, o, none⟩ = wr.cell? ⟨b, o, none⟩
  here : Plain W b
  inner : ∀ q ∈ Fi, Plain W q
section
variable {wr W W1 : World} {b lo hi : Nat} {Fi : List Nat}
theorem Trk.start (h : Plain wr b) (k : ∀ q ∈ Fi, Plain wr q) : Trk wr wr b lo hi Fi := ⟨Off.refl _ _, fun _ _ => rfl, h, k⟩
theorem Trk.set (h : Trk wr W b lo hi Fi) (j : Nat) (hj : lo + j < hi) (u : Value) : Trk wr (W.setCell ⟨b, lo + j, none⟩ u) b lo hi Fi :=
  ⟨h.off.trans (Off.set W (by simp) u), fun o ho => (World.cell?_setCell_other W ⟨b, lo + j, none⟩ ⟨b, o, none⟩ u (fun e => by injection e with _ e; omega)).trans (h.out o ho), h.here.set _ _, fun q hq => (h.inner q hq).set _ _⟩
theorem Trk.next (h : Trk wr W b lo hi Fi) (hb : Below W.heap.size W W1) : Trk wr W1 b lo hi Fi :=
  ⟨h.off.trans (Off.of_below hb), fun o ho => (hb.cell (p := ⟨b, o, none⟩) h.here.lt).trans (h.out o ho), h.here.next hb, fun q hq => (h.inner q hq).next hb⟩
theorem Trk.step {G : List Nat} (h : Trk wr W b lo hi Fi) (k : Off G W W1) (hG : ∀ q ∈ G, q ∈ Fi) (hbG : b ∉ G) (hp : ∀ q ∈ G, Plain W1 q) : Trk wr W1 b lo hi Fi := by
  refine ⟨h.off.trans (k.sub fun q hq => List.mem_cons_of_mem _ (hG q hq)), fun o ho => ?_, k.plain h.here hbG, fun q hq => ?_⟩
  · exact (World.cell?_of_block (w := W) (w' := W1) (a := ⟨b, o, none⟩) (k.block b h.here.lt hbG)).trans (h.out o ho)
  · by_cases hm : q ∈ G
    · exact hp q hm
    · exact k.plain (h.inner q hq) hm
theorem CellsAt.setAt {ys : List Value} (h : CellsAt W b lo ys) (j : Nat) (hj : j < ys.length) (u : Value) : CellsAt (W.setCell ⟨b, lo + j, none⟩ u) b lo (ys.set j u) := by
  intro i v hv
  by_cases e : i = j
  · subst e
    rw [List.getElem?_set_self hj] at hv
    obtain rfl := Option.some.inj hv
    have h0 := h i _ (List.getElem?_eq_getElem hj)
    exact World.cell?_setCell_same W ⟨b, lo + i, none⟩ _ h0
  · rw [List.getElem?_set_ne (fun h => e h.symm)] at hv
    rw [World.cell?_setCell_other _ _ _ _ (fun e' => by injection e' with _ e'; omega)]
    exact h i v hv
theorem CellsAt.next {ys : List Value} (h : CellsAt W b lo ys) (hb : Below W.heap.size W W1) : CellsAt W1 b lo ys := fun j u hu => cell_next hb (h j u hu)
theorem CellsAt.step {G : List Nat} {ys : List Value} (h : CellsAt W b lo ys) (k : Off G W W1) (hb : b ∉ G) : CellsAt W1 b lo ys := fun j u hu => k.cell hb (h j u hu)
end

/-- One element taken out of a slice, and put back marked. -/
theorem SlAt.take_out {w : World} {A : Option Addr} {n c W : Nat} {ds es : List D} {x : D} {F : List Nat} (h : SlAt w (.slice A n c) (ds ++ x :: es) F) (hW : ∀ d ∈ ds ++ x :: es, wd d = W) (hW0 : 0 < W) (hn : F.Nodup) :
    ∃ b off ys Fi, A = some ⟨b, off, none⟩ ∧ b ∈ F ∧ b ∉ Fi ∧ Fi.Nodup ∧ (∀ q ∈ Fi, q ∈ F) ∧ Rep w x ys Fi ∧ ys.length = W ∧ CellsAt w b (off + ds.length * W) ys ∧
      ∀ (w' : World) (x' : D) (ys' : List Value), ys'.length = W → Rep w' x' ys' Fi → CellsAt w' b (off + ds.length * W) ys' → Trk w w' b (off + ds.length * W) (off + ds.length * W + W) Fi →
        SlAt w' (.slice A n c) (ds ++ x' :: es) F := by
  have h' := h
  unfold SlAt at h'
  unfold Rep at h'
  obtain ⟨A', c', e1, e2, e3, e4⟩ := h'
  have ea : A = A' ∧ n = (ds ++ x :: es).length ∧ c = c' := by
    injection e1 with e1 _; injection e1 with a1 a2 a3; exact ⟨a1, a2, a3⟩
  obtain ⟨rfl, rfl, rfl⟩ := ea
  rcases e4 with ⟨e4, _⟩ | ⟨b, off, xs, Fs, rfl, hb, rfl, hc, hr⟩
  · simp at e4
  obtain ⟨c1, c2, F1, F2, rfl, rfl, r1, r2⟩ := RepL.split hr
  simp only [RepL] at r2
  obtain ⟨c3, c4, F3, F4, rfl, rfl, r3, r4⟩ := r2
  have hnd := List.nodup_cons.1 hn
  have l1 : c1.length = ds.length * W := by rw [r1.len, wdL_uniform (W := W) _ (fun d hd => hW d (by simp [hd]))]
  have l3 : c3.length = W := by rw [r3.len]; exact hW x (by simp)
  have hn2 := List.nodup_append.1 hnd.2
  have hn3 := List.nodup_append.1 hn2.2.1
  refine ⟨b, off, c3, F3, rfl, by simp, fun hm => hnd.1 (by simp [hm]), hn3.1, fun q hq => by simp [hq], r3, l3, ?_, ?_⟩
  · intro j u hu
    have := hc (ds.length * W + j) u (by rw [List.getElem?_append_right (by omega), List.getElem?_append_left (by rw [l1]; have := (List.getElem?_eq_some_iff.1 hu).1; omega), l1, show ds.length * W + j - ds.length * W = j from by omega]; exact hu)
    rwa [Nat.add_assoc]
  · intro w' x' ys' hl hx' hys ht
    have keep1 : Same w w' F1 := ⟨ht.off.size, fun q hq => ht.off.block q (r1.lt q hq) (fun hm => by
      rcases List.mem_cons.1 hm with rfl | hm
      · exact hnd.1 (by simp [hq])
      · exact hn2.2.2 q hq q (by simp [hm]) rfl)⟩
    have keep4 : Same w w' F4 := ⟨ht.off.size, fun q hq => ht.off.block q (r4.lt q hq) (fun hm => by
      rcases List.mem_cons.1 hm with rfl | hm
      · exact hnd.1 (by simp [hq])
      · exact hn3.2.2 q hm q hq rfl)⟩
    unfold SlAt
    unfold Rep
    refine ⟨some ⟨b, off, none⟩, c, by simp, by simpa using e2, e3, .inr ⟨b, off, c1 ++ (ys' ++ c4), F1 ++ (F3 ++ F4), rfl, Nat.lt_of_lt_of_le hb ht.off.size, rfl, ?_, ?_⟩⟩
    · intro j u hu
      by_cases hj1 : j < ds.length * W
      · rw [List.getElem?_append_left (by omega)] at hu
        rw [ht.out (off + j) (by left; omega)]
        exact hc j u (by rw [List.getElem?_append_left (by omega)]; exact hu)
      · by_cases hj2 : j < ds.length * W + W
        · rw [List.getElem?_append_right (by omega), List.getElem?_append_left (by omega), l1] at hu
          have := hys (j - ds.length * W) u hu
          rwa [show off + ds.length * W + (j - ds.length * W) = off + j from by omega] at this
        · rw [List.getElem?_append_right (by omega), List.getElem?_append_right (by omega), l1, hl] at hu
          rw [ht.out (off + j) (by right; omega)]
          exact hc j u (by rw [List.getElem?_append_right (by omega), List.getElem?_append_right (by omega), l1, l3]; exact hu)
    · exact (r1.keep keep1).append (by simp only [RepL]; exact ⟨ys', c4, F3, F4, rfl, rfl, hx', r4.keep keep4⟩)

theorem mk_intE {w : World} {a b : Int} (h : I64 b) (e : a = b) : Rep w (.int a) [.int .i64 b] [] := by subst e; exact mk_int h
theorem mk_boolE {w : World} {a b : Bool} (e : a = b) : Rep w (.bool a) [.bool b] [] := by subst e; exact mk_bool
theorem mk_strE {w : World} {k k' : Int} (h : k' ≤ 1099511627776) (e : k = k') : Rep w (.str (mText k)) [.string (mText k')] [] := by subst e; exact mk_str (mText_fits h)
theorem mk_slE {w : World} {A : Option Addr} {n c : Nat} {es es' : List D} {F : List Nat} (h : SlAt w (.slice A n c) es F) (e : es' = es) : Rep w (.sl es') [.slice A n c] F := by subst e; exact h
theorem i64_mid {k : Int} (h0 : 0 ≤ k) (h1 : k ≤ 1099511627776) : I64 k := by unfold I64; omega
theorem Trk.plains {wr W : World} {b lo hi : Nat} {Fi F : List Nat} (h : Trk wr W b lo hi Fi) (hp : ∀ q ∈ F, Plain wr q) : ∀ q ∈ F, Plain W q := by
  intro q hq
  by_cases e : q = b
  · subst e; exact h.here
  by_cases hm : q ∈ Fi
  · exact h.inner q hm
  · exact h.off.plain (hp q hq) (fun hm' => by rcases List.mem_cons.1 hm' with rfl | hm'; exact e rfl; exact hm hm')
theorem nodup_two {F G : List Nat} (h : (F ++ G).Nodup) : (∀ q ∈ F, q ∉ G) ∧ (∀ q ∈ G, q ∉ F) ∧ F.Nodup ∧ G.Nodup := by
  have h := List.nodup_append.1 h
  exact ⟨fun q hq hm => h.2.2 q hq q hm rfl, fun q hq hm => h.2.2 q hm q hq rfl, h.1, h.2.1⟩
theorem int_eq {a b : Int} (h : a = b) : Value.int .i64 a = .int .i64 b := by rw [h]
theorem rep_cs {w : World} {d : D} {cs cs' : List Value} {F : List Nat} (h : Rep w d cs F) (e : cs = cs') : Rep w d cs' F := e ▸ h
theorem slAt_n {w : World} {A : Option Addr} {n n' c : Nat} {es : List D} {F : List Nat} (h : SlAt w (.slice A n c) es F) (e : n' = n) : SlAt w (.slice A n' c) es F := e ▸ h
theorem plains_next {w w' : World} {F : List Nat} (h : ∀ q ∈ F, Plain w q) (hb : Below w.heap.size w w') : ∀ q ∈ F, Plain w' q := fun q hq => (h q hq).next hb
theorem notin_new {w w' : World} {G : List Nat} {b : Nat} (f : Fr w.heap.size w' G) (hb : b < w.heap.size) : b ∉ G := fun hm => by have := (f.2 b hm).1; omega
theorem apart_new {w w' : World} {F G : List Nat} (h : ∀ q ∈ F, Plain w q) (f : Fr w.heap.size w' G) : ∀ q ∈ F, q ∉ G := fun q h1 h2 => by have := (h q h1).lt; have := (f.2 q h2).1; omega
theorem low_new {a w w' : World} {G : List Nat} (f : Fr w.heap.size w' G) (hs : a.heap.size ≤ w.heap.size) : ∀ q ∈ G, a.heap.size ≤ q := fun q hq => Nat.le_trans hs (f.2 q hq).1
theorem cnS_le {α : Type} {cn : α → Nat} {d : α → D} {C : Nat} (h : ∀ x, cn x ≤ C * (1 + bk (d x))) : ∀ xs : List α, cnS cn xs ≤ C * (xs.length + bkL (xs.map d))
  | [] => by simp [cnS]
  | x :: xs => by
    have h1 := h x
    have h2 := cnS_le h xs
    simp only [cnS, List.length_cons, List.map_cons, bkL]
    rw [show xs.length + 1 + (bk (d x) + bkL (xs.map d)) = (1 + bk (d x)) + (xs.length + bkL (xs.map d)) from by omega, Nat.mul_add]
    omega
end Go.Proofs.Ytmiboaogfjgkjaa
