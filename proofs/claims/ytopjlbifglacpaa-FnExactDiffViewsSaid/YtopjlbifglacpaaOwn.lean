/- What a call has made itself: blocks that nobody else holds, slices that grow. -/
import Derived.Test.YtopjlbifglacpaaBase
import Derived.Maps.AppendAt
namespace Go.Proofs.Ytopjlbifglacpaa
open Go.RowKit

/-- Block b is a plain row, no cell of it frozen. -/
def Plain (w : World) (b : Nat) : Prop := ∃ cur t, w.heap[b]? = some (.cells cur t (0, 0))
/-- The blocks of F are new (from B on), each met once, each a plain row. -/
def Fr (B : Nat) (w : World) (F : List Nat) : Prop := F.Nodup ∧ ∀ b ∈ F, B ≤ b ∧ Plain w b

theorem Plain.lt {w : World} {b : Nat} (h : Plain w b) : b < w.heap.size := by
  obtain ⟨cur, t, h⟩ := h
  exact (Array.getElem?_eq_some_iff.1 h).1
theorem Fr.nil (B : Nat) (w : World) : Fr B w [] := ⟨List.nodup_nil, by simp⟩
theorem Fr.lt {B : Nat} {w : World} {F : List Nat} (h : Fr B w F) : ∀ b ∈ F, b < w.heap.size := fun b hb => (h.2 b hb).2.lt
theorem Fr.mono {B B' : Nat} {w : World} {F : List Nat} (h : Fr B w F) (hB : B' ≤ B) : Fr B' w F := ⟨h.1, fun b hb => ⟨Nat.le_trans hB (h.2 b hb).1, (h.2 b hb).2⟩⟩
theorem Fr.keep {B : Nat} {w w' : World} {F : List Nat} (h : Fr B w F) (hs : Same w w' F) : Fr B w' F :=
  ⟨h.1, fun b hb => ⟨(h.2 b hb).1, by obtain ⟨cur, t, e⟩ := (h.2 b hb).2; exact ⟨cur, t, (hs.2 b hb).trans e⟩⟩⟩
theorem Fr.below {B : Nat} {w w' : World} {F : List Nat} (h : Fr B w F) (hb : Below w.heap.size w w') : Fr B w' F := h.keep (Same.below hb h.lt)
theorem Fr.append {B : Nat} {w : World} {F G : List Nat} (h : Fr B w F) (k : Fr B w G) (hd : ∀ b ∈ F, b ∉ G) : Fr B w (F ++ G) := by
  refine ⟨List.nodup_append.2 ⟨h.1, k.1, fun a ha b hb e => hd a ha (e ▸ hb)⟩, fun b hb => ?_⟩
  rcases List.mem_append.1 hb with hb | hb
  · exact h.2 b hb
  · exact k.2 b hb
theorem Fr.left {B : Nat} {w : World} {F G : List Nat} (h : Fr B w (F ++ G)) : Fr B w F := ⟨(List.nodup_append.1 h.1).1, fun b hb => h.2 b (by simp [hb])⟩
theorem Fr.right {B : Nat} {w : World} {F G : List Nat} (h : Fr B w (F ++ G)) : Fr B w G := ⟨(List.nodup_append.1 h.1).2.1, fun b hb => h.2 b (by simp [hb])⟩
/-- What was new first, then what is newer. -/
theorem Fr.later {B : Nat} {w w' : World} {F G : List Nat} (h : Fr B w F) (hb : Below w.heap.size w w') (k : Fr w.heap.size w' G) (hB : B ≤ w.heap.size) : Fr B w' (F ++ G) :=
  (h.below hb).append (k.mono hB) fun b hF hG => by have := h.lt b hF; have := (k.2 b hG).1; omega
theorem Fr.later_right {B : Nat} {w w' : World} {F G : List Nat} (h : Fr B w F) (hb : Below w.heap.size w w') (k : Fr w.heap.size w' G) (hB : B ≤ w.heap.size) : Fr B w' (G ++ F) :=
  (k.mono hB).append (h.below hb) fun b hG hF => by have := h.lt b hF; have := (k.2 b hG).1; omega

/-- A slice under construction: the elements so far, and the blocks that they go through. -/
def Bld (B E W : Nat) (w : World) (v : Value) (es : List D) (Fs : List Nat) : Prop :=
  (∃ xs, w.ownsRow B E W v es.length xs ∧ RepL w es xs Fs) ∧ Fr B w Fs ∧ ∀ g, v.ownBlock = some g → g ∉ Fs

section
variable {B E W : Nat} {w w' : World} {v : Value} {es : List D} {Fs : List Nat}

theorem ownsRow_plain {n : Nat} {xs : List Value} (h : w.ownsRow B E W v n xs) : ∀ g, v.ownBlock = some g → B ≤ g ∧ Plain w g := by
  intro g hg
  rcases h.2 with ⟨rfl, _⟩ | ⟨g', cap, cur, rfl, hb, hh, _⟩
  · simp [Value.ownBlock] at hg
  · simp [Value.ownBlock] at hg
    subst hg
    exact ⟨hb, cur, _, hh⟩

theorem Bld.own (h : Bld B E W w v es Fs) : ∀ g, v.ownBlock = some g → B ≤ g ∧ g < w.heap.size := by
  obtain ⟨⟨xs, h, _⟩, _⟩ := h
  exact h.lt

theorem Bld.nil (B E W : Nat) (w : World) : Bld B E W w (.slice none 0 0) [] [] :=
  ⟨⟨[], World.ownsRow_nil w B E W, rfl, rfl⟩, Fr.nil B w, by simp⟩

/-- Blocks below the heap's size stay: what is under construction stays. -/
theorem Bld.below (h : Bld B E W w v es Fs) (hb : Below w.heap.size w w') : Bld B E W w' v es Fs := by
  obtain ⟨⟨xs, h1, h2⟩, h3, h4⟩ := h
  refine ⟨⟨xs, h1.kept (row := none) ⟨hb.os, hb.tape, hb.output, hb.size, fun k hk _ => hb.block k hk⟩ ?_, h2.below hb⟩, h3.below hb, h4⟩
  cases v.ownBlock <;> simp

/-- Done: a slice that reads as its elements, all of it new. -/
theorem Bld.done (h : Bld B E W w v es Fs) : ∃ F, SlAt w v es F ∧ Fr B w F ∧ ∀ b ∈ F, v.ownBlock = some b ∨ b ∈ Fs := by
  obtain ⟨⟨xs, h1, h2⟩, h3, h4⟩ := h
  rcases h1.2 with ⟨rfl, hn⟩ | ⟨g, cap, cur, rfl, hb, hh, hnc, hcm, hcs, htake⟩
  · have he : es = [] := List.eq_nil_of_length_eq_zero hn
    subst he
    exact ⟨[], ⟨none, 0, rfl, by simp, by omega, .inl ⟨rfl, rfl⟩⟩, Fr.nil _ _, by simp⟩
  · refine ⟨g :: Fs, ⟨some ⟨g, 0, none⟩, cap, rfl, hnc, hcm, .inr ⟨g, 0, xs, Fs, rfl, (Array.getElem?_eq_some_iff.1 hh).1, rfl, ?_, h2⟩⟩, ?_, ?_⟩
    · intro j u hu
      have := h1.cells (g := g) rfl j u hu
      rw [Addr.add_lit] at this
      exact this
    · refine ⟨List.nodup_cons.2 ⟨h4 g rfl, h3.1⟩, fun b hb' => ?_⟩
      rcases List.mem_cons.1 hb' with rfl | hb'
      · exact ⟨hb, cur, _, hh⟩
      · exact h3.2 b hb'
    · intro b hb'
      rcases List.mem_cons.1 hb' with rfl | hb'
      · exact .inl rfl
      · exact .inr hb'

/-- What stands behind an append of elements that read as `ys`. -/
theorem Bld.grow {w1 w2 : World} {v2 : Value} {ys : List D} {cs : List Value} {Fx : List Nat} (h : Bld B E W w1 v es Fs) (hx : RepL w1 ys cs Fx) (hfx : Fr B w1 Fx)
    (hd : ∀ b ∈ Fx, b ∉ Fs ∧ v.ownBlock ≠ some b)
    (hown : ∀ xs, w1.ownsRow B E W v es.length xs → RepL w1 es xs Fs → w2.ownsRow B E W v2 (es.length + ys.length) (xs ++ cs))
    (hg : w1.grownBy w2 v.ownBlock) (hv2 : v2.ownBlock = v.ownBlock ∨ v2.ownBlock = some w1.heap.size) : Bld B E W w2 v2 (es ++ ys) (Fs ++ Fx) := by
  obtain ⟨⟨xs, h1, h2⟩, h3, h4⟩ := h
  have sFs : Same w1 w2 Fs := ⟨hg.size, fun b hb => hg.block b (h3.lt b hb) (fun e => h4 b e.symm hb)⟩
  have sFx : Same w1 w2 Fx := ⟨hg.size, fun b hb => hg.block b (hfx.lt b hb) (fun e => (hd b hb).2 e.symm)⟩
  refine ⟨⟨xs ++ cs, by simpa using hown xs h1 h2, (h2.keep sFs).append (hx.keep sFx)⟩, (h3.keep sFs).append (hfx.keep sFx) (fun b hb hb' => (hd b hb').1 hb), ?_⟩
  intro g hg2 hmem
  rcases hv2 with e | e
  · rw [e] at hg2
    rcases List.mem_append.1 hmem with hm | hm
    · exact h4 g hg2 hm
    · exact (hd g hm).2 hg2
  · rw [e] at hg2
    obtain rfl : w1.heap.size = g := by simpa using hg2
    rcases List.mem_append.1 hmem with hm | hm
    · have := h3.lt _ hm; omega
    · have := hfx.lt _ hm; omega

theorem ownsRow_unique {n : Nat} {xs ys : List Value} (h : w.ownsRow B E W v n xs) (k : w.ownsRow B E W v n ys) : xs = ys := by
  rcases h.2 with ⟨rfl, hn⟩ | ⟨g, cap, cur, rfl, hb, hh, hnc, hcm, hcs, htake⟩
  · subst hn
    have e1 : xs = [] := List.eq_nil_of_length_eq_zero (by simpa using h.1)
    have e2 : ys = [] := List.eq_nil_of_length_eq_zero (by simpa using k.1)
    rw [e1, e2]
  · rcases k.2 with ⟨h', _⟩ | ⟨g', cap', cur', h', hb', hh', _, _, _, htake'⟩
    · simp at h'
    · simp only [Value.slice.injEq, Option.some.injEq, Addr.mk.injEq, and_true, true_and] at h'
      obtain ⟨rfl, rfl⟩ := h'
      rw [hh] at hh'
      simp only [Option.some.injEq, Obj.cells.injEq, and_true] at hh'
      rw [← htake, ← htake', hh']

theorem Bld.form (h : Bld B E W w v es Fs) : ∃ A c, v = .slice A es.length c := by
  obtain ⟨⟨xs, h1, h2⟩, h3, h4⟩ := h
  rcases h1.2 with ⟨rfl, hn⟩ | ⟨g, cap, cur, rfl, _⟩
  · exact ⟨none, 0, by rw [hn]⟩
  · exact ⟨_, _, rfl⟩

end

theorem stores_own {B E W g n cap : Nat} : ∀ (cs : List Value) (w : World) (k : Nat) (xs : List Value), w.ownsRow B E W (.slice (some ⟨g, 0, none⟩) n cap) n xs →
    (w.setCells g k cs).ownsRow B E W (.slice (some ⟨g, 0, none⟩) n cap) n (xs.take k ++ (cs ++ xs.drop (k + cs.length)).take (xs.length - k)) ∧ w.grownBy (w.setCells g k cs) (some g)
  | [], w, k, xs, h => by
    refine ⟨?_, World.grownBy.refl _ _⟩
    have e : xs.take k ++ ([] ++ xs.drop (k + ([] : List Value).length)).take (xs.length - k) = xs := by
      have e1 : ([] ++ xs.drop (k + ([] : List Value).length)).take (xs.length - k) = xs.drop k := by
        rw [List.nil_append, List.length_nil, Nat.add_zero]; exact List.take_of_length_le (by simp)
      rw [e1, List.take_append_drop]
    rw [e]
    exact h
  | c :: cs, w, k, xs, h => by
    obtain ⟨h1, h2⟩ := h.stored k c
    obtain ⟨h3, h4⟩ := stores_own cs (w.setCell ⟨g, k, none⟩ c) (k + 1) (xs.set k c) h1
    have hg : w.grownBy ((w.setCell ⟨g, k, none⟩ c).setCells g (k + 1) cs) (some g) :=
      ⟨h4.os.trans h2.os, h4.tape.trans h2.tape, h4.output.trans h2.output, Nat.le_trans h2.size h4.size, fun i hi hne => (h4.block i (Nat.lt_of_lt_of_le hi h2.size) hne).trans (h2.block i hi hne)⟩
    refine ⟨?_, hg⟩
    have e : (xs.set k c).take (k + 1) ++ (cs ++ (xs.set k c).drop (k + 1 + cs.length)).take ((xs.set k c).length - (k + 1)) =
        xs.take k ++ (c :: cs ++ xs.drop (k + (c :: cs).length)).take (xs.length - k) := by
      rw [List.length_set, List.drop_set_of_lt (by omega)]
      by_cases hk : k < xs.length
      · rw [List.take_succ_eq_append_getElem (by simpa using hk), List.take_set_of_le (Nat.le_refl _)]
        simp only [List.getElem_set_self, List.append_assoc, List.cons_append, List.length_cons]
        rw [show xs.length - k = (xs.length - (k + 1)) + 1 from by omega, List.take_succ_cons, show k + 1 + cs.length = k + (cs.length + 1) from by omega]
        rfl
      · rw [List.set_eq_of_length_le (by omega), show xs.length - (k + 1) = 0 from by omega, show xs.length - k = 0 from by omega, List.take_zero, List.take_zero,
          List.take_of_length_le (by omega), List.take_of_length_le (by omega)]
    rw [← e]
    exact h3


mutual
theorem Rep.one {w : World} : ∀ {d : D} {cs : List Value} {F : List Nat}, Rep w d cs F → ∀ u ∈ cs, u.oneCell' = true
  | .int _, _, _, h => by simp only [Rep] at h; simp [h.1, Value.oneCell']
  | .byte _, _, _, h => by simp only [Rep] at h; simp [h.1, Value.oneCell']
  | .bool _, _, _, h => by simp only [Rep] at h; simp [h.1, Value.oneCell']
  | .str _, _, _, h => by simp only [Rep] at h; simp [h.1, Value.oneCell']
  | .agg _, _, _, h => by simp only [Rep] at h; exact RepL.one_ h
  | .sl _, _, _, h => by simp only [Rep] at h; obtain ⟨A, c, h, _⟩ := h; simp [h, Value.oneCell']
theorem RepL.one_ {w : World} : ∀ {ds : List D} {cs : List Value} {F : List Nat}, RepL w ds cs F → ∀ u ∈ cs, u.oneCell' = true
  | [], _, _, h => by simp only [RepL] at h; simp [h.1]
  | _ :: _, _, _, h => by
    simp only [RepL] at h
    obtain ⟨c1, c2, F1, F2, rfl, rfl, h1, h2⟩ := h
    intro u hu
    rcases List.mem_append.1 hu with hu | hu
    · exact Rep.one h1 u hu
    · exact RepL.one_ h2 u hu
end

section
variable {P : Program} (w : World)

theorem run_append_none (B t ty E : Nat) (i : TypeInfo) (W : Nat) (ht : P.underlying t = some (.slice E)) (hi : P.info? E = some i)
    (v : Value) (n : Nat) (xs : List Value) (hown : w.ownsRow B E W v n xs) (c : Nat) : (Builtin.append_ #[t, t] ty #[v, .slice none 0 c]).run P w = .ok v w := by
  rcases hown.2 with ⟨rfl, rfl⟩ | ⟨g, cap, cur, rfl, _, _, hnc, _⟩
  · simp [Builtin.append_, run_underlying ht, sizeOf, typeInfo, hi, Builtin.lenOf, Builtin.firstCells]
  · simp [Builtin.append_, run_underlying ht, sizeOf, typeInfo, hi, Builtin.lenOf, Builtin.firstCells, hnc, storeCells]

/-- The source of an append: m elements that read as `ys`. -/
def Src (w : World) (A : Option Addr) (m : Nat) (ys : List D) (cs : List Value) (Fx : List Nat) : Prop :=
  ys.length = m ∧ RepL w ys cs Fx ∧ ((A = none ∧ m = 0) ∨ ∃ b off, A = some ⟨b, off, none⟩ ∧ CellsAt w b off cs)

theorem wpList_append_bld {ops : Array Oper} {rest : List Oper} {o : Oper} {a : Act} {Q : Exit → Act → World → Prop} (hgd : o.guard = none) (s x : Operand) (t : TypeId)
    (ho : o.op = .call { callee := .builtin .append, args := #[s, x], argTypes := #[t, t] })
    (B E W bytes : Nat) (z : Value) (ht : P.underlying t = some (.slice E)) (hinfo : (P.info? E).map (fun i => (i.zero, i.size, i.bytes)) = some (some z, W, bytes)) (hzs : z.cells.size = W) (hsz : 0 < W)
    (v : Value) (es : List D) (Fs : List Nat) (hs : a.eval s = v) (h : Bld B E W w v es Fs)
    (A : Option Addr) (m c : Nat) (ys : List D) (cs : List Value) (Fx : List Nat) (hx : a.eval x = .slice A m c) (hsrc : Src w A m ys cs Fx) (hW : wdL ys = m * W) (hfx : Fr B w Fx)
    (hd : ∀ b ∈ Fx, b ∉ Fs ∧ v.ownBlock ≠ some b)
    (hbytes : (es.length + m) * bytes ≤ 140737488355328) (hby : 0 < bytes) (hbase : B ≤ w.heap.size)
    (hk : ∀ A' c' w', Bld B E W w' (.slice A' (es.length + m) c') (es ++ ys) (Fs ++ Fx) → w.grownBy w' v.ownBlock → wpList P ops Q rest (a.put o.dst (.slice A' (es.length + m) c')) w') : wpList P ops Q (o :: rest) a w := by
  obtain ⟨i, hi, hz, hsize, hbt⟩ := info_parts hinfo
  obtain ⟨hm, hr, hA⟩ := hsrc
  have hlen : es.length + m ≤ 140737488355328 := Nat.le_trans (by have := Nat.le_mul_of_pos_right (es.length + m) hby; exact this) hbytes
  have hcs : cs.length = m * W := by rw [hr.len, hW]
  have key : ∃ v' w', (Builtin.append_ #[t, t] o.type #[v, .slice A m c]).run P w = .ok v' w' ∧ Bld B E W w' v' (es ++ ys) (Fs ++ Fx) ∧ w.grownBy w' v.ownBlock := by
    obtain ⟨⟨xs, h1, h2⟩, h3, h4⟩ := h
    rcases hA with ⟨rfl, rfl⟩ | ⟨b, off, rfl, hc⟩
    · have hys : ys = [] := List.eq_nil_of_length_eq_zero hm
      subst hys
      simp only [RepL] at hr
      obtain ⟨rfl, rfl⟩ := hr
      refine ⟨v, w, run_append_none w B t o.type E i W ht hi v _ xs h1 c, ?_, World.grownBy.refl _ _⟩
      rw [List.append_nil, List.append_nil]
      exact ⟨⟨xs, h1, h2⟩, h3, h4⟩
    · obtain ⟨v', w', hrun, g1, g2, _, g4⟩ := run_append_own_at (P := P) w B t o.type E i z W bytes ht hi hz hsize hbt hzs hsz v es.length xs h1 ⟨b, off, none⟩ m c cs hcs
        (fun j u hu => by rw [Addr.add_lit]; exact hc j u hu) hr.one_ (by simp only [maxLen]; omega) hbytes hbase
      refine ⟨v', w', hrun, ?_, g2⟩
      refine Bld.grow ⟨⟨xs, h1, h2⟩, h3, h4⟩ hr hfx hd (fun xs' h1' _ => ?_) g2 g4
      have hxx : xs' = xs := ownsRow_unique h1' h1
      rw [hxx, hm]
      exact g1
  obtain ⟨v', w', hrun, hb, hg⟩ := key
  obtain ⟨A', c', rfl⟩ := hb.form
  have hl : (es ++ ys).length = es.length + m := by rw [List.length_append, hm]
  rw [hl] at hrun hb
  refine wpList_plain hgd fun K hK => ?_
  unfold Oper.wp execOp
  simp only [ho, resolve, invoke, builtin, Sem.run_bind, Sem.run_pure, Result.andThen_ok, List.map_toArray, List.map_cons, List.map_nil, hs, hx, hrun]
  exact hK _ _ (hk A' c' w' hb hg)

theorem RepL.replicate {w : World} {z : D} {cs : List Value} (h : Rep w z cs []) : ∀ n, RepL w (List.replicate n z) (List.replicate n cs).flatten []
  | 0 => ⟨rfl, rfl⟩
  | n + 1 => by
    simp only [List.replicate_succ, List.flatten_cons, RepL]
    exact ⟨cs, _, [], [], rfl, rfl, h, RepL.replicate h n⟩

theorem madeCells_flatten (z : Array Value) (_hz : 0 < z.size) (n : Nat) : (madeCells z (n * z.size)).toList = (List.replicate n z.toList).flatten := by
  apply List.ext_getElem?
  intro j
  have hlen : ((List.replicate n z.toList).flatten).length = n * z.size := by simp
  by_cases hj : j < n * z.size
  · have e1 : (madeCells z (n * z.size)).toList[j]? = some (z[j % z.size]!) := by simp [madeCells, hj]
    rw [e1]
    clear e1
    induction n generalizing j with
    | zero => simp at hj
    | succ n ih =>
      rw [List.replicate_succ, List.flatten_cons]
      by_cases hj' : j < z.size
      · rw [List.getElem?_append_left (by simpa using hj'), Nat.mod_eq_of_lt hj']
        simp [hj']
      · rw [List.getElem?_append_right (by simpa using hj'), Array.length_toList, ← ih (j - z.size) (by simp) (by rw [Nat.add_mul] at hj; omega)]
        rw [Nat.mod_eq_sub_mod (by omega)]
  · rw [List.getElem?_eq_none (by simp [madeCells]; omega), List.getElem?_eq_none (by rw [hlen]; omega)]

/-- make([]T, n): n zero elements. -/
theorem wpList_make_bld {ops : Array Oper} {rest : List Oper} {o : Oper} {a : Act} {Q : Exit → Act → World → Prop} (hg : o.guard = none) (l c : Operand) (t : TypeId) (hop : o.op = Op.makeSlice t l c)
    (E W bytes : Nat) (z : Value) (ht : P.underlying t = some (.slice E)) (hinfo : (P.info? E).map (fun i => (i.zero, i.size, i.bytes)) = some (some z, W, bytes)) (hzs : z.cells.size = W) (hsz : 0 < W)
    (kl kc : IntKind) (L C : Int) (n : Nat) (hl : a.eval l = .int kl L) (hc : a.eval c = .int kc C) (hL : L = (n : Int)) (hC : C = (n : Int)) (b2 : bytes * n ≤ 281474976710656) (b3 : n ≤ 9223372036854775807)
    (zd : D) (hzd : Rep w zd z.cells.toList [])
    (hk : ∀ w', Bld w.heap.size E W w' (.slice (some ⟨w.heap.size, 0, none⟩) n n) (List.replicate n zd) [] → Below w.heap.size w w' → wpList P ops Q rest (a.put o.dst (.slice (some ⟨w.heap.size, 0, none⟩) n n)) w') :
    wpList P ops Q (o :: rest) a w := by
  obtain ⟨i, hi, hz, hsize, hbt⟩ := info_parts hinfo
  subst hbt
  refine wpList_make_full w hg l c t hop w.heap.size E i z W ht hi hz hsize kl kc L C n hl hc hL hC b2 b3 (Nat.le_refl _) fun w' hown hgr => ?_
  have hb : Below w.heap.size w w' := ⟨hgr.os, hgr.tape, hgr.output, hgr.size, fun k hk => hgr.block k hk (by simp)⟩
  refine hk w' ⟨⟨_, ?_, (RepL.replicate (hzd.keep ⟨hgr.size, by simp⟩) n)⟩, Fr.nil _ _, by simp⟩ hb
  subst hzs
  rw [madeCells_flatten _ hsz] at hown
  simpa using hown

theorem Bld.far {w w1 : World} {B E W : Nat} {v : Value} {es : List D} {Fs Fx : List Nat} (h : Bld B E W w v es Fs) (hfx : Fr w.heap.size w1 Fx) : ∀ b ∈ Fx, b ∉ Fs ∧ v.ownBlock ≠ some b := by
  intro b hb
  have h1 := (hfx.2 b hb).1
  refine ⟨fun hF => ?_, fun e => ?_⟩
  · have := h.2.1.lt b hF; omega
  · have := (h.own b e).2; omega

/-- An element of a slice under construction is stored: out[i] = x. -/
theorem Bld.store {w : World} {B E W g n cap k : Nat} {ds es : List D} {z x : D} {cs : List Value} {Fs Fx : List Nat} (h : Bld B E W w (.slice (some ⟨g, 0, none⟩) n cap) (ds ++ z :: es) Fs)
    (hW : ∀ d ∈ ds ++ z :: es, wd d = W) (hxW : wd x = W)
    (hx : Rep w x cs Fx) (hfx : Fr B w Fx) (hd : ∀ b ∈ Fx, b ∉ Fs ∧ Value.ownBlock (.slice (some ⟨g, 0, none⟩) n cap) ≠ some b) (hk : k = ds.length * W) :
    (∃ Fs', Bld B E W (w.setCells g k cs) (.slice (some ⟨g, 0, none⟩) n cap) (ds ++ x :: es) Fs' ∧ ∀ b ∈ Fs', b ∈ Fs ∨ b ∈ Fx) ∧ w.grownBy (w.setCells g k cs) (some g) := by
  subst hk
  obtain ⟨⟨xs, k1, k2⟩, k3, k4⟩ := h
  have hn : (ds ++ z :: es).length = n := by
    rcases k1.2 with ⟨h', _⟩ | ⟨g', cap', cur, h', _⟩
    · simp at h'
    · injection h' with _ h' _; exact h'.symm
  rw [hn] at k1
  obtain ⟨c1, c2, F1, F2, e1, e2, r1, r2⟩ := RepL.split k2
  simp only [RepL] at r2
  obtain ⟨c3, c4, F3, F4, e3, e4, r3, r4⟩ := r2
  subst e3 e4 e2
  have l1 : c1.length = ds.length * W := by rw [r1.len, wdL_uniform (W := W) _ (fun d hd => hW d (by simp [hd]))]
  have l3 : c3.length = W := by rw [r3.len]; exact hW z (by simp)
  have lx : cs.length = W := by rw [hx.len, hxW]
  obtain ⟨s1, s2⟩ := stores_own cs w (ds.length * W) xs k1
  have exs : xs.take (ds.length * W) ++ (cs ++ xs.drop (ds.length * W + cs.length)).take (xs.length - ds.length * W) = c1 ++ (cs ++ c4) := by
    subst e1
    rw [← l1, List.take_left]
    congr 1
    rw [List.drop_append, List.drop_of_length_le (by omega), List.nil_append, show c1.length + cs.length - c1.length = c3.length from by omega, List.drop_left]
    apply List.take_of_length_le
    simp only [List.length_append]; omega
  rw [exs] at s1
  have hne : ∀ b ∈ Fx, b ≠ g := fun b hb e => (hd b hb).2 (by rw [e]; rfl)
  have sF : Same w (w.setCells g (ds.length * W) cs) (F1 ++ (F3 ++ F4)) := ⟨s2.size, fun b hb' => s2.block b (k3.lt b hb') (fun e => k4 g rfl (by obtain rfl := Option.some.inj e; exact hb'))⟩
  have sX : Same w (w.setCells g (ds.length * W) cs) Fx := ⟨s2.size, fun b hb' => s2.block b (hfx.lt b hb') (fun e => hne b hb' (Option.some.inj e))⟩
  have kk := k3.keep sF
  refine ⟨⟨F1 ++ (Fx ++ F4), ⟨⟨c1 ++ (cs ++ c4), ?_, ?_⟩, ?_, ?_⟩, ?_⟩, s2⟩
  · rw [show (ds ++ x :: es).length = n from by rw [← hn]; simp]; exact s1
  · refine (r1.keep sF.left).append ?_
    simp only [RepL]
    exact ⟨cs, c4, Fx, F4, rfl, rfl, hx.keep sX, r4.keep sF.right.right⟩
  · refine kk.left.append ((hfx.keep sX).append kk.right.right fun b hX hF => (hd b hX).1 (by simp [hF])) fun b hF hX => ?_
    rcases List.mem_append.1 hX with hX | hX
    · exact (hd b hX).1 (by simp [hF])
    · have hnd := List.nodup_append.1 k3.1
      exact hnd.2.2 b hF b (by simp [hX]) rfl
  · intro g' hg' hmem
    simp only [Value.ownBlock, Option.some.injEq] at hg'
    subst hg'
    simp only [List.mem_append] at hmem
    rcases hmem with hm | hm | hm
    · exact k4 _ rfl (by simp [hm])
    · exact hne _ hm rfl
    · exact k4 _ rfl (by simp [hm])
  · intro b hb'
    simp only [List.mem_append] at hb' ⊢
    rcases hb' with hb' | hb' | hb'
    · exact .inl (.inl hb')
    · exact .inr hb'
    · exact .inl (.inr (.inr hb'))

theorem run_storeVar_cells (b k : Nat) (ty : TypeId) (v : Value) (hi : (P.info? ty).map (·.size) = some v.cells.toList.length)
    (hc : ∀ j, j < v.cells.toList.length → (w.cell? ⟨b, k + j, none⟩).isSome = true) (hf : ∀ j, j < v.cells.toList.length → w.frozen? ⟨b, k + j, none⟩ = false) (h1 : ∀ u ∈ v.cells.toList, u.oneCell' = true) :
    (storeVar ty ⟨b, k, none⟩ v).run P w = .ok () (w.setCells b k v.cells.toList) := by
  have h := run_storeCells_cells (P := P) b k v.cells.toList 0 w (by simpa using hc) (by simpa using hf) h1
  cases hq : P.info? ty with
  | none => simp [hq] at hi
  | some i =>
    have hs : i.size = v.cells.size := by simpa [hq] using hi
    simp only [Nat.add_zero] at h
    simp [storeVar, sizeOf, typeInfo, hq, hs, h]

/-- A store of whatever value into a row that the call itself has made, at an element's place. -/
theorem wpList_store_bld {ops : Array Oper} {rest : List Oper} {o : Oper} {a : Act} {Q : Exit → Act → World → Prop} (hgd : o.guard = none) (ty : TypeId) (p y : Operand) (ho : o.op = .store ty p y)
    {B E W g n cap k : Nat} {ds es : List D} {z x : D} {cs : List Value} {Fs Fx : List Nat} (v : Value) (hx : a.eval p = .pointer (some ⟨g, k, none⟩)) (hy : a.eval y = v) (hv : v.cells.toList = cs)
    {zv : Option Value} {bytes : Nat} (hinfo : (P.info? ty).map (fun i => (i.zero, i.size, i.bytes)) = some (zv, W, bytes)) (h : Bld B E W w (.slice (some ⟨g, 0, none⟩) n cap) (ds ++ z :: es) Fs)
    (hW : ∀ d ∈ ds ++ z :: es, wd d = W) (hxW : wd x = W) (hxr : Rep w x cs Fx) (hfx : Fr B w Fx) (hd : ∀ b ∈ Fx, b ∉ Fs ∧ Value.ownBlock (.slice (some ⟨g, 0, none⟩) n cap) ≠ some b) (hk : k = ds.length * W)
    (hK : ∀ w' Fs', Bld B E W w' (.slice (some ⟨g, 0, none⟩) n cap) (ds ++ x :: es) Fs' → w.grownBy w' (some g) → (∀ b ∈ Fs', b ∈ Fs ∨ b ∈ Fx) → wpList P ops Q rest (a.put o.dst undef) w') :
    wpList P ops Q (o :: rest) a w := by
  have lx : cs.length = W := by rw [hxr.len, hxW]
  have hi : (P.info? ty).map (·.size) = some W := by
    obtain ⟨i, hi, hzz⟩ := Option.map_eq_some_iff.1 hinfo
    simp only [Prod.mk.injEq] at hzz
    rw [hi, ← hzz.2.1]; rfl
  have hrun : (storeVar ty ⟨g, k, none⟩ v).run P w = .ok () (w.setCells g k v.cells.toList) := by
    obtain ⟨⟨xs, k1, k2⟩, k3, k4⟩ := h
    have hxl : xs.length = (ds ++ z :: es).length * W := k1.1
    have hlt : ∀ j, j < v.cells.toList.length → k + j < xs.length := fun j hj => by
      rw [hv, lx] at hj
      rw [hxl, hk, List.length_append, List.length_cons, Nat.add_mul, Nat.add_mul]; omega
    refine run_storeVar_cells w g k ty v (by rw [hv, lx]; exact hi) (fun j hj => ?_) (fun j hj => ?_) (by rw [hv]; exact hxr.one)
    · have := k1.cells (g := g) rfl (k + j) (xs[k + j]'(hlt j hj)) (List.getElem?_eq_getElem _)
      rw [Addr.add_lit, Nat.zero_add] at this
      rw [this]; rfl
    · obtain ⟨_, cur, t, hh⟩ := ownsRow_plain k1 g rfl
      exact frozen_of_row w g _ cur t hh
  obtain ⟨⟨Fs', h1, h2⟩, h3⟩ := h.store hW hxW hxr hfx hd hk
  refine wpList_plain hgd fun K hK' => ?_
  unfold Oper.wp execOp
  simp only [ho, hx, hy, Instr.storeAt, Instr.sureAddr, Sem.run_bind, Sem.run_pure, Result.andThen_ok, hrun]
  rw [hv]
  exact hK' _ _ (hK _ Fs' h1 h3 h2)
end

end Go.Proofs.Ytopjlbifglacpaa
