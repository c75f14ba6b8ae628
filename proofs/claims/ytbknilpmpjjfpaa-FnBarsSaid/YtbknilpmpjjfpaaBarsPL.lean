/- FnBars: bars of a drawn value lie inside the canvas, side by side, and no greater number has a lower top: the mirrored law answers true. -/
import Derived.Test.YtbknilpmpjjfpaaBarsOfL
import Derived.Test.YtbknilpmpjjfpaaDvL
import Derived.Test.YtbknilpmpjjfpaaLaFnBars
import Derived.Test.YtbknilpmpjjfpaaMd1
import Derived.Test.YtbknilpmpjjfpaaMd4
set_option linter.unusedSimpArgs false
set_option linter.unusedVariables false
namespace Go.Proofs.Ytbknilpmpjjfpaa
open Go.RowKit Am
theorem lo_le : ∀ (xs : List Int) (z : Int), loOf xs z ≤ z ∧ ∀ x ∈ xs, loOf xs z ≤ x
  | [], z => ⟨Int.le_refl _, by simp⟩
  | x :: xs, z => by
    obtain ⟨h1, h2⟩ := lo_le xs (if x < z then x else z)
    have e : loOf (x :: xs) z = loOf xs (if x < z then x else z) := rfl
    rw [e]
    refine ⟨?_, fun y hy => ?_⟩
    · split at h1 <;> split <;> omega
    · rcases List.mem_cons.1 hy with rfl | hy
      · split at h1 <;> split <;> omega
      · exact h2 y hy
theorem hi_ge : ∀ (xs : List Int) (z : Int), z ≤ hiOf xs z ∧ ∀ x ∈ xs, x ≤ hiOf xs z
  | [], z => ⟨Int.le_refl _, by simp⟩
  | x :: xs, z => by
    obtain ⟨h1, h2⟩ := hi_ge xs (if x > z then x else z)
    have e : hiOf (x :: xs) z = hiOf xs (if x > z then x else z) := rfl
    rw [e]
    refine ⟨?_, fun y hy => ?_⟩
    · split at h1 <;> split <;> omega
    · rcases List.mem_cons.1 hy with rfl | hy
      · split at h1 <;> split <;> omega
      · exact h2 y hy
theorem mul_bd {a h A H : Int} (h0 : 0 ≤ a) (h1 : a ≤ A) (g0 : 0 ≤ h) (g1 : h ≤ H) : 0 ≤ a * h ∧ a * h ≤ A * H :=
  ⟨Int.mul_nonneg h0 g0, Int.mul_le_mul h1 g1 g0 (Int.le_trans h0 h1)⟩
theorem part_eq {a h c d : Int} (h0 : 0 ≤ a) (h1 : a ≤ 2000000000) (g0 : 0 ≤ h) (g1 : h ≤ 1000) (hc : 0 < c) : partV a h c d = a * h / c := by
  unfold partV
  have b := mul_bd h0 h1 g0 g1
  have q0 : 0 ≤ a * h / c := Int.ediv_nonneg b.1 (by omega)
  have q1 : a * h / c ≤ a * h := Int.ediv_le_self _ b.1
  rw [if_neg (by omega), w64 (n := a * h) (by omega) (by omega), Int.tdiv_eq_ediv_of_nonneg b.1, w64 (by omega) (by omega)]
theorem part_bd {a h c : Int} (h0 : 0 ≤ a) (h1 : a ≤ c) (hc : c ≤ 2000000000) (g0 : 0 ≤ h) (g1 : h ≤ 1000) : 0 ≤ partV a h c h ∧ partV a h c h ≤ h := by
  by_cases e : c = 0
  · unfold partV; rw [if_pos e]; omega
  · rw [part_eq h0 (by omega) g0 g1 (by omega)]
    exact ⟨Int.ediv_nonneg (Int.mul_nonneg h0 g0) (by omega), Int.ediv_le_of_le_mul (by omega) (by rw [Int.mul_comm h c]; exact Int.mul_le_mul_of_nonneg_right h1 g0)⟩
theorem part_mono {a b h c : Int} (h0 : 0 ≤ a) (hab : a ≤ b) (h1 : b ≤ 2000000000) (g0 : 0 ≤ h) (g1 : h ≤ 1000) (hc : 0 ≤ c) : partV a h c h ≤ partV b h c h := by
  by_cases e : c = 0
  · unfold partV; rw [if_pos e, if_pos e]; omega
  · rw [part_eq h0 (by omega) g0 g1 (by omega), part_eq (by omega) h1 g0 g1 (by omega)]
    exact Int.ediv_le_ediv (by omega) (Int.mul_le_mul_of_nonneg_right hab g0)
def px (w n i : Int) : Int := i * w / n
theorem px_eq {w n i : Int} (h0 : 0 ≤ i) (h1 : i ≤ 2000000000) (g0 : 0 ≤ w) (g1 : w ≤ 1000) (hn : 0 < n) : IntKind.i64.wrap ((IntKind.i64.wrap (i * w)).tdiv n) = px w n i := by
  have := part_eq (d := 0) h0 h1 g0 g1 hn
  unfold partV at this
  rw [if_neg (by omega)] at this
  exact this
theorem px_mono {w n i j : Int} (h : i ≤ j) (g0 : 0 ≤ w) (hn : 0 < n) : px w n i ≤ px w n j := Int.ediv_le_ediv hn (Int.mul_le_mul_of_nonneg_right h g0)
theorem px_0 {w n : Int} : px w n 0 = 0 := by unfold px; simp
theorem px_n {w n : Int} (hn : 0 < n) : px w n n = w := by unfold px; exact Int.mul_ediv_cancel_left _ (by omega)
theorem canvas_bd (w h : Int) (hc : canvas w h = true) : (1 ≤ w ∧ w ≤ 1000) ∧ 1 ≤ h ∧ h ≤ 1000 := by simpa [canvas] using hc
theorem bars_get (v : TValue) (w h : Int) (i : Nat) (hi : i < v.list.length) : (barsV v w h)[i]? = some (barV w h v.list.length (loOf (numsOf v) 0) (hiOf (numsOf v) 0) i v.list[i].n) := by
  simp [barsV, numsOf, hi]
section
variable (v : TValue) (w h : Int) (hl : v.list.length ≤ 1048576) (h0 : v.list.length ≠ 0) (hn : ∀ x ∈ numsOf v, -1000000000 ≤ x ∧ x ≤ 1000000000) (hc : canvas w h = true)
include hl h0 hn hc
theorem bar_at (i : Nat) (il : i < v.list.length) :
    let m := barV w h v.list.length (loOf (numsOf v) 0) (hiOf (numsOf v) 0) i v.list[i].n
    m.x = px w v.list.length i ∧ m.w = px w v.list.length ((i + 1 : Nat) : Int) - px w v.list.length i ∧ (0 ≤ m.y ∧ 0 ≤ m.h ∧ m.y + m.h ≤ h) ∧ ∀ (j : Nat) (hj : j < v.list.length), v.list[i].n ≤ v.list[j].n → (barV w h v.list.length (loOf (numsOf v) 0) (hiOf (numsOf v) 0) j v.list[j].n).y ≤ m.y := by
  have _ := h0
  obtain ⟨⟨w0, w1⟩, k0, k1⟩ := canvas_bd w h hc
  have L := lo_le (numsOf v) 0
  have H := hi_ge (numsOf v) 0
  have bl := lo_bd 1000000000 (numsOf v) 0 (by omega) (by omega) hn
  have bh := hi_bd 1000000000 (numsOf v) 0 (by omega) (by omega) hn
  revert L H bl bh
  generalize hlo : loOf (numsOf v) 0 = lo
  generalize hhi : hiOf (numsOf v) 0 = hi
  intro L H bl bh
  have mem : ∀ (j : Nat) (hj : j < v.list.length), v.list[j].n ∈ numsOf v := fun j hj => List.mem_map.2 ⟨_, List.getElem_mem hj, rfl⟩
  have eD : IntKind.i64.wrap (hi - lo) = hi - lo := w64 (by omega) (by omega)
  have ey : ∀ (j : Nat) (hj : j < v.list.length), (barV w h v.list.length lo hi j v.list[j].n).y = (if partV hi h (hi - lo) h < partV (hi - v.list[j].n) h (hi - lo) h then partV hi h (hi - lo) h else partV (hi - v.list[j].n) h (hi - lo) h) := fun j hj => by
    have a1 := L.2 _ (mem j hj); have a2 := H.2 _ (mem j hj)
    have e1 : IntKind.i64.wrap (hi - v.list[j].n) = hi - v.list[j].n := w64 (by omega) (by omega)
    simp only [barV, eD, e1]
  have a1 := L.2 _ (mem i il); have a2 := H.2 _ (mem i il)
  have e1 : IntKind.i64.wrap (hi - v.list[i].n) = hi - v.list[i].n := w64 (by omega) (by omega)
  have pt := part_bd (a := hi - v.list[i].n) (h := h) (c := hi - lo) (by omega) (by omega) (by omega) (by omega) k1
  have pz := part_bd (a := hi) (h := h) (c := hi - lo) (by omega) (by omega) (by omega) (by omega) k1
  have i1 : IntKind.i64.wrap ((i : Int) + 1) = ((i + 1 : Nat) : Int) := wS i (by omega)
  have x1 : IntKind.i64.wrap ((IntKind.i64.wrap ((i : Int) * w)).tdiv (v.list.length : Int)) = px w v.list.length i := px_eq (by omega) (by omega) (by omega) w1 (by omega)
  have x2 : IntKind.i64.wrap ((IntKind.i64.wrap (((i + 1 : Nat) : Int) * w)).tdiv (v.list.length : Int)) = px w v.list.length ((i + 1 : Nat) : Int) := px_eq (by omega) (by omega) (by omega) w1 (by omega)
  have b0 : 0 ≤ px w v.list.length i := by have := px_mono (w := w) (n := v.list.length) (i := 0) (j := i) (by omega) (by omega) (by omega); rw [px_0] at this; exact this
  have b1 : px w v.list.length i ≤ px w v.list.length ((i + 1 : Nat) : Int) := px_mono (by omega) (by omega) (by omega)
  have b2 : px w v.list.length ((i + 1 : Nat) : Int) ≤ w := by have := px_mono (w := w) (n := v.list.length) (i := ((i + 1 : Nat) : Int)) (j := v.list.length) (by omega) (by omega) (by omega); rw [px_n (by omega)] at this; exact this
  refine ⟨?_, ?_, ?_, fun j hj hx => ?_⟩
  · simp only [barV]; exact x1
  · simp only [barV, i1, x1, x2]; rw [w64 (by omega) (by omega)]
  · rw [ey i il]
    simp only [barV, eD, e1]
    have e5 : ∀ p : Int, -1000 ≤ p → p ≤ 1000 → IntKind.i64.wrap p = p := fun p q0 q1 => w64 (by omega) (by omega)
    by_cases g : partV hi h (hi - lo) h < partV (hi - v.list[i].n) h (hi - lo) h
    · simp only [if_pos g, if_neg (show ¬ partV hi h (hi - lo) h > partV (hi - v.list[i].n) h (hi - lo) h by omega)]
      rw [e5 _ (by omega) (by omega)]; omega
    · simp only [if_neg g]
      split
      · rw [e5 _ (by omega) (by omega)]; omega
      · rw [e5 _ (by omega) (by omega)]; omega
  · rw [ey i il, ey j hj]
    have a3 := L.2 _ (mem j hj); have a4 := H.2 _ (mem j hj)
    have := part_mono (a := hi - v.list[j].n) (b := hi - v.list[i].n) (h := h) (c := hi - lo) (by omega) (by omega) (by omega) (by omega) k1 (by omega)
    split <;> split <;> omega
theorem inside_ok {k : Nat} (hk : 1048700 < k) : i_IsInside k ⟨w, h, barsV v w h⟩ = some true := by
  obtain ⟨⟨w0, w1⟩, k0, k1⟩ := canvas_bd w h hc
  have hln : (barsV v w h).length = v.list.length := by simp [barsV, numsOf]
  have key := loopE (fun n (_ : Unit) i => i_IsInside_u1 ⟨w, h, barsV v w h⟩ n i) (fun _ => ()) (some (.inl ())) v.list.length
    (fun n i hi => by
      have g := bar_at v w h hl h0 hn hc i hi
      have ea := bars_get v w h i hi
      have b1 : px w v.list.length ((i + 1 : Nat) : Int) ≤ w := by have := px_mono (w := w) (n := v.list.length) (i := ((i + 1 : Nat) : Int)) (j := v.list.length) (by omega) (by omega) (by omega); rw [px_n (by omega)] at this; exact this
      have b0 : 0 ≤ px w v.list.length i := by have := px_mono (w := w) (n := v.list.length) (i := 0) (j := i) (by omega) (by omega) (by omega); rw [px_0] at this; exact this
      have b2 : px w v.list.length i ≤ px w v.list.length ((i + 1 : Nat) : Int) := px_mono (by omega) (by omega) (by omega)
      try simp only at g
      try simp only
      rw [i_IsInside_u1]
      simp only [hln]
      rw [if_pos (lt_yes hi), at_nat, ea]
      revert g
      generalize barV w h v.list.length (loOf (numsOf v) 0) (hiOf (numsOf v) 0) i v.list[i].n = m
      rintro ⟨g1, g2, ⟨g3, g4, g5⟩, _⟩
      have d1 : decide (m.x < 0) = false := by simp; omega
      have d2 : decide (m.y < 0) = false := by simp; omega
      have d3 : decide (m.w < 0) = false := by simp; omega
      have d4 : decide (m.h < 0) = false := by simp; omega
      have e1 : IntKind.i64.wrap (m.x + m.w) = m.x + m.w := w64 (by omega) (by omega)
      have e2 : IntKind.i64.wrap (m.y + m.h) = m.y + m.h := w64 (by omega) (by omega)
      have d5 : decide (w < m.x + m.w) = false := by simp; omega
      have d6 : decide (h < m.y + m.h) = false := by simp; omega
      simp only [Option.bind_some, d1, d2, d3, d4, e1, e2, d5, d6, wS i (by omega)]
      rfl)
    (fun n => by
      try simp only
      rw [i_IsInside_u1]
      simp only [hln]
      rw [if_neg (lt_no (Nat.le_refl _))]) (k := k) (by omega)
  unfold i_IsInside
  rw [key]
  have d1 : decide (0 ≤ w) = true := by simp; omega
  have d2 : decide (0 ≤ h) = true := by simp; omega
  simp [d1, d2]
  try omega
theorem tops_ok (x7 : Int) (i : Nat) (hi : i < v.list.length) (m : TMark) {k : Nat} (hk : 1048700 < k) : w_FnBars_u2 (v, w, h) (⟨w, h, barsV v w h⟩, true) x7 i m k 0 = some (.inl (IntKind.i64.wrap (x7 + m.w))) := by
  exact loopE (fun n (_ : Unit) j => w_FnBars_u2 (v, w, h) (⟨w, h, barsV v w h⟩, true) x7 i m n j) (fun _ => ()) (some (.inl (IntKind.i64.wrap (x7 + m.w)))) i
    (fun n j hj => by
      have hjl : j < v.list.length := by omega
      have g := (bar_at v w h hl h0 hn hc i hi).2.2.2 j hjl
      try simp only at g
      try simp only
      rw [w_FnBars_u2]
      try simp only
      rw [if_pos (lt_yes hj), at_in hjl, at_in hi, at_nat, bars_get v w h j hjl, at_nat, bars_get v w h i hi]
      simp only [Option.bind_some, wS j (by omega)]
      by_cases c1 : v.list[i].n ≤ v.list[j].n
      · have g := g c1
        by_cases c2 : 0 ≤ v.list[i].n
        · have d : decide ((barV w h v.list.length (loOf (numsOf v) 0) (hiOf (numsOf v) 0) i v.list[i].n).y < (barV w h v.list.length (loOf (numsOf v) 0) (hiOf (numsOf v) 0) j v.list[j].n).y) = false := by simp; omega
          simp only [c1, c2, d, decide_true, if_true]; rfl
        · simp only [c1, c2, decide_true, decide_false, if_true]; rfl
      · simp only [c1, decide_false]; rfl)
    (fun n => by
      try simp only
      rw [w_FnBars_u2, if_neg (lt_no (Nat.le_refl _))]) (k := k) (by omega)
theorem bars_ok {k : Nat} (hk : 1048700 < k) : w_FnBars_u1 k (v, w, h) (⟨w, h, barsV v w h⟩, true) (⟨w, h, barsV v w h⟩, true) k 0 0 = some (.inl w) := by
  obtain ⟨⟨w0, w1⟩, k0, k1⟩ := canvas_bd w h hc
  have hln : (barsV v w h).length = v.list.length := by simp [barsV, numsOf]
  have key := loopE (fun n (s : Int) i => w_FnBars_u1 k (v, w, h) (⟨w, h, barsV v w h⟩, true) (⟨w, h, barsV v w h⟩, true) n s i) (fun i => px w v.list.length i) (some (.inl w)) v.list.length
    (fun n i hi => by
      have g := bar_at v w h hl h0 hn hc i hi
      have b1 : px w v.list.length ((i + 1 : Nat) : Int) ≤ w := by have := px_mono (w := w) (n := v.list.length) (i := ((i + 1 : Nat) : Int)) (j := v.list.length) (by omega) (by omega) (by omega); rw [px_n (by omega)] at this; exact this
      have b0 : 0 ≤ px w v.list.length ((i + 1 : Nat) : Int) := by have := px_mono (w := w) (n := v.list.length) (i := 0) (j := ((i + 1 : Nat) : Int)) (by omega) (by omega) (by omega); rw [px_0] at this; exact this
      try simp only at g
      try simp only
      rw [w_FnBars_u1]
      simp only [hln]
      rw [if_pos (lt_yes hi), at_nat, bars_get v w h i hi]
      simp only [Option.bind_some]
      rw [tops_ok v w h hl h0 hn hc _ i hi _ hk]
      simp only [g.1, g.2.1, decide_true, Bool.and_self, Bool.not_true, Bool.false_eq_true, if_false, Option.bind_some, wS i (by omega)]
      rw [show px w v.list.length i + (px w v.list.length ((i + 1 : Nat) : Int) - px w v.list.length i) = px w v.list.length ((i + 1 : Nat) : Int) by omega, w64 (by omega) (by omega)])
    (fun n => by
      try simp only
      rw [w_FnBars_u1]
      simp only [hln]
      rw [if_neg (lt_no (Nat.le_refl _)), px_n (by omega)]) (k := k) (by omega)
  try simp only at key
  rw [show ((0 : Nat) : Int) = 0 from rfl, px_0] at key
  exact key
end
theorem draw_bars (a : List Int) (ha : a.length ≤ 1048576) : Tot (fun r : TValue × Int × Int => r.1.bk ≤ 1048576) fun k => s_DrawBarsOf k a := by
  unfold s_DrawBarsOf
  refine .bind (new_tot a ha) fun c hc => .bind (numbers_tot hc) fun v hv => ?_
  have hb := v.1.bk_eq
  have hv1 := hv.1
  refine .bind (p := fun r : List Int × Int × Int × Int × Int × Int × ByteArray × List TValue × List ByteArray × List TRow => (r.2.2.2.2.2.2.1.size + (bkS TValue.bk r.2.2.2.2.2.2.2.1 + (bkS ByteArray.size r.2.2.2.2.2.2.2.2.1 + bkS TRow.bk r.2.2.2.2.2.2.2.2.2)) ≤ 40000) ∧ Cu ⟨r.1, r.2.1, r.2.2.1⟩) ?_ fun r hr => ?_
  · refine .bind (once_tot 8 hv.2) fun u hu => .ite (fun _ => .bind (bent_tot hu) fun t ht => .ret ⟨?_, ht.2⟩) fun _ => .ret ⟨by simp only; omega, hu⟩
    have := t.1.bk_eq; have := ht.1; simp only; omega
  · obtain ⟨a1, a2, a3, a4, a5, a6, a7, a8, a9, a10⟩ := r
    obtain ⟨h1, h2⟩ := hr
    refine .bind (pickInt_tot _ h2 (by simp)) fun t ht => .bind (pickInt_tot _ ht.2 (by simp)) fun s hs => .ret ?_
    rw [TValue.bk_eq]
    simp only at h1 ⊢
    omega
theorem FnBars_law (a : List Int) (_h : DOk (.sl (a.map uC))) : ∃ k, w_FnBars k a = some true := by
  by_cases hb : 1048576 < (a.length : Int)
  · exact ⟨0, by unfold w_FnBars w_big; simp [hb]⟩
  obtain ⟨⟨v, w, h⟩, hv, hd⟩ := draw_bars a (by omega)
  simp only at hv
  have hl := (TValue.small hv).list
  obtain ⟨r, hr, he⟩ := BarsOf_agreeV v w h hv
  refine Ev.get (((hd.and he).and (Ev.ge 1048701)).mono ?_)
  rintro k ⟨⟨d, e1, e2⟩, hk⟩
  unfold w_FnBars w_big
  simp only [hb, decide_false, Option.bind_some, d, e1, e2]
  rcases hr with ⟨rfl, h0, hn, hc⟩ | rfl
  · have f1 := bars_ok v w h hl h0 hn hc (k := k) (by omega)
    have f2 := inside_ok v w h hl h0 hn hc (k := k) (by omega)
    have hln : (barsV v w h).length = v.list.length := by simp [barsV, numsOf]
    simp only [f1, f2, hln, Option.bind_some]
    simp
  · simp
end Go.Proofs.Ytbknilpmpjjfpaa
